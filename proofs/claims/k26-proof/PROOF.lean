import PyProof.Rows.All
import Wide.All
import OpenK.AllK
import Wide.FinOn
import HandS.ForMost
import HandS.ForExc
import KE.KExcSuper
import HandS.Lambda
import HandS.RaiseMore
import HandS.FStrTup
import PyProof.ReprRoads
import HandS.TupAny
import HandS.ExcField
import HandS.CallSlots
import HandS.ExcOwn
import HandS.TupMul
import HandS.Wide
import HandS.Style
import HandS.TupLe
import HandS.IsInst
import HandS.WideBits
import HandS.Zip
import KE.KIntText
import PyProof.Rows.Digits
import Wide.Txt
import HandS.Flow
import HandS.Exc
import HandS.Star
import HandS.Text
import HandS.Dict
import HandS.Iter
import KE.GoesEnum
import HandS.Zip0
import KE.KDictZip
import HandS.Defaults
import HandS.HeadHook4
import HandS.EndTab
import HandS.NestedK
import HandS.Head0
import HandS.Head1
import HandS.Head2
import HandS.HeadEnd
import PySem.Challenge.RW_meanclouds_k26_errors_of_rooms
import KE.KStateDown
section
set_option Elab.async false
set_option autoImplicit false
set_option linter.all false
set_option maxRecDepth 100000
set_option maxHeartbeats 2000000
/-! DLa: data, the small language, its evaluator (plain Lean). -/
namespace DL
open PySem

/-- data: what a value is, all the way down; `ref n`: the n-th changeable object of the store -/
inductive D where
  | non | bl (b : Bool) | int (i : Int) | str (x : List Nat) | tup (xs : List D) | lst (xs : List D) | ref (n : Nat) | fn (g : Nat) | exn (c : Nat) (arg : D) | scr (ns : List Int) | map (ks vs : List D) | lams (k : Nat) | lam (j : Nat) | obj (c n : Nat) | dct (n : Nat)
  deriving Inhabited
/-- {} -/
abbrev D.dic : D := .map [] []

/-- the changeable objects: lists -/
abbrev Store := List (List D)
structure Exn where
  c : Nat
  arg : D
inductive Out (α : Type) where
  | ok (a : α) (S : Store) | exc (x : Exn) (S : Store) | bad
def Out.bind {α β : Type} (o : Out α) (f : α → Store → Out β) : Out β := match o with
  | .ok a S => f a S
  | .exc x S => .exc x S
  | .bad => .bad
abbrev Env := List (Option D)
inductive OutS where
  | nx (σ : Env) (S : Store) | ret (d : D) (S : Store) | bk (σ : Env) (S : Store) | ct (σ : Env) (S : Store) | exc (x : Exn) (σ : Env) (S : Store) | bad
/-- what follows a statement -/
def OutS.andThen (o : OutS) (f : Env → Store → OutS) : OutS := match o with
  | .nx σ S => f σ S
  | o => o
/-- an expression within a statement -/
def Out.stm {α : Type} (o : Out α) (σ : Env) (f : α → Store → OutS) : OutS := match o with
  | .ok a S => f a S
  | .exc x S => .exc x σ S
  | .bad => .bad

/-! ### sizes -/
abbrev bigN : Nat := 16777216
def fits (n : Nat) : Bool := Nat.ble n bigN
def small62 (i : Int) : Bool := decide (-(2 ^ 62) ≤ i) && decide (i < 2 ^ 62)

/-! ### equality -/
mutual
def eqv : D → D → Bool
  | .non, .non => true
  | .bl a, .bl b => a == b
  | .bl a, .int j => (if a then 1 else 0) == j
  | .int i, .bl b => i == (if b then 1 else 0)
  | .int i, .int j => i == j
  | .str x, .str y => decide (x = y)
  | .lst xs, .lst ys => eqvs xs ys
  | .tup xs, .tup ys => eqvs xs ys
  | _, _ => false
def eqvs : List D → List D → Bool
  | [], [] => true
  | x :: xs, y :: ys => eqv x y && eqvs xs ys
  | _, _ => false
end
mutual
/-- plain data of at most this depth: no refs, no functions -/
def plain : Nat → D → Bool
  | _, .non => true
  | _, .bl _ => true
  | _, .int _ => true
  | _, .str x => x.all (fun c => Nat.ble (c + 1) 1114112)
  | 0, .tup _ => false
  | n + 1, .tup xs => plains n xs
  | 0, .lst _ => false
  | n + 1, .lst xs => plains n xs
  | _, .ref _ => false
  | _, .fn _ => false
  | _, .exn _ _ => false
  | _, .scr _ => false
  | _, .map _ _ => false
  | _, .lams _ => false
  | _, .lam _ => false
  | _, .obj _ _ => false
  | _, .dct _ => false
def plains : Nat → List D → Bool
  | _, [] => true
  | n, x :: xs => plain n x && plains n xs
end
/-- what a ref holds, as a list -/
def deref (S : Store) : D → D
  | .ref n => (match S[n]? with | some xs => .lst xs | none => .ref n)
  | d => d

/-- a list's items -/
def lOf : D → Store → Option (List D)
  | .lst xs, _ => some xs
  | .ref n, S => S[n]?
  | _, _ => none
/-! ### operators -/
inductive Op where | add | sub | mul | fdiv | mod | pow
  deriving DecidableEq
inductive Cp where | eq | ne | lt | le | gt | ge | is | isn | inn | nin
  deriving DecidableEq
/-- so many copies -/
def rep (xs : List D) : Nat → List D
  | 0 => []
  | n + 1 => xs ++ rep xs n
def repN (xs : List Nat) : Nat → List Nat
  | 0 => []
  | n + 1 => xs ++ repN xs n
def opAdd : D → D → Store → Out D
  | .int i, .int j, S => .ok (.int (i + j)) S
  | .str x, .str y, S => if fits (x.length + y.length) then .ok (.str (x ++ y)) S else .bad
  | .tup xs, .tup ys, S => if fits (xs.length + ys.length) then .ok (.tup (xs ++ ys)) S else .bad
  | d, e, S => (match lOf d S, lOf e S with
    | some xs, some ys => if fits (xs.length + ys.length) then .ok (.lst (xs ++ ys)) S else .bad
    | _, _ => .bad)
def opSub : D → D → Store → Out D
  | .int i, .int j, S => .ok (.int (i - j)) S
  | _, _, _ => .bad
def bitsOk (n : Nat) (i : Int) : Bool := decide (i.natAbs < 2 ^ n)
def opMul : D → D → Store → Out D
  | .int i, .int j, S => if Nat.ble (i.natAbs.log2 + j.natAbs.log2) 999999 then .ok (.int (i * j)) S else .bad
  | .tup xs, .int k, S => if decide (-1000 ≤ k) && decide (k ≤ 1000) && Nat.ble xs.length 1000 then .ok (.tup (rep xs k.toNat)) S else .bad
  | .str x, .int k, S => if decide (0 ≤ k) && decide (k ≤ 10000) && Nat.ble x.length 1 then .ok (.str (repN x k.toNat)) S else .bad
  | d, .int k, S => (match lOf d S with
    | some xs => if decide (-1000 ≤ k) && decide (k ≤ 1000) && Nat.ble xs.length 1000 then .ok (.lst (rep xs k.toNat)) S else .bad
    | none => .bad)
  | _, _, _ => .bad
def opDiv : D → D → Store → Out D
  | .int i, .int j, S => if decide (j ≠ 0) && Nat.ble j.natAbs.log2 8999 then .ok (.int (i.fdiv j)) S else .bad
  | _, _, _ => .bad
def opMod : D → D → Store → Out D
  | .int i, .int j, S => if decide (j ≠ 0) then .ok (.int (i.fmod j)) S else .bad
  | _, _, _ => .bad
def opPow : D → D → Store → Out D
  | .int i, .int j, S => if decide (0 ≤ j) && decide (j ≤ 1000) && Nat.ble i.natAbs.log2 999 then .ok (.int (i ^ j.toNat)) S else .bad
  | _, _, _ => .bad
def op2 : Op → D → D → Store → Out D
  | .add => opAdd
  | .sub => opSub
  | .mul => opMul
  | .fdiv => opDiv
  | .mod => opMod
  | .pow => opPow
def ltList : List Nat → List Nat → Bool
  | [], [] => false
  | [], _ :: _ => true
  | _ :: _, [] => false
  | x :: xs, y :: ys => if x = y then ltList xs ys else decide (x < y)
def cpInt (f : Int → Int → Bool) : D → D → Store → Out Bool
  | .int i, .int j, S => .ok (f i j) S
  | _, _, _ => .bad
def cpIs : D → D → Option Bool
  | .non, .non => some true
  | .bl a, .bl b => some (a == b)
  | .non, .bl _ => none
  | .bl _, .non => some false
  | .int _, .non => some false
  | .str _, .non => some false
  | .tup _, .non => some false
  | .lst _, .non => some false
  | .ref _, .non => some false
  | .fn _, .non => some false
  | _, _ => none
def isFlat : D → Bool
  | .non | .bl _ | .int _ | .str _ => true
  | _ => false
def seqOf : D → Store → Option (List D)
  | .tup xs, _ => some xs
  | d, S => lOf d S
def elemD (x : D) : List D → Bool
  | [] => false
  | y :: ys => eqv y x || elemD x ys
def cpIn (d e : D) (S : Store) : Option Bool := match d, e with
  | .str [c], .str z => some (decide (c ∈ z))
  | d, e => (match seqOf e S with | some xs => if isFlat d && xs.all isFlat then some (elemD d xs) else none | none => none)
def ofOpt (o : Option Bool) (S : Store) : Out Bool := match o with
  | some b => .ok b S
  | none => .bad
def cpEq (d e : D) (S : Store) : Out Bool :=
  let d := deref S d
  let e := deref S e
  if plain 60 d && plain 60 e then .ok (eqv d e) S else .bad
def cmp2 : Cp → D → D → Store → Out Bool
  | .eq, d, e, S => cpEq d e S
  | .ne, d, e, S => (cpEq d e S).bind fun b S => .ok (!b) S
  | .lt, d, e, S => cpInt (fun i j => decide (i < j)) d e S
  | .le, d, e, S => cpInt (fun i j => decide (i ≤ j)) d e S
  | .gt, d, e, S => cpInt (fun i j => decide (j < i)) d e S
  | .ge, d, e, S => cpInt (fun i j => decide (j ≤ i)) d e S
  | .is, d, e, S => ofOpt (cpIs d e) S
  | .isn, d, e, S => ofOpt ((cpIs d e).map (!·)) S
  | .inn, d, e, S => ofOpt (cpIn d e S) S
  | .nin, d, e, S => ofOpt ((cpIn d e S).map (!·)) S
/-- truth -/
def truth : D → Store → Out Bool
  | .non, S => .ok false S
  | .bl b, S => .ok b S
  | .int i, S => .ok (i != 0) S
  | .str x, S => if fits x.length then .ok (!x.isEmpty) S else .bad
  | .tup xs, S => .ok (!xs.isEmpty) S
  | d, S => (match lOf d S with | some xs => .ok (!xs.isEmpty) S | none => .bad)
/-- the place that an index tells -/
def ixAt (n : Nat) (i : Int) : Option Nat := if 0 ≤ i then (if i < n then some i.toNat else none) else if -(n : Int) ≤ i then some (i + n).toNat else none
def getAt (xs : List D) (i : Int) : Option D := (ixAt xs.length i).bind fun j => xs[j]?
def item : D → D → Store → Out D
  | .tup xs, .int i, S => (match getAt xs i with | some d => .ok d S | none => .bad)
  | .scr ns, .int i, S => (match (ixAt ns.length i).bind fun j => ns[j]? with | some k => .ok (.int k) S | none => .bad)
  | .str x, .int i, S => if fits x.length then (match (ixAt x.length i).bind fun j => x[j]? with | some c => .ok (.str [c]) S | none => .bad) else .bad
  | d, .int i, S => (match (lOf d S).bind fun xs => getAt xs i with | some d => .ok d S | none => .bad)
  | _, _, _ => .bad
/-- an end of a slice -/
def clip (n d : Nat) : Option Int → Nat
  | none => d
  | some i => if i < 0 then (i + (n : Int)).toNat else min i.toNat n
def cut {α : Type} (xs : List α) (lo hi : Option Int) : List α := (xs.drop (clip xs.length 0 lo)).take (clip xs.length xs.length hi - clip xs.length 0 lo)
def slice : D → Option Int → Option Int → Store → Out D
  | .tup xs, lo, hi, S => .ok (.tup (cut xs lo hi)) S
  | .str x, lo, hi, S => if fits x.length then .ok (.str (cut x lo hi)) S else .bad
  | d, lo, hi, S => (match lOf d S with | some xs => .ok (.lst (cut xs lo hi)) S | none => .bad)
/-- x[::-1] -/
def revd : D → Store → Out D
  | .tup xs, S => .ok (.tup xs.reverse) S
  | d, S => (match lOf d S with | some xs => .ok (.lst xs.reverse) S | none => .bad)

/-! ### built-ins -/
inductive Ty where | non | bool | int | str | tup | lst | dict
  deriving DecidableEq
def tyIs : D → Ty → Bool
  | .non, .non => true
  | .bl _, .bool => true
  | .bl _, .int => true
  | .int _, .int => true
  | .str _, .str => true
  | .tup _, .tup => true
  | .lst _, .lst => true
  | .ref _, .lst => true
  | .map _ _, .dict => true
  | .dct _, .dict => true
  | _, _ => false
inductive Bi where
  | abs | all | any | divmod | int | str | isi (ts : List Ty) | len | list | max | min | tuple | repr | bool | minl | sum
def digitsN (fuel n : Nat) (acc : List Nat) : List Nat := match fuel with
  | 0 => acc
  | k + 1 => if n / 10 = 0 then (48 + n % 10) :: acc else digitsN k (n / 10) ((48 + n % 10) :: acc)
/-- the text of an integer -/
def intText (i : Int) : List Nat := if i < 0 then 45 :: digitsN (i.natAbs.log2 + 1) i.natAbs [] else digitsN (i.natAbs.log2 + 1) i.natAbs []
def boolsOf : List D → Option (List Bool)
  | [] => some []
  | .bl b :: ds => (boolsOf ds).map (b :: ·)
  | _ :: _ => none
def lenOf : D → Store → Option Nat
  | .tup xs, _ => some xs.length
  | .scr ns, _ => some ns.length
  | .str x, _ => if fits x.length then some x.length else none
  | d, S => (lOf d S).map (·.length)
def on1 (f : D → Store → Out D) : List D → Store → Out D
  | [d], S => f d S
  | _, _ => .bad
def on2 (f : D → D → Store → Out D) : List D → Store → Out D
  | [d, e], S => f d e S
  | _, _ => .bad
def absD : D → Store → Out D
  | .int i, S => .ok (.int (if i < 0 then -i else i)) S
  | _, _ => .bad
def allD (d : D) (S : Store) : Out D := match (lOf d S).bind boolsOf with
  | some bs => .ok (.bl (bs.all id)) S
  | none => .bad
def anyD (d : D) (S : Store) : Out D := match (lOf d S).bind boolsOf with
  | some bs => .ok (.bl (bs.any id)) S
  | none => .bad
def divmodD : D → D → Store → Out D
  | .int i, .int j, S => if decide (0 < j) && decide (j < 1073741824) then .ok (.tup [.int (i / j), .int (i % j)]) S else .bad
  | _, _, _ => .bad
def digVal (x : List Nat) : Nat := x.foldl (fun a c => a * 10 + (c - 48)) 0
/-- the worth of a text of digits -/
def intOf (x : List Nat) : Option Nat := if x.all (fun c => Nat.ble 48 c && Nat.ble c 57) && !x.isEmpty && Nat.ble x.length 4300 then some (digVal x) else none
def intD : D → Store → Out D
  | .str x, S => (match intOf x with | some n => .ok (.int n) S | none => .bad)
  | .int i, S => .ok (.int i) S
  | .bl k, S => .ok (.int (if k then 1 else 0)) S
  | _, _ => .bad
def boolD : D → Store → Out D
  | .int i, S => .ok (.bl (i != 0)) S
  | .bl k, S => .ok (.bl k) S
  | _, _ => .bad
def strD : D → Store → Out D
  | .int i, S => if Nat.ble i.natAbs.log2 1919 then .ok (.str (intText i)) S else .bad
  | .str x, S => .ok (.str x) S
  | _, _ => .bad
def isD (ts : List Ty) : D → Store → Out D
  | .fn _, _ => .bad
  | .scr _, _ => .bad
  | .exn _ _, _ => .bad
  | .lams _, _ => .bad
  | .lam _, _ => .bad
  | .obj _ _, _ => .bad
  | d, S => .ok (.bl (ts.any fun t => tyIs d t)) S
def lenD (d : D) (S : Store) : Out D := match lenOf d S with
  | some n => .ok (.int n) S
  | none => .bad
def listD (d : D) (S : Store) : Out D := match seqOf d S with
  | some xs => .ok (.lst xs) S
  | none => .bad
def tupleD (d : D) (S : Store) : Out D := match seqOf d S with
  | some xs => .ok (.tup xs) S
  | none => .bad
def maxD : D → D → Store → Out D
  | .int i, .int j, S => .ok (.int (if j > i then j else i)) S
  | _, _, _ => .bad
def minD : D → D → Store → Out D
  | .int i, .int j, S => .ok (.int (if j < i then j else i)) S
  | _, _, _ => .bad
def intsOf : List D → Option (List Int)
  | [] => some []
  | .int i :: ds => (intsOf ds).map (i :: ·)
  | _ :: _ => none
/-- the least one -/
def leastI : Int → List Int → Int
  | m, [] => m
  | m, i :: is => leastI (if i < m then i else m) is
def minlD (d : D) (S : Store) : Out D := match (lOf d S).bind intsOf with
  | some (i :: is) => .ok (.int (leastI i is)) S
  | _ => .bad
def sumD (d : D) (S : Store) : Out D := match (lOf d S).bind intsOf with
  | some is => .ok (.int is.sum) S
  | none => .bad
/-- texts with a sep -/
def joinL (sep : List Nat) : List (List Nat) → List Nat
  | [] => []
  | [x] => x
  | x :: xs => x ++ sep ++ joinL sep xs
/-- the text of a tuple whose items have these texts -/
def tupT : List (List Nat) → List Nat
  | [x] => 40 :: (x ++ [44, 41])
  | xs => 40 :: (joinL [44, 32] xs ++ [41])
def lstT (xs : List (List Nat)) : List Nat := 91 :: (joinL [44, 32] xs ++ [93])
mutual
/-- the text of a plain value -/
def reprD : D → Option (List Nat)
  | .non => some [78, 111, 110, 101]
  | .bl true => some [84, 114, 117, 101]
  | .bl false => some [70, 97, 108, 115, 101]
  | .int i => if Nat.ble i.natAbs.log2 1919 then some (intText i) else none
  | .str x => if x.all (fun c => Nat.ble 32 c && Nat.ble c 126 && !Nat.beq c 39 && !Nat.beq c 92) && Nat.ble x.length 1000000 then some (39 :: (x ++ [39])) else none
  | .tup xs => (reprDs xs).map tupT
  | .lst xs => (reprDs xs).map lstT
  | .map [] [] => some [123, 125]
  | _ => none
def reprDs : List D → Option (List (List Nat))
  | [] => some []
  | .map _ _ :: _ => none
  | x :: xs => match reprD x, reprDs xs with
    | some t, some ts => some (t :: ts)
    | _, _ => none
end
mutual
/-- how deep a value is -/
def depD : D → Nat
  | .tup xs => depDs xs + 1
  | .lst xs => depDs xs + 1
  | .map _ _ => 1
  | _ => 0
def depDs : List D → Nat
  | [] => 0
  | x :: xs => max (depD x) (depDs xs)
end
/-- .. as far as it may be told -/
def reprP (d : D) : Option (List Nat) := match reprD d with
  | some t => if Nat.ble t.length 1000000 && Nat.ble (depD d) 40 then some t else none
  | none => none
def reprO (d : D) (S : Store) : Out D := match reprP d with
  | some t => .ok (.str t) S
  | none => .bad
def bi : Bi → List D → Store → Out D
  | .abs => on1 absD
  | .all => on1 allD
  | .any => on1 anyD
  | .divmod => on2 divmodD
  | .int => on1 intD
  | .bool => on1 boolD
  | .str => on1 strD
  | .isi ts => on1 (isD ts)
  | .len => on1 lenD
  | .list => on1 listD
  | .tuple => on1 tupleD
  | .max => on2 maxD
  | .min => on2 minD
  | .minl => on1 minlD
  | .repr => on1 reprO
  | .sum => on1 sumD

/-! ### the language -/
/-- how a clause tells what is kept: its repr, the repr of its first two, its text, its first one -/
inductive Md where | rep | rep2 | str | at0
  deriving DecidableEq
/-- a clause of the law's word of errors: the classes that it takes, the word, how what is kept stands behind -/
structure Hd where
  cs : List Nat
  w : List Nat
  m : Option Md
  deriving DecidableEq
def modeD : Md → D → Option (List Nat)
  | .rep, d => reprP d
  | .rep2, .tup xs => reprP (.tup (xs.take 2))
  | .str, .int i => if Nat.ble i.natAbs.log2 1919 then some (intText i) else none
  | .at0, .tup (.str t :: _) => some t
  | _, _ => none
/-- the word of a call's end -/
def wordD (fine : List Nat) (hs : List Hd) : Out D → Out D
  | .ok _ S => .ok (.str fine) S
  | .exc x S => (match hs.find? (fun h => h.cs.elem x.c) with
    | some h => (match h.m with
      | some m => (match modeD m x.arg with
        | some t => if Nat.ble (h.w.length + t.length) 16000000 then .ok (.str (h.w ++ t)) S else .bad
        | none => .bad)
      | none => .ok (.str h.w) S)
    | none => .bad)
  | .bad => .bad
/-- methods of built-in types -/
inductive Mt where | join | split | copy
mutual
/-- targets -/
inductive Tg where
  | nm (i : Nat)
  | tp (ts : List Tg)
  | sub (o i : E)
  | att (o : E) (j : Nat)
inductive E where
  | slot (i : Nat)
  | star (e : E)
  | con (d : D)
  | gcon (k : Nat)
  | tup (es : List E)
  | lst (es : List E)
  | new (es : List E)
  | mk (e : E)
  | attr (e : E) (j : Nat)
  | mcall (c g : Nat) (o : E) (es : List E)
  | make (c g : Nat) (es : List E)
  | dict0
  | bin (o : Op) (a b : E)
  | neg (a : E)
  | cmp (o : Cp) (a b : E)
  | chain (o p : Cp) (a b c : E)
  | notE (a : E)
  | ite (t : T) (a b : E)
  | and (a b : E)
  | or (a b : E)
  | idx (a i : E)
  | slc (a : E) (lo hi : Option E)
  | rev (a : E)
  | call (g : Nat) (es : List E)
  | gfn (g : Nat)
  | callv (i : Nat) (es lb : List E)
  | guard (fine : List Nat) (hs : List Hd) (e : E)
  | guards (fine : List Nat) (hs : List Hd) (i k : Nat) (es : List E)
  | bi (b : Bi) (es : List E)
  | mth (m : Mt) (o : E) (es : List E)
  | join (o e : E)
  | comp (tg : Tg) (it : I) (c : Option T) (e : E) (own : List Nat)
  | compL (tg : Tg) (it : L) (c : Option T) (e : E) (own : List Nat)
  | dcomp (tg : Tg) (it : L) (k v : E) (own : List Nat)
inductive T where
  | not (t : T)
  | and (t u : T)
  | or (t u : T)
  | cmp (o : Cp) (a b : E)
  | chain (o p : Cp) (a b c : E)
  | val (e : E)
inductive I where
  | seq (e : E)
  | rng1 (a : E)
  | rng2 (a b : E)
  | rng3 (a b c : E)
  | zip (a b : E)
  | enum (a : E)
  | enumz (a b : E)
inductive L where
  | one (a : E)
  | en (a : E)
  | zp (a b : E)
end
inductive St where
  | pass
  | cont
  | brk
  | ret (e : E)
  | retN
  | asg (tg : Tg) (e : E)
  | app (o e : E)
  | ext (o e : E)
  | augN (i : Nat) (o : Op) (e : E)
  | augA (o : E) (j : Nat) (p : Op) (e : E)
  | exp (e : E)
  | ite (t : T) (a b : List St)
  | wh (t : T) (b : List St)
  | for_ (tg : Tg) (it : I) (b : List St)
  | forL (tg : Tg) (it : L) (b : List St)
  | forT (tg : Tg) (it : I) (b : List St) (fg : List Nat)
  | forC (i : Nat) (ds : List D) (b : List St)
  | raise_ (c : Nat) (e : Option E)
  | lams (i k : Nat)
  | never

/-! ### the evaluator -/
mutual
def asg : Tg → D → Env → Option Env
  | .nm i, d, σ => some (σ.set i (some d))
  | .tp ts, .tup ds, σ => asgs ts ds σ
  | _, _, _ => none
def asgs : List Tg → List D → Env → Option Env
  | [], [], σ => some σ
  | t :: ts, d :: ds, σ => (asg t d σ).bind (asgs ts ds)
  | _, _, _ => none
end
/-- the slots forgotten -/
def wipeD (σ : Env) : List Nat → Env
  | [] => σ
  | v :: vs => (wipeD σ vs).set v none
def strsOf : List D → Option (List (List Nat))
  | [] => some []
  | .str x :: ds => (strsOf ds).map (x :: ·)
  | _ :: _ => none
/-- split at one sign -/
def splitL (c : Nat) : List Nat → List Nat → List (List Nat)
  | [], acc => [acc.reverse]
  | d :: ds, acc => if d = c then acc.reverse :: splitL c ds [] else splitL c ds (d :: acc)
def sumLen : List (List Nat) → Nat
  | [] => 0
  | x :: xs => x.length + 1 + sumLen xs
def mth (m : Mt) (o : D) (ds : List D) (S : Store) : Out D := match m, o, ds with
  | .join, .str sep, [d] => (match (seqOf d S).bind strsOf with | some ts => if Nat.ble sep.length 1 && Nat.ble (sumLen ts) 16000000 then .ok (.str (joinL sep ts)) S else .bad | none => .bad)
  | .split, .str x, [.str [c]] => if Nat.ble (x.length + 2) bigN then .ok (.lst ((splitL c x []).map .str)) S else .bad
  | .copy, o, [] => (match lOf o S with | some xs => .ok (.lst xs) S | none => .bad)
  | _, _, _ => .bad
abbrev Cl := Nat → List D → Store → Out D
/-- the items that a comprehension makes -/
def compGo (tg : Tg) (test : Env → Store → Out Bool) (elt : Env → Store → Out D) (σ : Env) : List D → List D → Store → Out D
  | [], acc, S => .ok (.lst acc.reverse) S
  | d :: ds, acc, S => match asg tg d σ with
    | none => .bad
    | some σ2 => (match test σ2 S with
      | .ok true S1 => (match elt σ2 S1 with
        | .ok e S2 => if Nat.ble (acc.length + 1) bigN then compGo tg test elt σ ds (e :: acc) S2 else .bad
        | _ => .bad)
      | .ok false S1 => compGo tg test elt σ ds acc S1
      | _ => .bad)
/-- what is walked over as it stands at each turn -/
inductive LV where
  | one (d : D) | en (d : D) | zp (d e : D)
def seqAt (d : D) (i : Nat) (S : Store) : Option (Option D) := (seqOf d S).map fun xs => xs[i]?
/-- the item of a turn: none where it is not known, some none at the end -/
def itAt : LV → Nat → Store → Option (Option D)
  | .one d, i, S => seqAt d i S
  | .en d, i, S => (seqAt d i S).map fun o => o.map fun x => .tup [.int i, x]
  | .zp d e, i, S => (match seqAt d i S, seqAt e i S with
    | some (some x), some (some y) => some (some (.tup [x, y]))
    | some _, some _ => some none
    | _, _ => none)
/-- .. and what a comprehension makes of them; n: so many turns at most -/
def compLGo (tg : Tg) (test : Env → Store → Out Bool) (elt : Env → Store → Out D) (lv : LV) (σ : Env) : Nat → Nat → List D → Store → Out D
  | 0, _, _, _ => .bad
  | n + 1, i, acc, S => match itAt lv i S with
    | none => .bad
    | some none => .ok (.lst acc.reverse) S
    | some (some d) => (match asg tg d σ with
      | none => .bad
      | some σ2 => (match test σ2 S with
        | .ok true S1 => (match elt σ2 S1 with
          | .ok e S2 => if Nat.ble (acc.length + 1) bigN then compLGo tg test elt lv σ n (i + 1) (e :: acc) S2 else .bad
          | _ => .bad)
        | .ok false S1 => compLGo tg test elt lv σ n (i + 1) acc S1
        | _ => .bad))
/-- keys that tell themselves -/
def isLeaf : D → Bool
  | .non => true
  | .bl _ => true
  | .int _ => true
  | .str _ => true
  | _ => false
/-- d[k] = v, in two lists -/
def putK (k v : D) : List D → List D → List D × List D
  | a :: ks, b :: vs => match eqv a k with
    | true => (a :: ks, v :: vs)
    | false => let p := putK k v ks vs; (a :: p.1, b :: p.2)
  | _, _ => ([k], [v])
/-- the dict that a comprehension makes -/
def dcompGo (tg : Tg) (key elt : Env → Store → Out D) (lv : LV) (σ : Env) : Nat → Nat → List D → List D → Store → Out D
  | 0, _, _, _, _ => .bad
  | n + 1, i, ks, vs, S => match itAt lv i S with
    | none => .bad
    | some none => .ok (.map ks vs) S
    | some (some d) => (match asg tg d σ with
      | none => .bad
      | some σ2 => (match key σ2 S with
        | .ok k S1 => (match elt σ2 S1 with
          | .ok v S2 => if isLeaf k && Nat.ble (ks.length + 1) 1000000 then (let p := putK k v ks vs; dcompGo tg key elt lv σ n (i + 1) p.1 p.2 S2) else .bad
          | _ => .bad)
        | _ => .bad))
/-- the greatest number of turns -/
abbrev turns : Nat := 1000000
def rangeD (lo c : Int) : Nat → List D
  | 0 => []
  | n + 1 => .int lo :: rangeD (lo + c) c n
def zipD : List D → List D → List D
  | x :: xs, y :: ys => .tup [x, y] :: zipD xs ys
  | _, _ => []
def enumD (i : Int) : List D → List D
  | [] => []
  | x :: xs => .tup [.int i, x] :: enumD (i + 1) xs
def charsD : List Nat → List D
  | [] => []
  | c :: cs => .str [c] :: charsD cs
def walk : D → Store → Option (List D)
  | .tup xs, _ => some xs
  | .lst xs, _ => some xs
  | .str x, _ => some (charsD x)
  | _, _ => none
/-- lists and tuples that do not change -/
def walkS : D → Option (List D)
  | .lst xs => some xs
  | .tup xs => some xs
  | _ => none
def zipOf : D → D → Option (List D)
  | .lst xs, .lst ys => some (zipD xs ys)
  | .tup xs, .tup ys => some (zipD xs ys)
  | _, _ => none
def zipT : D → D → Option (List D)
  | .tup xs, .tup ys => some (zipD xs ys)
  | _, _ => none
def oItems (o : Option (List D)) (S : Store) : Out (List D) := match o with
  | some xs => .ok xs S
  | none => .bad
def rng2 : D → D → Store → Out (List D)
  | .int i, .int j, S => if small62 i && small62 j then .ok (rangeD i 1 (j - i).toNat) S else .bad
  | _, _, _ => .bad
def rng3 : D → D → D → Store → Out (List D)
  | .int i, .int j, .int c, S => if decide (c ≠ 0) && decide (c.natAbs < 1073741824) && Builtin.Range.small i j c && decide (0 ≤ Builtin.Range.rangeSize i j c) then .ok (rangeD i c (Builtin.Range.rangeSize i j c).toNat) S else .bad
  | _, _, _, _ => .bad
section
variable (cl : Cl) (gc : List D)
mutual
def evE : E → Env → Store → Out D
  | .slot i, σ, S => (match σ[i]? with | some (some d) => .ok d S | _ => .bad)
  | .star _, _, _ => .bad
  | .con d, _, S => .ok d S
  | .gcon k, _, S => (match gc[k]? with | some d => .ok d S | none => .bad)
  | .tup es, σ, S => (evEs es σ S).bind fun ds S => if fits ds.length then .ok (.tup ds) S else .bad
  | .lst es, σ, S => (evEs es σ S).bind fun ds S => if fits ds.length then .ok (.lst ds) S else .bad
  | .dict0, _, S => .ok .dic S
  | .mk e, σ, S => (evE e σ S).bind fun d S => (match d with | .lst xs => .ok (.ref S.length) (S ++ [xs]) | _ => .bad)
  | .attr e j, σ, S => (evE e σ S).bind fun d S => (match d with | .obj _ n => (match (S[n]?).bind fun xs => xs[j]? with | some x => .ok x S | none => .bad) | _ => .bad)
  | .mcall c g o es, σ, S => (evE o σ S).bind fun x S => (match x with | .obj c' _ => if Nat.beq c' c then (evEs es σ S).bind fun ds S => cl g (x :: ds) S else .bad | _ => .bad)
  | .make c g es, σ, S => (evEs es σ S).bind fun ds S => (cl g (.obj c S.length :: ds) (S ++ [[]])).bind fun d S2 => (match d with | .non => .ok (.obj c S.length) S2 | _ => .bad)
  | .new es, σ, S => (evEs es σ S).bind fun ds S => if fits ds.length then .ok (.ref S.length) (S ++ [ds]) else .bad
  | .bin o a b, σ, S => (evE a σ S).bind fun x S => (evE b σ S).bind fun y S => op2 o x y S
  | .neg a, σ, S => (evE a σ S).bind fun x S => match x with | .int i => .ok (.int (-i)) S | _ => .bad
  | .cmp o a b, σ, S => (evE a σ S).bind fun x S => (evE b σ S).bind fun y S => (cmp2 o x y S).bind fun k S => .ok (.bl k) S
  | .chain o p a b c, σ, S => (evE a σ S).bind fun x S => (evE b σ S).bind fun y S => (cmp2 o x y S).bind fun k S => match k with | true => (evE c σ S).bind fun z S => (cmp2 p y z S).bind fun k S => .ok (.bl k) S | false => .ok (.bl false) S
  | .notE a, σ, S => (evE a σ S).bind fun x S => (truth x S).bind fun b S => .ok (.bl (!b)) S
  | .ite t a b, σ, S => (evT t σ S).bind fun c S => match c with | true => evE a σ S | false => evE b σ S
  | .and a b, σ, S => (evE a σ S).bind fun x S => (truth x S).bind fun c S => match c with | true => evE b σ S | false => .ok x S
  | .or a b, σ, S => (evE a σ S).bind fun x S => (truth x S).bind fun c S => match c with | true => .ok x S | false => evE b σ S
  | .idx a i, σ, S => (evE a σ S).bind fun x S => (evE i σ S).bind fun y S => item x y S
  | .slc a lo hi, σ, S => (evE a σ S).bind fun x S => (evO lo σ S).bind fun l S => (evO hi σ S).bind fun h S => slice x l h S
  | .rev a, σ, S => (evE a σ S).bind fun x S => revd x S
  | .call g es, σ, S => (evEs es σ S).bind fun ds S => cl g ds S
  | .gfn g, _, S => .ok (.fn g) S
  | .callv i es lb, σ, S => (match σ[i]? with
    | some (some (.fn g)) => (evEs es σ S).bind fun ds S => cl g ds S
    | some (some (.lam j)) => (evEs es σ S).bind fun ds S => if Nat.beq ds.length es.length then evLb lb j (ds.map some) S else .bad
    | _ => .bad)
  | .guard fine hs e, σ, S => wordD fine hs (evE e σ S)
  | .guards fine hs i k es, σ, S => (match σ[i]? with | some (some (.lams j)) => if Nat.beq j k then evGs fine hs es [] σ S else .bad | _ => .bad)
  | .bi b es, σ, S => (evEs es σ S).bind fun ds S => bi b ds S
  | .join o e, σ, S => (evE o σ S).bind fun x S => match x with | .str sep => (evE e σ S).bind fun d S => mth .join (.str sep) [d] S | _ => .bad
  | .mth m o es, σ, S => (evE o σ S).bind fun x S => match x with | .str z => (evEs es σ S).bind fun ds S => mth m (.str z) ds S | _ => .bad
  | .comp tg it c e own, σ, S => (evI it σ S).bind fun ds S => compGo tg (evC c) (evE e) (wipeD σ own) ds [] S
  | .compL tg it c e own, σ, S => (evL it σ S).bind fun lv S => compLGo tg (evC c) (evE e) lv (wipeD σ own) turns 0 [] S
  | .dcomp tg it k v own, σ, S => (evL it σ S).bind fun lv S => dcompGo tg (evE k) (evE v) lv (wipeD σ own) turns 0 [] [] S
def evC : Option T → Env → Store → Out Bool
  | none, _, S => .ok true S
  | some t, σ, S => evT t σ S
def evO : Option E → Env → Store → Out (Option Int)
  | none, _, S => .ok none S
  | some e, σ, S => (evE e σ S).bind fun x S => match x with | .int i => .ok (some i) S | _ => .bad
def evEs : List E → Env → Store → Out (List D)
  | [], _, S => .ok [] S
  | .star e :: es, σ, S => (evE e σ S).bind fun d S => (match seqOf d S with | some xs => (evEs es σ S).bind fun ds S => .ok (xs ++ ds) S | none => .bad)
  | e :: es, σ, S => (evE e σ S).bind fun d S => (evEs es σ S).bind fun ds S => .ok (d :: ds) S
/-- a lambda's body -/
def evLb : List E → Nat → Env → Store → Out D
  | [], _, _, _ => .bad
  | e :: _, 0, σ, S => evE e σ S
  | _ :: es, j + 1, σ, S => evLb es j σ S
/-- the words of kept calls -/
def evGs (fine : List Nat) (hs : List Hd) : List E → List D → Env → Store → Out D
  | [], acc, _, S => .ok (.lst acc.reverse) S
  | e :: es, acc, σ, S => (match wordD fine hs (evE e σ S) with | .ok d S => if Nat.ble (acc.length + 1) bigN then evGs fine hs es (d :: acc) σ S else .bad | _ => .bad)
def evT : T → Env → Store → Out Bool
  | .not t, σ, S => (evT t σ S).bind fun b S => .ok (!b) S
  | .and t u, σ, S => (evT t σ S).bind fun b S => match b with | true => evT u σ S | false => .ok false S
  | .or t u, σ, S => (evT t σ S).bind fun b S => match b with | true => .ok true S | false => evT u σ S
  | .cmp o a b, σ, S => (evE a σ S).bind fun x S => (evE b σ S).bind fun y S => cmp2 o x y S
  | .chain o p a b c, σ, S => (evE a σ S).bind fun x S => (evE b σ S).bind fun y S => (cmp2 o x y S).bind fun k S => match k with | true => (evE c σ S).bind fun z S => cmp2 p y z S | false => .ok false S
  | .val e, σ, S => (evE e σ S).bind fun x S => truth x S
def evI : I → Env → Store → Out (List D)
  | .seq e, σ, S => (evE e σ S).bind fun x S => oItems (walk x S) S
  | .rng1 a, σ, S => (evE a σ S).bind fun x S => rng2 (.int 0) x S
  | .rng2 a b, σ, S => (evE a σ S).bind fun x S => (evE b σ S).bind fun y S => rng2 x y S
  | .rng3 a b c, σ, S => (evE a σ S).bind fun x S => (evE b σ S).bind fun y S => (evE c σ S).bind fun z S => rng3 x y z S
  | .zip a b, σ, S => (evE a σ S).bind fun x S => (evE b σ S).bind fun y S => oItems (zipOf x y) S
  | .enum a, σ, S => (evE a σ S).bind fun x S => oItems ((walkS x).map (enumD 0)) S
  | .enumz a b, σ, S => (evE a σ S).bind fun x S => (evE b σ S).bind fun y S => oItems ((zipT x y).map (enumD 0)) S
def evL : L → Env → Store → Out LV
  | .one a, σ, S => (evE a σ S).bind fun x S => .ok (.one x) S
  | .en a, σ, S => (evE a σ S).bind fun x S => .ok (.en x) S
  | .zp a b, σ, S => (evE a σ S).bind fun x S => (evE b σ S).bind fun y S => .ok (.zp x y) S
end
/-- a while loop -/
def whGo (test : Env → Store → Out Bool) (body : Env → Store → OutS) : Nat → Env → Store → OutS
  | 0, _, _ => .bad
  | n + 1, σ, S => (test σ S).stm σ fun c S => match c with
    | false => .nx σ S
    | true => match body σ S with
      | .nx σ S => whGo test body n σ S
      | .ct σ S => whGo test body n σ S
      | .bk σ S => .nx σ S
      | o => o
/-- a for loop over what stands at each turn -/
def forLGo (tg : Tg) (body : Env → Store → OutS) (lv : LV) : Nat → Nat → Env → Store → OutS
  | 0, _, _, _ => .bad
  | n + 1, i, σ, S => match itAt lv i S with
    | none => .bad
    | some none => .nx σ S
    | some (some d) => match asg tg d σ with
      | none => .bad
      | some σ2 => match body σ2 S with
        | .nx σ S => forLGo tg body lv n (i + 1) σ S
        | .ct σ S => forLGo tg body lv n (i + 1) σ S
        | .bk σ S => .nx σ S
        | o => o
/-- a for loop over given items -/
def forGo (tg : Tg) (body : Env → Store → OutS) : List D → Env → Store → OutS
  | [], σ, S => .nx σ S
  | d :: ds, σ, S => match asg tg d σ with
    | none => .bad
    | some σ2 => match body σ2 S with
      | .nx σ S => forGo tg body ds σ S
      | .ct σ S => forGo tg body ds σ S
      | .bk σ S => .nx σ S
      | o => o
mutual
def refsBelow : Nat → D → Bool
  | n, .ref m => Nat.ble (m + 1) n
  | n, .tup xs => refsBelows n xs
  | n, .lst xs => refsBelows n xs
  | n, .exn _ d => refsBelow n d
  | n, .map ks vs => refsBelows n ks && refsBelows n vs
  | n, .obj _ m => Nat.ble (m + 1) n
  | n, .dct m => Nat.ble (m + 1) n
  | _, _ => true
def refsBelows : Nat → List D → Bool
  | _, [] => true
  | n, x :: xs => refsBelow n x && refsBelows n xs
end
/-- slots forgotten; what lies beyond n let go if nothing leads there -/
def lowE (n : Nat) : Env → Bool
  | [] => true
  | some d :: σ => refsBelow n d && lowE n σ
  | none :: σ => lowE n σ
def tidyS (n : Nat) (σ : Env) (S : Store) : Store := if lowE n σ && (S.take n).all (refsBelows n) then S.take n else S
/-- a for loop whose turns leave nothing behind -/
def forTGo (tg : Tg) (body : Env → Store → OutS) (n : Nat) (fg : List Nat) : List D → Env → Store → OutS
  | [], σ, S => .nx σ S
  | d :: ds, σ, S => match asg tg d σ with
    | none => .bad
    | some σ2 => match body σ2 S with
      | .nx σ S => forTGo tg body n fg ds (wipeD σ fg) (tidyS n (wipeD σ fg) S)
      | .ct σ S => forTGo tg body n fg ds (wipeD σ fg) (tidyS n (wipeD σ fg) S)
      | .bk σ S => .nx σ S
      | o => o
def isRef : D → Bool
  | .ref _ => true
  | _ => false
/-- x.f = v: an attribute that is there, or the next one of the class -/
def attIt (o : D) (j : Nat) (v : D) (S : Store) : Option Store := match o with
  | .obj _ n => (S[n]?).bind fun xs => if Nat.ble (j + 1) xs.length then some (S.set n (xs.set j v)) else if Nat.beq j xs.length then some (S.set n (xs ++ [v])) else none
  | _ => none
def extIt (o v : D) (S : Store) : Option Store := match o with
  | .ref n => (S[n]?).bind fun xs => (match v with | .lst ys => if Nat.ble (xs.length + ys.length) bigN then some (S.set n (xs ++ ys)) else none | _ => none)
  | _ => none
/-- x op= y of ints -/
def augI : Op → D → D → Option D
  | .add, .int i, .int j => some (.int (i + j))
  | .sub, .int i, .int j => some (.int (i - j))
  | _, _, _ => none
def setIt (o i v : D) (S : Store) : Option Store := match o, i with
  | .ref n, .int k => (S[n]?).bind fun xs => (ixAt xs.length k).map fun j => S.set n (xs.set j v)
  | _, _ => none
def appIt (o v : D) (S : Store) : Option Store := match o with
  | .ref n => (S[n]?).bind fun xs => if Nat.ble (xs.length + 1) bigN then some (S.set n (xs ++ [v])) else none
  | _ => none
mutual
/-- a target of an assignment -/
def asgG : Tg → D → Env → Store → OutS
  | .nm i, d, σ, S => .nx (σ.set i (some d)) S
  | .tp ts, .tup ds, σ, S => if Nat.beq ds.length ts.length then asgsG ts ds σ S else .bad
  | .tp _, _, _, _ => .bad
  | .sub o i, v, σ, S => (evE cl gc o σ S).stm σ fun x S => (evE cl gc i σ S).stm σ fun k S => match setIt x k v S with | some S2 => .nx σ S2 | none => .bad
  | .att o j, v, σ, S => (evE cl gc o σ S).stm σ fun x S => match attIt x j v S with | some S2 => .nx σ S2 | none => .bad
def asgsG : List Tg → List D → Env → Store → OutS
  | [], [], σ, S => .nx σ S
  | t :: ts, d :: ds, σ, S => (asgG t d σ S).andThen (asgsG ts ds)
  | _, _, _, _ => .bad
end
mutual
def evS : St → Env → Store → OutS
  | .pass, σ, S => .nx σ S
  | .cont, σ, S => .ct σ S
  | .brk, σ, S => .bk σ S
  | .ret e, σ, S => (evE cl gc e σ S).stm σ fun d S => .ret d S
  | .retN, _, S => .ret .non S
  | .asg tg e, σ, S => (evE cl gc e σ S).stm σ fun d S => asgG cl gc tg d σ S
  | .exp e, σ, S => (evE cl gc e σ S).stm σ fun _ S => .nx σ S
  | .ext o e, σ, S => (evE cl gc o σ S).stm σ fun x S => if isRef x then (evE cl gc e σ S).stm σ fun v S => match extIt x v S with | some S2 => .nx σ S2 | none => .bad else .bad
  | .augN i o e, σ, S => (match σ[i]? with
    | some (some d) => (evE cl gc e σ S).stm σ fun v S => match augI o d v with | some x => .nx (σ.set i (some x)) S | none => .bad
    | _ => .bad)
  | .augA e j o v, σ, S => (evE cl gc e σ S).stm σ fun x S => (match x with
    | .obj c n => (match (S[n]?).bind fun xs => xs[j]? with
      | some d => (evE cl gc v σ S).stm σ fun y S => match augI o d y with
        | some z => (match attIt (.obj c n) j z S with | some S2 => .nx σ S2 | none => .bad)
        | none => .bad
      | none => .bad)
    | _ => .bad)
  | .app o e, σ, S => (evE cl gc o σ S).stm σ fun x S => if isRef x then (evE cl gc e σ S).stm σ fun v S => match appIt x v S with | some S2 => .nx σ S2 | none => .bad else .bad
  | .ite t a b, σ, S => (evT cl gc t σ S).stm σ fun c S => match c with | true => evB a σ S | false => evB b σ S
  | .wh t b, σ, S => whGo (evT cl gc t) (evB b) turns σ S
  | .for_ tg it b, σ, S => (evI cl gc it σ S).stm σ fun ds S => forGo tg (evB b) ds σ S
  | .forT tg it b fg, σ, S => (evI cl gc it σ S).stm σ fun ds S => forTGo tg (evB b) S.length fg ds σ S
  | .forL tg it b, σ, S => (evL cl gc it σ S).stm σ fun lv S => forLGo tg (evB b) lv turns 0 σ S
  | .forC i ds b, σ, S => forGo (.nm i) (evB b) ds σ S
  | .raise_ c none, σ, S => .exc ⟨c, .non⟩ σ S
  | .raise_ c (some e), σ, S => (evE cl gc e σ S).stm σ fun d S => .exc ⟨c, d⟩ σ S
  | .lams i k, σ, S => .nx (σ.set i (some (.lams k))) S
  | .never, _, _ => .bad
def evB : List St → Env → Store → OutS
  | [], σ, S => .nx σ S
  | s :: ss, σ, S => (evS s σ S).andThen (evB ss)
end
end
/-- a def -/
structure Fn where
  ar : Nat
  sl : Nat
  body : List St
def startD (n : Nat) (ds : List D) : Env := ds.map some ++ List.replicate (n - ds.length) none
/-- what a call left in the store is let go if nothing leads to it -/
def trim (n : Nat) (d : D) (S : Store) : Store := if Nat.beq S.length n then S else if refsBelow n d && (S.take n).all (refsBelows n) then S.take n else S
def endOf (n : Nat) : OutS → Out D
  | .nx _ S => .ok .non (trim n .non S)
  | .ret d S => .ok d (trim n d S)
  | .exc x _ S => .exc x (trim n x.arg S)
  | _ => .bad
def run (fs : List Fn) (gc : List D) : Nat → Cl
  | 0, _, _, _ => .bad
  | n + 1, g, ds, S => match fs[g]? with
    | none => .bad
    | some f => if Nat.beq ds.length f.ar then endOf S.length (evB (run fs gc n) gc f.body (startD f.sl ds) S) else .bad
end DL
end
section
set_option Elab.async false
set_option autoImplicit false
set_option linter.all false
set_option maxRecDepth 100000
set_option maxHeartbeats 2000000
/-! LXa: try with several except clauses, some of which name the exception. -/
namespace LX
open PySem PySem.Spec PyProof.Rows L2
/-- the clauses' wish: class, the slot of its name if it has one, the suite's reading -/
abbrev Cl1 := Value × Option Nat × (Addr → Value → Option Addr → TS)
/-- the ends of a suite whose exception had a name in slot i -/
def offE (i : Nat) (D : Ends) : Ends := { nx := fun σ H => D.nx (σ.set i none) H, rt := D.rt, bk := fun σ H => D.bk (σ.set i none) H, ct := fun σ H => D.ct (σ.set i none) H }
def wishOf (c : Cl1) (a : Addr) (cls : Value) (d : Option Addr) (D : Ends) (σ : L2.St) (H : Hp) : Prop := match c.2.1 with
  | none => c.2.2 a cls d D σ H
  | some i => c.2.2 a cls d (offE i D) (σ.set i (some (.ref a))) H
def wMix (K : PySem.W.Frag) (Wo : WX) (D : Ends) : List Cl1 → WX
  | [] => Wo
  | c :: cs => fun cls d σ H => ∃ b, PySem.W.exmOne K cls c.1 = some b ∧ (b = true → ∀ a, H a = none → wishOf c a cls d D σ H) ∧ (b = false → wMix K Wo D cs cls d σ H)
def SuiteOk (X : Cx) (b : List Stmt) (ts : Addr → Value → Option Addr → TS) : Prop :=
  ∀ (a : Addr) (oe : Obj) (cls : Value) (d : Option Addr) (pn : List (Addr × Obj)), Zc cls d oe → (∃ vs, oe.data = .fields vs) → PSs (X.suite a ((a, oe) :: pn)) b (ts a cls d)
inductive ClsOk (X : Cx) : List ExceptHandler → List Cl1 → Prop
  | nil : ClsOk X [] []
  | plain {x : Str} {c : Value} {ts : Addr → Value → Option Addr → TS} {b : Stmt} {bs : List Stmt} {p1 p2 : Pos} {hds : List ExceptHandler} {l : List Cl1} : Names X x c → SuiteOk X (b :: bs) ts → ClsOk X hds l →
      ClsOk X (.ExceptHandler (some (.Name x p1)) none (b :: bs) p2 :: hds) ((c, none, ts) :: l)
  | named {x n : Str} {i : Nat} {c : Value} {ts : Addr → Value → Option Addr → TS} {b : Stmt} {bs : List Stmt} {p1 p2 : Pos} {hds : List ExceptHandler} {l : List Cl1} : Names X x c → X.N[i]? = some n → X.env.kindOf n = some .local → SuiteOk X (b :: bs) ts → ClsOk X hds l →
      ClsOk X (.ExceptHandler (some (.Name x p1)) (some n) (b :: bs) p2 :: hds) ((c, some i, ts) :: l)
section
variable {X : Cx} {pins : List (Addr × Obj)} {a : Addr} {cls : Value} {d : Option Addr} {σ : L2.St} {H : Hp}
/-- the exception at a has been caught in the frame of X; sI is the state without it -/
structure Hand (X : Cx) (pins : List (Addr × Obj)) (a : Addr) (cls : Value) (d : Option Addr) (σ : L2.St) (H : Hp) (B : Heap) (sI s : Shared) : Prop where
  inv : Inv X pins σ H sI
  gr : ∀ b o, sI.heap.get? b = some o → b ∉ frs X.stack → B.get? b = some o
  fly : HandSPX.FlyingZ B (X.env :: X.outer) a (Zc cls d) s.heap
  up : sI.heap.UpToSlots s.heap
  no : H a = none
  os : s.os = sI.os
  bare : AllBare s.gens
variable {B : Heap} {sI s : Shared}
theorem Hand.far (h : Hand X pins a cls d σ H B sI s) (hf : X.env.frame = some X.env.locals) : a ≠ X.env.locals ∧ a ∉ X.fs := by
  obtain ⟨oe, vs, g1, _, g3⟩ := h.fly.there
  have out : a ∉ frs (X.env :: X.outer) := by
    intro m
    obtain ⟨_, o, q1, q2⟩ := h.fly.2.2.1.mem m
    have : o = oe := Option.some.inj (q1.symm.trans g1)
    subst this
    exact q2 _ g3
  refine ⟨fun z => out ?_, fun m => out ?_⟩
  · exact List.mem_filterMap.mpr ⟨X.env, .head _, hf.trans (by rw [z])⟩
  · obtain ⟨e, m1, m2⟩ := List.mem_filterMap.mp m
    exact List.mem_filterMap.mpr ⟨e, .tail _ m1, m2⟩
theorem Hand.now (h : Hand X pins a cls d σ H B sI s) : Inv X pins σ H s := by
  have := h.inv.landed h.gr h.fly.1 h.up h.os h.bare
  exact this
/-- no clause took it -/
theorem hand_nil {D : Ends} {Wo : WX} (hs : X.stack = X.env :: X.outer) (hf : X.env.frame = some X.env.locals) (tk : Takes X Wo) (h : Hand X pins a cls d σ H B sI s) (w : Wo cls d σ H) :
    wpAny (model X.prog X.w) X.A (handleBy (.ref a) X.env []) (SP X pins D) X.xe s := by
  refine wpAny_handleBy_nil ?_
  obtain ⟨_, _, _, oe, vs, T, oT, tv, e1, _, e3, e4, _⟩ := id h.fly
  have away : wpAny (model X.prog X.w) X.A (setFlight (.ref a) X.env.frame) (fun _ t => wpAny (model X.prog X.w) X.A (throw (.ref a) : Sem Flow) (SP X pins D) X.xe t) X.xe s := by
    rw [hf]
    refine HandSPX.setFlight_upZ h.fly fun h4 held up4 => wpAny_throw (tk _ _ ⟨a, B, sI, pins, σ, H, cls, d, rfl, h.inv, h.gr, h.up.trans up4, ?_, h.no, h.os, h.bare, w⟩)
    rw [hs]
    exact .inr (.inr held)
  unfold PySem.passOn
  refine wpAny_bind (wpAny_field e1 e3 e4 ?_)
  rw [if_neg (by simp : ¬ ((Value.ref T == Value.none) = true))]
  first
    | exact wpAny_bind (wpAny_pure (wpAny_bind away))
    | exact wpAny_bind away
theorem name_here {x : Str} {c : Value} {p : Pos} {oe : Obj} {Q : Value → Shared → Prop} {E : Value → Shared → Prop} (n : Names X x c) (S : Inv (X.suite a ((a, oe) :: (X.pn ++ pins))) [] σ H s) (q : Q c s) :
    wpAny (model X.prog X.w) (X.A.mark (some (.ref a))) (eval (.Name x p) X.env) Q E s := by
  obtain ⟨g, db, m | ⟨m, v, nn⟩⟩ := n
  · exact ld_glob (X := X.suite a ((a, oe) :: (X.pn ++ pins))) S g m q db
  · exact ld_blt (X := X.suite a ((a, oe) :: (X.pn ++ pins))) S g m v q nn db
theorem hand_go {D : Ends} {Wo : WX} (hs : X.stack = X.env :: X.outer) (hf : X.env.frame = some X.env.locals) (hN : X.N.Nodup) (tk : Takes X Wo) (h : Hand X pins a cls d σ H B sI s) :
    ∀ {hds : List ExceptHandler} {l : List Cl1}, ClsOk X hds l → wMix X.K Wo D l cls d σ H → wpAny (model X.prog X.w) X.A (handleBy (.ref a) X.env hds) (SP X pins D) X.xe s := by
  have ok := h.inv.ok
  obtain ⟨f1, f2⟩ := h.far hf
  have J := h.now
  obtain ⟨oe, vs, g1, g2, g3⟩ := h.fly.there
  have S := J.suite g1 g3 h.no f1 f2
  have LT : PySem.W.Looks (model X.prog X.w) s.heap (typeOf (.ref a)) cls := fun A Q E t k q => wpAny_typeOf_ref (k _ _ g1) (by rw [g2.1]; exact q)
  intro hds l c
  induction c with
  | nil => exact fun w => hand_nil hs hf tk h w
  | plain n su _ ih =>
    rintro ⟨b, b1, yes, nope⟩
    refine wpAny_handleBy_cons (codeAny_handlers_test ?_) (by intro z; cases z)
    have LM := PySem.W.exm_one (M := model X.prog X.w) J.kIn LT b1
    refine name_here n S (LM.here ?_)
    cases b with
    | false => exact ih (nope rfl)
    | true =>
      refine codeAny_handlers_suite (HandSPX.lands_againZ h.fly fun h4 fly4 up4 => ?_)
      obtain ⟨o4, v4, k1, k2, k3⟩ := fly4.there
      have J4 := h.inv.landed (s' := { s with heap := h4 }) h.gr fly4.1 (h.up.trans up4) h.os h.bare
      have S4 := J4.suite k1 k3 h.no f1 f2
      refine wpAny_mono ((su a o4 cls d _ k2 ⟨_, k3⟩).run [] _ _ H _ S4 (yes rfl a h.no)) (fun f t sp => ?_) (fun _ _ z => z.elim)
      cases f <;> dsimp only [SP] at sp ⊢
      all_goals first
        | (obtain ⟨σ6, H6, S6, q6⟩ := sp; exact ⟨σ6, H6, S6.unsuite ok, q6⟩)
        | (obtain ⟨v6, σ6, H6, S6, r6, q6⟩ := sp; exact ⟨v6, σ6, H6, S6.unsuite ok, r6, q6⟩)
  | @named x nm i c ts b0 bs p1 p2 hds l n hi hl su _ ih =>
    rintro ⟨b, b1, yes, nope⟩
    refine wpAny_handleBy_cons (codeAny_handlers_test ?_) (by intro z; cases z)
    have LM := PySem.W.exm_one (M := model X.prog X.w) J.kIn LT b1
    refine name_here n S (LM.here ?_)
    cases b with
    | false => exact ih (nope rfl)
    | true =>
      refine codeAny_handlers_suite_as (HandSPX.lands_againZ h.fly fun h4 fly4 up4 => ?_)
      obtain ⟨o4, v4, k1, k2, k3⟩ := fly4.there
      have J4 := h.inv.landed (s' := { s with heap := h4 }) h.gr fly4.1 (h.up.trans up4) h.os h.bare
      have S4 := J4.suite k1 k3 h.no f1 f2
      refine store_ok (X := X.suite a ((a, o4) :: (X.pn ++ pins))) (v := .ref a) S4 hN hi (.inl hl) rfl (fun s5 S5 => ?_) (.inr hl)
      refine wpAny_mono ((su a o4 cls d _ k2 ⟨_, k3⟩).run [] s5 _ H _ S5 (yes rfl a h.no)) (fun f t sp => ?_) (fun _ _ z => z.elim)
      have off : ∀ {σ6 : L2.St} {H6 : Hp} {Q : Shared → Prop}, Inv (X.suite a ((a, o4) :: (X.pn ++ pins))) [] σ6 H6 t → (∀ t7, Inv X pins (σ6.set i none) H6 t7 → Q t7) →
          wpAny (model X.prog X.w) X.A (do bindName X.env nm .none; unbindBehindTheSuite X.env nm p2) (fun _ t7 => Q t7) X.xe t := fun S6 q => gone_ok (S6.unsuite ok) hN hi hl q
      cases f <;> dsimp only [SP] at sp ⊢
      all_goals first
        | (obtain ⟨σ6, H6, S6, q6⟩ := sp; exact off S6 fun t7 J7 => ⟨_, H6, J7, q6⟩)
        | (obtain ⟨v6, σ6, H6, S6, r6, q6⟩ := sp; exact off S6 fun t7 J7 => ⟨v6, _, H6, J7, r6, q6⟩)
end
section
variable {X : Cx} {body : List Stmt} {h0 : ExceptHandler} {hds : List ExceptHandler} {l : List Cl1} {pos : Pos} {tb : WX → TS} {Wo : WX}
theorem ps_try_mix (hs : X.stack = X.env :: X.outer) (hf : X.env.frame = some X.env.locals) (hN : X.N.Nodup) (tk : Takes X Wo)
    (hb : ∀ (W : WX) (pn : List (Addr × Obj)) (xe : Value → Shared → Prop), Takes (X.tr pn xe) W → PassesOwn (model X.prog X.w) X.A X.env xe → PSs (X.tr pn xe) body (tb W))
    (hh : ClsOk X (h0 :: hds) l) : PS X (.Try body (h0 :: hds) [] [] pos) (fun D σ H => tb (wMix X.K Wo D l) D σ H) := by
  refine ⟨fun pins s σ H D I h => ?_⟩
  have ok := I.ok
  have fr : X.A.frames = some (X.env :: X.outer) := ok.frames.trans (by rw [hs])
  have run := (hb (wMix X.K Wo D l) (X.pn ++ pins) (fun e s1 => wpAny (model X.prog X.w) X.A (noteFrame e X.env) (fun _ s2 => wpAny (model X.prog X.w) X.A (setFlight e none) (fun _ s3 =>
    wpAny (model X.prog X.w) X.A (handleBy e X.env (h0 :: hds)) (SP X pins D) X.xe s3) X.xe s2) X.xe s1) (fun u s1 air => ?_) PassesOwn.looking).run [] s σ H D (I.toTry _) h
  · refine wpAny_Try_except (wpAny_mono run (fun f s1 sp => ?_) fun _ _ z => z)
    cases f <;> dsimp only [SP] at sp ⊢
    all_goals first
      | (obtain ⟨σ1, H1, J, q⟩ := sp; exact wpAny_execs_nil ⟨σ1, H1, J.ofTry ok, q⟩)
      | (obtain ⟨σ1, H1, J, q⟩ := sp; exact ⟨σ1, H1, J.ofTry ok, q⟩)
      | (obtain ⟨v, σ1, H1, J, r, q⟩ := sp; exact ⟨v, σ1, H1, J.ofTry ok, r, q⟩)
  · obtain ⟨a, B, sI, pins', σ1, H1, cls, d, rfl, J', gr, up, sky, no, os, bare, w⟩ := air
    have J : Inv X pins σ1 H1 sI := J'.ofTry ok
    have sky1 : Sky B (X.env :: X.outer) a (Zc cls d) X.env.locals s1.heap := by rw [← hs]; exact sky
    exact Sky.land Zc.steady fr hf sky1 fun h3 fly up3 => hand_go hs hf hN tk (s := { s1 with heap := h3 }) ⟨J, gr, fly, up.trans up3, no, os, bare⟩ hh w
end
end LX
end
section
set_option Elab.async false
set_option autoImplicit false
set_option linter.all false
set_option maxRecDepth 100000
set_option maxHeartbeats 2000000
/-! LXb: an own exception class whose __init__ says super().__init__(x) and keeps x. -/
namespace LX
open PySem PySem.Spec PyProof.Rows PySem.W PySem.Calls
/-- the rows of such an __init__ -/
def supBody (self x f : Str) (q : Nat → Pos) : List Stmt :=
  [.Expr (.Call (.Attribute (.Call (.Name "super" (q 2)) [] [] (q 3)) "__init__" (q 4)) [.Name x (q 5)] [] (q 6)) (q 7),
   .Assign [.Attribute (.Name self (q 8)) f (q 9)] (.Name x (q 10)) (q 11)]
section
variable {prog : Program} {w : World} {A : Around} {E : Value → Shared → Prop} {K : Frag} {C fI cc cda : Addr} {B newId initId : String} {bmB : List Value} {mg mb : Str → Option Value}
variable {qual self x f : Str} {qp : Nat → Pos} {params : Arguments} {scope : Scope} {dV kV doc pm ct oc ccl cl : Value} {an od cdd cld : Option Addr} {osl ccs csl : Array (Option Value)} {vs : Array Value} {file : Str} {tf : Tok} {cd : ClassData} {ar : Arg}
theorem sup_body {h₀ : Heap} {L e t0 : Addr} {m : Str → Option Value} {v : Value} {s : Shared} {Q : Flow → Shared → Prop} (FB : ExcBaseFacts B newId initId bmB) (SF : StoreFacts B bmB "object.__setattr__" "object") (KF : KxsFacts B initId)
    (X0 : K.In h₀) (F1 : Fr h₀ L s.heap m) (N1 : News h₀ L s.heap [(e, excObj C t0 none .none), (t0, excTup [v])]) (hg : h₀.Ns mainGlobals mg) (hb : h₀.Ns builtinsNs mb) (hbb : ∀ x : Str, x ≠ "__name__" → mb x = bootBuiltins x) (hms : mg "super" = none)
    (qC : excInitIn K C bmB newId = true) (lk : K.lookup fI = some ⟨oc, od, .func (ksFn "__init__" qual params (supBody self x f qp) scope dV kV doc pm an (.ref cda) ct cc), osl⟩)
    (hcode : K.lookup cda = some ⟨ccl, cdd, .fields vs, ccs⟩) (hvs : vs[2]? = some (.str file tf)) (hfile : ((prog.main.file : Str) == file) = true) (htop : (prog.main.scope.names.lookup ("super" : Str)).isSome = false)
    (hcell : K.lookup cc = some ⟨cl, cld, .cell (some (.ref C)), csl⟩) (hC : clsIn K C = some cd) (hsub : mroIn K C (.ref C) = some true) (ho : nsIn K cStatics "thirdparty.any" = some none)
    (hm : ks_superIn K C C "__init__" = some (some (.builtin initId))) (hB : subIn K (.ref C) (.type B) = some true)
    (hsa : findIn K (.ref C) "__setattr__" = some (some (.builtin "object.__setattr__"))) (hov : excOver K C bmB = true) (htk : takerIn K C f = some none) (hh : hasDictIn K C = true)
    (hte : t0 ≠ e) (hp : (params.posonlyargs ++ params.args).head? = some ar) (har : ar.arg = self) (mS : m self = some (.ref e)) (mX : m x = some v)
    (ks : scope.names.lookup self = some .local) (kx : scope.names.lookup x = some .local) (ksu : scope.names.lookup ("super" : Str) = some .globalImplicit) (kcl : scope.names.lookup ("__class__" : Str) = some .free)
    (kk : scope.kind = .function) (hln : ((qp 4).endLine == (qp 6).line) = true) (kd : (x == ("__debug__" : Str)) = false) (kds : (self == ("__debug__" : Str)) = false)
    (h : ∀ (t dx : Addr) (h' : Heap) (tk : Nat) (es : DictEntry) (n : Nat), Fr h₀ L h' m → e < dx → h'.get? e = some (excObj C t (some dx) .none) → h'.get? dx = some (dictOf [es] n) → es.val = v → (∃ tn, es.key = .str f tn) → Q .next { s with heap := h', toks := tk }) :
    _root_.PySem.wpAt (model prog w) A (.func (supBody self x f qp) (ksEnv qual scope L fI (.ref cda) cc)) (execs (supBody self x f qp) (ksEnv qual scope L fI (.ref cda) cc)) Q E s := by
  have quiet : interactive (ksEnv qual scope L fI (.ref cda) cc) = false := by
    unfold interactive
    simp [Env.blockKind, kk]
  have heq : eval (.Call (.Attribute (.Call (.Name "super" (qp 2)) [] [] (qp 3)) "__init__" (qp 4)) [.Name x (qp 5)] [] (qp 6)) (ksEnv qual scope L fI (.ref cda) cc) = (do
      let ov ← attributeBase (.Call (.Name "super" (qp 2)) [] [] (qp 3)) "__init__" (ksEnv qual scope L fI (.ref cda) cc) (eval (.Call (.Name "super" (qp 2)) [] [] (qp 3)) (ksEnv qual scope L fI (.ref cda) cc))
      standAt (qp 4).atName
      let (f, first) ← holding [ov] (getMethod ov "__init__" (do return (← importBound (.Call (.Name "super" (qp 2)) [] [] (qp 3)) (ksEnv qual scope L fI (.ref cda) cc)).getD true))
      callWith (qp 6) f first (backTo (qp 6) (starEach [.Name x (qp 5)] (ksEnv qual scope L fI (.ref cda) cc))) []) := by
    have hpos : methodCallPos true (.Call (.Name "super" (qp 2)) [] [] (qp 3)) (ksEnv qual scope L fI (.ref cda) cc) (qp 4) (qp 6) = pure (qp 6) := by
      unfold methodCallPos
      simp [hln]
    refine Eq.trans (b := (do
      let ov ← attributeBase (.Call (.Name "super" (qp 2)) [] [] (qp 3)) "__init__" (ksEnv qual scope L fI (.ref cda) cc) (eval (.Call (.Name "super" (qp 2)) [] [] (qp 3)) (ksEnv qual scope L fI (.ref cda) cc))
      standAt (qp 4).atName
      let (f, first) ← holding [ov] (calleeOf true (.Call (.Name "super" (qp 2)) [] [] (qp 3)) (ksEnv qual scope L fI (.ref cda) cc) ov "__init__")
      let cp ← methodCallPos true (.Call (.Name "super" (qp 2)) [] [] (qp 3)) (ksEnv qual scope L fI (.ref cda) cc) (qp 4) (qp 6)
      callWith cp f first (backTo (qp 6) (starEach [.Name x (qp 5)] (ksEnv qual scope L fI (.ref cda) cc))) [])) rfl ?_
    simp only [hpos, pure_bind, calleeOf, if_true]
  have lx : ∀ {h1 : Heap} {g : Array GenState} {d : Drawn} {tk : Nat} {os : OsState} {p : Pos} {Q : Value → Shared → Prop} {E : Value → Shared → Prop}, Fr h₀ L h1 m → Q v ⟨h1, g, d, tk, os⟩ → wpAny (model prog w) A (eval (.Name x p) (ksEnv qual scope L fI (.ref cda) cc)) Q E ⟨h1, g, d, tk, os⟩ :=
    fun F q => wpAny_Name (wpAny_loadName_local kk kx F.ns mX q) kd
  have ls : ∀ {h1 : Heap} {g : Array GenState} {d : Drawn} {tk : Nat} {os : OsState} {p : Pos} {Q : Value → Shared → Prop} {E : Value → Shared → Prop}, Fr h₀ L h1 m → Q (.ref e) ⟨h1, g, d, tk, os⟩ → wpAny (model prog w) A (eval (.Name self p) (ksEnv qual scope L fI (.ref cda) cc)) Q E ⟨h1, g, d, tk, os⟩ :=
    fun F q => wpAny_Name (wpAny_loadName_local kk ks F.ns mS q) kds
  obtain ⟨h1, g, d, tk, os⟩ := s
  have hD : ∃ oD, h₀.get? C = some oD ∧ oD.data = .cls cd := by
    unfold clsIn at hC
    split at hC
    · rename_i lo
      cases hC
      exact ⟨_, X0 _ _ lo, rfl⟩
    · cases hC
  obtain ⟨oD, hD1, hD2⟩ := hD
  have X1 : K.In h1 := X0.keeps F1.keep
  have I1 : InstAt h1 e (excObj C t0 none .none) C none := InstAt.of_exc0 N1 (.head _)
  refine ks_wpAt_execs_cons (ks_wpAt_Expr_any (ks_wpAt_MethodCall (ks_wpAt_super_base ksu kcl (by decide) rfl (X1 _ _ lk) rfl hp rfl (X1 _ _ hcode) rfl hvs hfile htop ?_) heq) quiet rfl)
  refine ks_loadName_global kk ksu (loadGlobal_builtin (env := ksEnv qual scope L fI (.ref cda) cc) (hg.keeps F1.keep) hms (hb.keeps F1.keep) ((hbb _ (by decide +kernel)).trans (by first | boot_by_name | rfl | kernel_rfl)) ⟨rfl, ?_⟩)
  refine wpAny_loadName_free kk kcl rfl ⟨_, X1 _ _ hcell, rfl⟩ ?_
  rw [har]
  refine wpAny_loadName_local kk ks F1.ns mS ?_
  refine ks_wpAny_isType_cls (F1.keep _ _ hD1) hD2 ⟨rfl, ?_⟩
  refine ks_wpAny_call_super (F1.keep _ _ hD1) hD2 I1.at_ I1.cls (fun c z => ?_) (looks_mroIn X1 hsub) (fun h2 a2 k2 => ?_)
  · cases z
  obtain ⟨F2, N2, l2⟩ := ks_newsPush (s := ⟨h1, g, d, tk, os⟩) F1 N1 rfl a2 k2
  refine kxs_method KF F2 X0 N2 (.head _) (InstAt.of_exc0 N2 (.tail _ (.head _))) ho hm hB (by decide) (fun q3 h3 F3 N3 l3 => ?_)
  have e23 : q3 ≠ e := Nat.ne_of_gt (l3 (e, excObj C t0 none .none) (.tail _ (.head _)))
  have e2 : h1.objs.size ≠ e := Nat.ne_of_gt (Heap.lt_size (N1 (e, excObj C t0 none .none) (.head _)).1)
  refine kxs_callWith1 N3 (.head _) (Calls.spliced_cons (lx F3 (Calls.spliced_nil ⟨kxs_at N3 (.head _), ?_⟩)))
  refine kxs_call (t := t0) (dv := none) (c2 := .none) F3 X0 N3 FB qC (.head _) (.tail e23 (.tail e2 (.head fun p hp => ?_))) (by show 1 ≤ sizeLine; rw [sizeLine_eq]; omega) (fun t4 h4 F4 N4 l4 => ?_)
  · simp only [List.mem_cons, List.not_mem_nil, or_false] at hp
    rw [hp]
    exact hte
  dsimp only
  refine ks_wpAt_execs_cons (ks_wpAt_Assign_Attr (wpAt_of_wpAny (lx F4 (ls F4 ?_))) rfl)
  refine set_exc0 (t := t4) (c2 := .none) (es' := [⟨_, .str f _, v⟩]) (n' := 1) SF F4 X0 N4 ?_ hsa hov htk hh rfl (.tail ?_ (.tail e23 (.tail e2 (.head fun p hp => ?_)))) (by simp) (fun dx h5 F5 N5 l5 => ?_)
  · exact .tail _ (.tail _ (.tail _ (.head _)))
  · exact Nat.ne_of_gt (l4 (e, excObj C t0 none .none) (.tail _ (.tail _ (.head _))))
  · simp only [List.mem_cons, List.not_mem_nil, or_false] at hp
    rw [hp]
    exact hte
  dsimp only
  refine wpAt_of_wpAny (wpAny_execs_nil (h t4 dx h5 _ _ _ F5 (l5 (e, excObj C t4 none .none) (.tail _ (.tail _ (.tail _ (.head _))))) (N5 (e, _) (.tail _ (.tail _ (.tail _ (.tail _ (.head _)))))).1 (N5 (dx, _) (.head _)).1 rfl ⟨_, rfl⟩))
theorem sup_call {v : Value} {s : Shared} {Q : Value → Shared → Prop} (FB : ExcBaseFacts B newId initId bmB) (SF : StoreFacts B bmB "object.__setattr__" "object") (KF : KxsFacts B initId)
    (X : K.In s.heap) (hg : s.heap.Ns mainGlobals mg) (hb : s.heap.Ns builtinsNs mb) (hbb : ∀ x : Str, x ≠ "__name__" → mb x = bootBuiltins x) (hlim : s.heap.NoLimit) (hms : mg "super" = none)
    (hi : findIn K (.ref C) "__init__" = some (some (.ref fI))) (qC : excInitIn K C bmB newId = true) (hf : isFn K (.ref fI) = true)
    (lk : K.lookup fI = some ⟨oc, od, .func (ksFn "__init__" qual params (supBody self x f qp) scope dV kV doc pm an (.ref cda) ct cc), osl⟩) (hcd : codeIn K (.ref cda) qual = true)
    (hcode : K.lookup cda = some ⟨ccl, cdd, .fields vs, ccs⟩) (hvs : vs[2]? = some (.str file tf)) (hfile : ((prog.main.file : Str) == file) = true) (htop : (prog.main.scope.names.lookup ("super" : Str)).isSome = false)
    (hcell : K.lookup cc = some ⟨cl, cld, .cell (some (.ref C)), csl⟩) (hC : clsIn K C = some cd) (hsub : mroIn K C (.ref C) = some true) (ho : nsIn K cStatics "thirdparty.any" = some none)
    (hm : ks_superIn K C C "__init__" = some (some (.builtin initId))) (hB : subIn K (.ref C) (.type B) = some true)
    (hsa : findIn K (.ref C) "__setattr__" = some (some (.builtin "object.__setattr__"))) (hov : excOver K C bmB = true) (htk : takerIn K C f = some none) (hh : hasDictIn K C = true)
    (hp : (params.posonlyargs ++ params.args).head? = some ar) (har : ar.arg = self) (hsx : (self == x) = false)
    (hbind : ∀ (s : Shared) (e v : Value), BindsTo s (ksFn "__init__" qual params (supBody self x f qp) scope dV kV doc pm an (.ref cda) ct cc) ⟨[e, v], []⟩ [(self, e), (x, v)])
    (kc : scope.names.all (fun y => !decide (y.2 = .cell)) = true) (ks : scope.names.lookup self = some .local) (kx : scope.names.lookup x = some .local) (ksu : scope.names.lookup ("super" : Str) = some .globalImplicit) (kcl : scope.names.lookup ("__class__" : Str) = some .free)
    (kk : scope.kind = .function) (hln : ((qp 4).endLine == (qp 6).line) = true) (kco : scope.isCoroutine = false) (kge : scope.isGenerator = false) (kd : (x == ("__debug__" : Str)) = false) (kds : (self == ("__debug__" : Str)) = false)
    (hroom : (A.under (.builtin "type.__call__" ⟨.ref C :: [v], []⟩)).depth < recursionLimit)
    (h : ∀ (e t dx : Addr) (h' : Heap) (tk : Nat) (es : DictEntry) (n : Nat), (∀ b o, s.heap.get? b = some o → h'.get? b = some o) → s.heap.objs.size ≤ e → s.heap.objs.size ≤ dx → dx ≠ e →
      h'.get? e = some (excObj C t (some dx) .none) → h'.get? dx = some (dictOf [es] n) → es.val = v → (∃ tn, es.key = .str f tn) → Q (.ref e) { s with heap := h', toks := tk }) :
    wpAny (model prog w) A (call (.ref C) [v]) Q E s := by
  obtain ⟨nm, N', qn, bs, bm, hdct, sn, sub, ab, col, dd, k0, k1, k2, k3, k5, hCo, hT⟩ := excInit_of X qC
  obtain ⟨oI, hoI, hcI⟩ : ∃ oI, s.heap.get? fI = some oI ∧ oI.cls = .type "function" := by
    obtain ⟨o, ho, hc⟩ := Option.map_eq_some_iff.mp (show (K.lookup fI).map (·.cls) = some (.type "function") from beq_iff_eq.mp hf)
    exact ⟨o, X _ _ ho, hc⟩
  have hi' : Looks (model prog w) s.heap (typeLookup (.ref C) "__init__") (some (.ref fI)) := looks_findIn X hi
  obtain ⟨hp0, g, d, tk0, os⟩ := s
  have up1 : ∀ b o, hp0.get? b = some o → ((hp0.push (kdv_tup [v])).push (excObj C hp0.objs.size none .none)).get? b = some o := fun b o e => Heap.get?_push_of_some _ (Heap.get?_push_of_some _ e)
  refine wpAny_call (PX.call_own FB hT hCo hi' (fun y => exc_bind hoI hcI y) (by show 1 ≤ sizeLine; rw [sizeLine_eq]; omega) ?_)
  have X1 : K.In ((hp0.push (kdv_tup [v])).push (excObj C hp0.objs.size none .none)) := X.keeps up1
  refine ks_codeAny_call_defAt (fd := ksFn "__init__" qual params (supBody self x f qp) scope dV kV doc pm an (.ref cda) ct cc) (body := supBody self x f qp) (binds := [(self, .ref (hp0.objs.size + 1)), (x, v)]) hroom (X1 _ _ lk) rfl (hlim.keeps up1) (codeRec_of X1 hcd) rfl (hbind _ _ _) (fun y hy => ?_) (fun y hy => ?_) (fun h1 hns kp => ?_) kco kge kk
  · have := List.all_eq_true.mp kc y hy
    intro z
    rw [z] at this
    simp at this
  · simp at hy
    rcases hy with rfl | rfl
    · exact ks
    · exact kx
  have hL : ((hp0.push (kdv_tup [v])).push (excObj C hp0.objs.size none .none)).objs.size = hp0.objs.size + 2 := by rw [Heap.size_push, Heap.size_push]
  have ge : ((hp0.push (kdv_tup [v])).push (excObj C hp0.objs.size none .none)).get? (hp0.objs.size + 1) = some (excObj C hp0.objs.size none .none) := by heap_get
  have gt : ((hp0.push (kdv_tup [v])).push (excObj C hp0.objs.size none .none)).get? hp0.objs.size = some (excTup [v]) := by heap_get
  have fresh : ∀ b, hp0.objs.size ≤ b → hp0.get? b = none := fun b hb => by
    cases z : hp0.get? b with
    | none => rfl
    | some o => exact absurd (Heap.lt_size z) (Nat.not_lt.mpr hb)
  rw [hL] at hns ⊢
  have F1 : Fr hp0 (hp0.objs.size + 2) h1 (fun y => ([(self, Value.ref (hp0.objs.size + 1)), (x, v)] : List (Str × Value)).reverse.lookup y) := ⟨hns, fun b o e => kp b o (up1 b o e), Nat.le_add_right _ _⟩
  have N1 : News hp0 (hp0.objs.size + 2) h1 [(hp0.objs.size + 1, excObj C hp0.objs.size none .none), (hp0.objs.size, excTup [v])] := fun p hp => by
    simp only [List.mem_cons, List.not_mem_nil, or_false] at hp
    rcases hp with rfl | rfl
    · exact ⟨kp _ _ ge, by simp, fresh _ (by simp)⟩
    · exact ⟨kp _ _ gt, by simp, fresh _ (Nat.le_refl _)⟩
  have mS : (fun y => ([(self, Value.ref (hp0.objs.size + 1)), (x, v)] : List (Str × Value)).reverse.lookup y) self = some (.ref (hp0.objs.size + 1)) := by
    show List.lookup self [(x, v), (self, Value.ref (hp0.objs.size + 1))] = _
    rw [List.lookup_cons, hsx, List.lookup_cons]
    simp
  have mX : (fun y => ([(self, Value.ref (hp0.objs.size + 1)), (x, v)] : List (Str × Value)).reverse.lookup y) x = some v := by
    show List.lookup x [(x, v), (self, Value.ref (hp0.objs.size + 1))] = _
    rw [List.lookup_cons]
    simp
  generalize (fun y => ([(self, Value.ref (hp0.objs.size + 1)), (x, v)] : List (Str × Value)).reverse.lookup y) = mm at F1 mS mX
  refine sup_body FB SF KF X F1 N1 hg hb hbb hms qC lk hcode hvs hfile htop hcell hC hsub ho hm hB hsa hov htk hh (by simp) hp har mS mX ks kx ksu kcl kk hln kd kds (fun t dx h' tk es n F5 n1 a1 a2 a3 a4 => ?_)
  exact ⟨rfl, h (hp0.objs.size + 1) t dx h' tk es n F5.keep (Nat.le_succ _) (Nat.le_trans (Nat.le_succ _) (Nat.le_of_lt n1)) (Nat.ne_of_gt n1) a1 a2 a3 a4⟩
end
end LX
end
section
set_option Elab.async false
set_option autoImplicit false
set_option linter.all false
set_option maxRecDepth 100000
set_option maxHeartbeats 2000000
/-! LXc: raising an own exception that keeps its argument. -/
namespace LX
open PySem PySem.Spec PyProof.Rows PySem.W PySem.Calls L2
/-- what the written part tells of such a class -/
structure SupW (P : Program) (K : Frag) (C : Addr) (f : Str) where
  B : String
  newId : String
  initId : String
  bmB : List Value
  fI : Addr
  cc : Addr
  cda : Addr
  qual : Str
  self : Str
  x : Str
  qp : Nat → Pos
  params : Arguments
  scope : Scope
  dV : Value
  kV : Value
  doc : Value
  pm : Value
  ct : Value
  oc : Value
  ccl : Value
  cl : Value
  an : Option Addr
  od : Option Addr
  cdd : Option Addr
  cld : Option Addr
  osl : Array (Option Value)
  ccs : Array (Option Value)
  csl : Array (Option Value)
  vs : Array Value
  file : Str
  tf : Tok
  cd : ClassData
  ar : Arg
  FB : ExcBaseFacts B newId initId bmB
  SF : StoreFacts B bmB "object.__setattr__" "object"
  KF : KxsFacts B initId
  hi : findIn K (.ref C) "__init__" = some (some (.ref fI))
  qC : excInitIn K C bmB newId = true
  hf : isFn K (.ref fI) = true
  lk : K.lookup fI = some ⟨oc, od, .func (ksFn "__init__" qual params (supBody self x f qp) scope dV kV doc pm an (.ref cda) ct cc), osl⟩
  hcd : codeIn K (.ref cda) qual = true
  hcode : K.lookup cda = some ⟨ccl, cdd, .fields vs, ccs⟩
  hvs : vs[2]? = some (.str file tf)
  hfile : ((P.main.file : Str) == file) = true
  htop : (P.main.scope.names.lookup ("super" : Str)).isSome = false
  hcell : K.lookup cc = some ⟨cl, cld, .cell (some (.ref C)), csl⟩
  hC : clsIn K C = some cd
  hsub : mroIn K C (.ref C) = some true
  ho : nsIn K cStatics "thirdparty.any" = some none
  hm : ks_superIn K C C "__init__" = some (some (.builtin initId))
  hB : subIn K (.ref C) (.type B) = some true
  hsa : findIn K (.ref C) "__setattr__" = some (some (.builtin "object.__setattr__"))
  hov : excOver K C bmB = true
  htk : takerIn K C f = some none
  hh : hasDictIn K C = true
  hp : (params.posonlyargs ++ params.args).head? = some ar
  har : ar.arg = self
  hsx : (self == x) = false
  hbind : ∀ (s : Shared) (e v : Value), BindsTo s (ksFn "__init__" qual params (supBody self x f qp) scope dV kV doc pm an (.ref cda) ct cc) ⟨[e, v], []⟩ [(self, e), (x, v)]
  kc : scope.names.all (fun y => !decide (y.2 = .cell)) = true
  ks : scope.names.lookup self = some .local
  kx : scope.names.lookup x = some .local
  ksu : scope.names.lookup ("super" : Str) = some .globalImplicit
  kcl : scope.names.lookup ("__class__" : Str) = some .free
  kk : scope.kind = .function
  hln : ((qp 4).endLine == (qp 6).line) = true
  kco : scope.isCoroutine = false
  kge : scope.isGenerator = false
  kd : (x == ("__debug__" : Str)) = false
  kds : (self == ("__debug__" : Str)) = false
section
variable {X : Cx} {C : Addr} {f x : Str} {e : Expr} {te : TE} {p pos : Pos}
theorem ns1_one {h : Heap} {dx : Addr} {es : DictEntry} {n : Nat} {tn : Tok} (hd : h.get? dx = some (dictOf [es] n)) (hk : es.key = .str f tn) : h.Ns1 dx (fun y => if f = y then some es.val else none) := by
  refine ⟨_, _, _, hd, rfl, ?_, ?_, fun y => ?_⟩
  · intro b hb
    simp at hb
    subst hb
    exact ⟨f, tn, hk⟩
  · unfold UniqKeys
    simp
  · simp only [nsFind, findBy, List.find?_toArray, List.find?_cons, hk, Value.isStr, List.find?_nil]
    by_cases h : f = y
    · subst h
      simp
    · rw [if_neg h]
      have : (f == y) = false := by
        cases q : f == y with
        | false => rfl
        | true => exact absurd (eq_of_beq q) h
      rw [this]
      rfl
/-- C(e) -/
theorem pmk_sup {k : Nat} (T : SupW X.prog X.K C f) (hr : Room (k + 1) X.A) (hg : Gl X x) (hm : X.mg x = some (.ref C)) (hk : keepIn X.K (.ref C) = true) (hms : X.mg "super" = none) (r : Raises X (.ref C)) (he : PE X e te) (hn : starEach [e] X.env = [(false, eval e X.env)]) (hdb : (x == ("__debug__" : Str)) = false) :
    PMk X (.Call (.Name x p) [e] [] pos) (fun σ H Q => te σ H fun v H1 => ∀ d, H1 d = none → Q (.ref C) (some d) (upd H1 d (.xd [(f, v)]))) := by
  intro pins s σ H Q I h
  refine wpAny_Call_Name_kw (ld_glob I hg hm ?_ hdb)
  have ha : PA X [e] (tCons te tNil) := pa_cons he pa_nil hn
  refine callWith_K (h₀ := X.base) I.ok.mod.kin hk (thn (ha.run pos pins s σ H (fun vs H1 => match vs with | [v] => ∀ d, H1 d = none → Q (.ref C) (some d) (upd H1 d (.xd [(f, v)])) | _ => False) I h) fun us s1 hh => ?_) hn rfl
  · obtain ⟨vs, H1, I1, r1, q⟩ := hh
    refine ⟨I1.kIn, ?_⟩
    cases r1 with
    | nil => exact False.elim q
    | @cons v u vr us' ru rn =>
      cases vr with
      | cons _ _ => exact False.elim q
      | nil =>
      cases rn
      dsimp only at q
      obtain ⟨mb, hb, hbb⟩ := I1.ok.mod.blt
      have gk : ∀ b o, X.base.get? b = some o → s1.heap.get? b = some o := I1.bk
      show wpAny _ _ (call (.ref C) [u]) _ _ _
      refine sup_call T.FB T.SF T.KF I1.kIn (I1.ok.mod.glob.keeps gk) (hb.keeps gk) hbb (I1.ok.mod.nolimit.keeps gk) hms T.hi T.qC T.hf T.lk T.hcd T.hcode T.hvs T.hfile T.htop T.hcell T.hC T.hsub T.ho T.hm T.hB T.hsa T.hov T.htk T.hh T.hp T.har T.hsx T.hbind T.kc T.ks T.kx T.ksu T.kcl T.kk T.hln T.kco T.kge T.kd T.kds (hr.make C [u] []).depth (fun a t dx h' tk es n kp a1 a2 a3 a4 a5 a6 ⟨tn, a7⟩ => ?_)
      obtain ⟨G, g1, g2⟩ := restrict h' fun b => decide (b ≠ a)
      have gk : ∀ b, b ≠ a → G.get? b = h'.get? b := fun b hb => g1 b (decide_eq_true hb)
      have ga : G.get? a = none := g2 a (by simp)
      have kG : ∀ b o, s1.heap.get? b = some o → G.get? b = some o := fun b o z => by
        rw [gk b (Nat.ne_of_lt (Nat.lt_of_lt_of_le (Heap.lt_size z) a1))]
        exact kp b o z
      have J : Inv X pins σ (upd H1 dx (.xd [(f, v)])) { s1 with heap := G, toks := tk } := by
        refine I1.laid (h' := G) (a := dx) (o := .xd [(f, v)]) kG a2 ?_
        refine ⟨_, ns1_one (h := G) (dx := dx) (es := es) (n := n) (f := f) ((gk dx a3).trans a5) a7, fun y => ?_⟩
        rw [List.lookup_cons]
        by_cases hy : f = y
        · subst hy
          rw [if_pos rfl]
          simp only [BEq.rfl]
          rw [a6]
          exact ru
        · rw [if_neg hy]
          have : (y == f) = false := by
            cases q : y == f with
            | false => rfl
            | true => exact absurd (eq_of_beq q).symm hy
          rw [this]
          exact True.intro
      have na : H1 a = none := I1.hok.fresh a1
      refine ⟨a, _, _, { s1 with heap := G, toks := tk }, _, .ref C, some dx, rfl, J, fun b o z => ?_, ga, a4, ⟨rfl, rfl⟩, rfl, rfl, ?_, rfl, I1.bare, r, q dx (I1.hok.fresh a2)⟩
      · by_cases hb : b = a
        · subst hb
          rw [show ({ s1 with heap := G, toks := tk } : Shared).heap = G from rfl, ga] at z
          cases z
        · exact (gk b hb).symm.trans z
      · rw [upd_ne (Ne.symm a3)]
        exact na
end
end LX
end
section
set_option Elab.async false
set_option autoImplicit false
set_option linter.all false
set_option maxRecDepth 100000
set_option maxHeartbeats 2000000
/-! LXg: repr of data of any depth. -/
namespace LX
open PySem PySem.Spec PyProof.Rows L2 LamX
def reprV : V → Option Str
  | .non => some "None"
  | .bl b => some (if b then "True" else "False")
  | .int i => if Nat.ble i.natAbs.log2 1919 then some (toString i) else none
  | .str x => if Nat.ble (PySem.reprText x).length 16000000 then some (PySem.reprText x) else none
  | _ => none
mutual
/-- what a value is, all the way down -/
inductive ShH (K : PySem.W.Frag) (H : Hp) : V → PyData → Prop
  | non : ShH K H .non .none
  | bl (b : Bool) : ShH K H (.bl b) (.bool b)
  | int (i : Int) : ShH K H (.int i) (.int i)
  | str (x : Str) : ShH K H (.str x) (.str x)
  | tup {a : Addr} {vs : List V} {ds : List PyData} : SqT K H a vs → ShHs K H vs ds → ShH K H (.ref a) (.tuple ds)
  | lst {a : Addr} {vs : List V} {ds : List PyData} : SqL K H a vs → ShHs K H vs ds → ShH K H (.ref a) (.list ds)
  | dic {a : Addr} : H a = some (.dK []) → ShH K H (.ref a) (.dict [])
inductive ShHs (K : PySem.W.Frag) (H : Hp) : List V → List PyData → Prop
  | nil : ShHs K H [] []
  | cons {v : V} {vs : List V} {d : PyData} {ds : List PyData} : ShH K H v d → ShHs K H vs ds → ShHs K H (v :: vs) (d :: ds)
end
section
variable {X : Cx} {pins : List (Addr × Obj)} {σ : L2.St} {H : Hp} {s : Shared}
mutual
theorem sh_reads (I : Inv X pins σ H s) : ∀ {v : V} {u : Value} {d : PyData}, ShH X.K H v d → RelV v u → ∃ as, Reads s.heap u d as
  | _, _, _, .non, r => by cases r; exact ⟨_, .none⟩
  | _, _, _, .bl b, r => by cases r; exact ⟨_, .bool b⟩
  | _, _, _, .int i, r => by obtain ⟨t, rfl⟩ := r; exact ⟨_, .int i t⟩
  | _, _, _, .str x, r => by obtain ⟨t, rfl⟩ := r; exact ⟨_, .str x t⟩
  | _, _, _, .tup h hs, r => by
    cases r
    obtain ⟨its, rv, ⟨o, ho, hcl, n, hd⟩, _⟩ := I.tuple h
    obtain ⟨as, ra⟩ := shs_reads I hs rv
    exact ⟨_, .tuple ho hcl hd ra⟩
  | _, _, _, .lst h hs, r => by
    cases r
    obtain ⟨its, rv, p, _⟩ := I.list h
    obtain ⟨o, ho, hcl, n, hd⟩ := p.isList
    obtain ⟨as, ra⟩ := shs_reads I hs rv
    exact ⟨_, .list ho hcl hd ra⟩
  | _, _, _, .dic h, r => by
    cases r
    obtain ⟨_, _, vs, kv, o, es, ep, ho, hx, hd, hk, hp, _⟩ := (show ObjOk X.prog X.w H s.heap _ (.dK []) from I.hok _ _ h)
    cases kv
    have e : es.toList = [] := by
      cases q : es.toList with
      | nil => rfl
      | cons a b => rw [q] at hp; cases hp
    exact ⟨_, .dict (kvs := []) ho hx.1 hd (by rw [e]; exact .nil) (by rw [e]; exact .nil)⟩
theorem shs_reads (I : Inv X pins σ H s) : ∀ {vs : List V} {us : List Value} {ds : List PyData}, ShHs X.K H vs ds → Vals vs us → ∃ as, ReadsAll s.heap us ds as
  | _, _, _, .nil, r => by cases r; exact ⟨_, .nil⟩
  | _, _, _, .cons h hs, .cons r rs => by
    obtain ⟨as, a⟩ := sh_reads I h r
    obtain ⟨bs, b⟩ := shs_reads I hs rs
    exact ⟨_, .cons a b⟩
end
end
/-- t is the repr of v -/
def ShowsT (K : PySem.W.Frag) (H : Hp) (v : V) (t : Str) : Prop := reprV v = some t ∨
  ∃ (a : Addr) (d : PyData), v = .ref a ∧ ShH K H v d ∧ d.showable = true ∧ d.depth ≤ 40 ∧ t = d.shown ∧ t.length ≤ 16000000 ∧ (d.hasDict = true → d = .dict [])
section
variable {X : Cx}
theorem call_repr (hg : X.A.guards = some []) (hu : X.A.units + 64 < cLine) : CallR X (.builtin "repr") (fun xs H Q => ∃ v t, xs = [v] ∧ ShowsT X.K H v t ∧ Q (.str t) H) := by
  intro pins s σ H xs us Q I r h
  obtain ⟨v, t, rfl, e, q⟩ := h
  cases r with
  | cons ru rn =>
    cases rn
    rcases e with e | ⟨a, d, rfl, sh, hs, hd, rfl, hz, hdic⟩
    · cases v with
      | non =>
        cases ru
        cases e
        exact PySem.P.repr_of_none ⟨.str _, H, I.tok _, ⟨_, rfl⟩, q⟩
      | bl b =>
        cases ru
        cases e
        exact PySem.P.repr_of_bool ⟨.str _, H, I.tok _, ⟨s.toks, by cases b <;> rfl⟩, q⟩
      | int i =>
        obtain ⟨k, rfl⟩ := ru
        have e : (if Nat.ble i.natAbs.log2 1919 then some (toString i : Str) else none) = some t := e
        split at e
        · rename_i hz
          cases e
          exact PySem.P.repr_of_int (Nat.lt_succ_of_le (Nat.le_of_ble_eq_true hz)) ⟨.str _, H, I.tok _, ⟨_, rfl⟩, q⟩
        · cases e
      | str x =>
        obtain ⟨k, rfl⟩ := ru
        have e : (if Nat.ble (PySem.reprText x).length 16000000 then some (PySem.reprText x) else none) = some t := e
        split at e
        · rename_i hz
          cases e
          refine PySem.P.repr_of_str ⟨.str _, H, I.tok _, ⟨_, rfl⟩, q⟩ ?_
          have := Nat.le_of_ble_eq_true hz
          rw [sizeLine_eq]
          omega
        · cases e
      | _ => cases e
    · cases ru
      obtain ⟨as, rd⟩ := sh_reads I sh rfl
      refine repr_of_reads' rd hs (fun hh => ?_) hg (by omega) (fun _ _ e => e) (fun h' u tk hk => ⟨.str _, H, I.kept (t' := tk) hk, ⟨_, rfl⟩, q⟩) (by rw [sizeLine_eq]; omega)
      have := hdic hh
      subst this
      cases sh with
      | dic hH =>
        obtain ⟨_, hns, vs, kv, o, es, ep, ho, hx, hdt, hk, hp, _⟩ := (show ObjOk X.prog X.w H s.heap _ (.dK []) from I.hok _ _ hH)
        cases kv
        have e : es.toList = [] := by
          cases q : es.toList with
          | nil => rfl
          | cons a b => rw [q] at hp; cases hp
        cases rd with
        | dict h1 h2 h3 h4 h5 =>
          rw [ho] at h1
          cases h1
          rw [hdt] at h3
          cases h3
          rw [e] at h4 h5
          cases h4
          cases h5
          simp only [List.append_nil, List.mem_singleton]
          intro z
          rw [← z] at hns
          simp at hns
end
end LX
end
section
set_option Elab.async false
set_option autoImplicit false
set_option linter.all false
set_option maxRecDepth 100000
set_option maxHeartbeats 2000000
/-! LXd: a def that calls what it got and tells a word of the error. -/
namespace LX
open PySem PySem.Spec PyProof.Rows L2 LamX
/-! ### the clauses -/
inductive HC where
  | plain (c w : Str)
  | kept (c f w : Str) (m : DL.Md)
def HC.c : HC → Str
  | .plain c _ => c
  | .kept c _ _ _ => c
/-- e.f, seen by its form -/
def attB (n f : Str) : Expr → Bool
  | .Attribute (.Name m _) g _ => decide (m = n) && decide (g = f)
  | _ => false
/-- what stands behind the word -/
def mdB (n f : Str) (m : DL.Md) (e : Expr) : Bool := match m with
  | .rep => (match e with | .Call (.Name y _) [x] [] _ => decide (y = "repr") && attB n f x | _ => false)
  | .rep2 => (match e with | .Call (.Name y _) [.Subscript x (.Slice none (some (.Constant (.int i) _ _)) none _) _] [] _ => decide (y = "repr") && decide (i = 2) && attB n f x | _ => false)
  | .str => (match e with | .Call (.Name y _) [x] [] _ => decide (y = "str") && attB n f x | _ => false)
  | .at0 => (match e with | .Subscript x (.Constant (.int i) _ _) _ => decide (i = 0) && attB n f x | _ => false)
def hcB (n : Str) (h : HC) (e : ExceptHandler) : Bool := match h with
  | .plain c w => (match e with
    | .ExceptHandler (some (.Name y _)) none [.Return (some (.Constant (.str z) _ _)) _] _ => decide (y = c) && decide (z = w)
    | _ => false)
  | .kept c f w m => (match e with
    | .ExceptHandler (some (.Name y _)) (some n2) [.Return (some (.BinOp (.Constant (.str z) _ _) .Add x _)) _] _ =>
      decide (y = c) && decide (n2 = n) && decide (z = w) && mdB n f m x
    | _ => false)
def hcsB (n : Str) : List HC → List ExceptHandler → Bool
  | [], [] => true
  | h :: hs, e :: es => hcB n h e && hcsB n hs es
  | _, _ => false
/-- both forms of the def's body -/
def wordB (a n fine : Str) (hs : List HC) : List Stmt → Bool
  | [.Try [.Expr (.Call (.Name a1 _) [] [] _) _, .Return (some (.Constant (.str z) _ _)) _] (h :: hds) [] [] _] => decide (a1 = a) && decide (z = fine) && hcsB n hs (h :: hds)
  | [.Try [.Expr (.Call (.Name a1 _) [] [] _) _] (h :: hds) [] [] _, .Return (some (.Constant (.str z) _ _)) _] => decide (a1 = a) && decide (z = fine) && hcsB n hs (h :: hds)
  | _ => false
/-- w and what is told of v -/
def MdW (K : PySem.W.Frag) (m : DL.Md) (w : Str) (v : V) (H : Hp) (Q : VK) : Prop := match m with
  | .rep => ∃ t : Str, ShowsT K H v t ∧ w.length + t.length ≤ sizeLine ∧ Q (.str (w ++ t)) H
  | .rep2 => rSlA K v none (some 2) H fun y H2 => ∃ t : Str, ShowsT K H2 y t ∧ w.length + t.length ≤ sizeLine ∧ Q (.str (w ++ t)) H2
  | .str => ∃ i : Int, v = .int i ∧ i.natAbs.log2 < 1920 ∧ w.length + (toString i : Str).length ≤ sizeLine ∧ Q (.str (w ++ (toString i : Str))) H
  | .at0 => ∃ (p : Addr) (xs : List V) (t : Str), v = .ref p ∧ SqT K H p xs ∧ atI xs 0 = some (.str t) ∧ w.length + t.length ≤ sizeLine ∧ Q (.str (w ++ t)) H
def wordX (K : PySem.W.Frag) (cA : Str → Addr) (Q : VK) : List HC → XK
  | [] => fun _ _ _ => False
  | .plain c w :: r => fun cls d H => ∃ b, PySem.W.exmOne K cls (.ref (cA c)) = some b ∧ (b = true → Q (.str w) H) ∧ (b = false → wordX K cA Q r cls d H)
  | .kept c f w m :: r => fun cls d H => ∃ b, PySem.W.exmOne K cls (.ref (cA c)) = some b ∧ (b = true → cls = .ref (cA c) ∧ ∃ (dd : Addr) (fs : List (Str × V)) (v : V), d = some dd ∧ H dd = some (.xd fs) ∧ fs.lookup f = some v ∧ MdW K m w v H Q) ∧
      (b = false → wordX K cA Q r cls d H)
def TTw (K : PySem.W.Frag) (cA : Str → Addr) (l : List HC) (fine : Str) : (XK → Hp → VK → Prop) → Hp → VK → Prop := fun tl H Q => tl (wordX K cA Q l) H fun _ H' => Q (.str fine) H'
def MdOk (mg : Str → Option Value) (sg : Scope) : DL.Md → Prop
  | .rep => sg.names.lookup ("repr" : Str) = some .globalImplicit ∧ mg "repr" = none
  | .rep2 => sg.names.lookup ("repr" : Str) = some .globalImplicit ∧ mg "repr" = none
  | .str => sg.names.lookup ("str" : Str) = some .globalImplicit ∧ mg "str" = none
  | .at0 => True
/-- what is known of the clauses' classes -/
def HcOk (K : PySem.W.Frag) (mg : Str → Option Value) (sg : Scope) (cA : Str → Addr) : HC → Prop
  | .plain c _ => sg.names.lookup c = some .globalImplicit ∧ (c == ("__debug__" : Str)) = false ∧ mg c = some (.ref (cA c))
  | .kept c f _ m => sg.names.lookup c = some .globalImplicit ∧ (c == ("__debug__" : Str)) = false ∧ mg c = some (.ref (cA c)) ∧ XfC K (cA c) ∧ PySem.W.findIn K (.ref (cA c)) f = some none ∧ MdOk mg sg m
section
variable {X : Cx}
theorem Takes.len {W : WX} (t : Takes X W) : Takes X (fun c d σ H => σ.length = X.N.length → W c d σ H) := fun u s' ⟨a, B, sI, pins, σ, H, cls, d, e, I, nb, up, sky, na, os, ag, w⟩ => t u s' ⟨a, B, sI, pins, σ, H, cls, d, e, I, nb, up, sky, na, os, ag, w I.len⟩
theorem pss_mono {st : List Stmt} {t t' : TS} (h : PSs X st t) (q : ∀ D σ H, t' D σ H → t D σ H) : PSs X st t' := ⟨fun pins s σ H D I z => h.run pins s σ H D I (q D σ H z)⟩
/-- a clause's wish -/
def cl1 (K : PySem.W.Frag) (cA : Str → Addr) : HC → Cl1
  | .plain c w => (.ref (cA c), none, fun _ _ _ D _ H => D.rt (.str w) H)
  | .kept c f w m => (.ref (cA c), some 1, fun a cls d D σ H => σ[1]? = some (some (.ref a)) ∧ cls = .ref (cA c) ∧ ∃ (dd : Addr) (fs : List (Str × V)) (v : V), d = some dd ∧ H dd = some (.xd fs) ∧ fs.lookup f = some v ∧ MdW K m w v H D.rt)
def noStarE : Expr → Bool
  | .Starred _ _ => false
  | _ => true
theorem starE_cons {e : Expr} {es : List Expr} {env : PySem.Env} (h : noStarE e = true) : starEach (e :: es) env = (false, eval e env) :: starEach es env := by
  cases e <;> first | rfl | cases h
theorem PE.by {e : Expr} {t t' : TE} (h : PE X e t) (q : ∀ σ H Q, t' σ H Q → t σ H Q) : PE X e t' := ⟨fun pins s σ H Q I z => h.run pins s σ H Q I (q σ H Q z)⟩
/-- what stands behind the word -/
theorem md_ok {n f : Str} {m : DL.Md} {e : Expr} {w : Str} {j : Nat} {p1 p2 : Pos} {a C : Addr} {oe : Obj} {cls : Value} {d : Option Addr} {pn : List (Addr × Obj)} (h : mdB n f m e = true) (hg : X.A.guards = some []) (hu : X.A.units + 64 < cLine) (ok : MdOk X.mg X.env.scope m)
    (hn : X.N[1]? = some n) (hv : Vis X.env.scope n) (od : (n == ("__debug__" : Str)) = false) (oc : (n == ("__classdict__" : Str)) = false) (o4 : XfC X.K C) (o5 : PySem.W.findIn X.K (.ref C) f = some none) (hz : Zc cls d oe) (hf : ∃ vs, oe.data = .fields vs) :
    PE (X.suite a ((a, oe) :: pn)) (.BinOp (.Constant (.str w) j p1) .Add e p2) (fun σ H Q => σ[1]? = some (some (.ref a)) ∧ cls = .ref C ∧ ∃ (dd : Addr) (fs : List (Str × V)) (v : V), d = some dd ∧ H dd = some (.xd fs) ∧ fs.lookup f = some v ∧ MdW X.K m w v H Q) := by
  have gl : ∀ {x : Str}, X.env.scope.names.lookup x = some .globalImplicit → Gl (X.suite a ((a, oe) :: pn)) x := fun {x} h => h
  have hg' : (X.suite a ((a, oe) :: pn)).A.guards = some [] := hg
  have hu' : (X.suite a ((a, oe) :: pn)).A.units + 64 < cLine := hu
  have pa : ∀ q1 q2, PE (X.suite a ((a, oe) :: pn)) (.Attribute (.Name n q1) f q2) (tXf a cls d C f (tVar 1)) := fun q1 q2 => pe_xf o4 o5 hz hf (pe_var (X := X.suite a ((a, oe) :: pn)) hn hv od oc) rfl
  have at_ : ∀ {x : Expr}, attB n f x = true → (noStarE x = true ∧ PE (X.suite a ((a, oe) :: pn)) x (tXf a cls d C f (tVar 1))) := fun {x} hx => by
    unfold attB at hx
    split at hx
    · simp only [Bool.and_eq_true, decide_eq_true_eq] at hx
      rw [hx.1, hx.2]
      exact ⟨rfl, pa _ _⟩
    · cases hx
  cases m with
  | rep =>
    unfold mdB at h
    dsimp only at h
    split at h
    · rename_i y q3 x q4
      simp only [Bool.and_eq_true, decide_eq_true_eq] at h
      obtain ⟨h1, h2⟩ := h
      subst h1
      obtain ⟨s1, a1⟩ := at_ h2
      have p3 := pe_callB (X := X.suite a ((a, oe) :: pn)) (p := q3) (pos := q4) (call_repr hg' hu') (gl ok.1) ok.2 (by first | boot_by_name | rfl | kernel_rfl) (pa_cons a1 pa_nil (starE_cons s1)) (by decide) (by decide) (starE_cons s1) rfl
      refine PE.by (pe_op op_add_str pe_str p3) fun σ H Q ⟨h1, h2, dd, fs, v, h3, h4, h5, t, k1, k2, k3⟩ => ?_
      exact ⟨_, h1, rfl, h2, dd, fs, v, h3, h4, h5, v, t, rfl, k1, w, t, rfl, rfl, k2, k3⟩
    · cases h
  | rep2 =>
    unfold mdB at h
    dsimp only at h
    split at h
    · rename_i y q3 x i k5 q5 q6 q7 q8
      simp only [Bool.and_eq_true, decide_eq_true_eq] at h
      obtain ⟨⟨h1, h2⟩, h3⟩ := h
      subst h1
      subst h2
      obtain ⟨s1, a1⟩ := at_ h3
      have p4 := fun qa qb => pe_slice (X := X.suite a ((a, oe) :: pn)) (p2 := qa) (pos := qb) sl_tupA a1 po_none (po_some (pe_int (pos := q5) (j := k5) (i := 2)))
      have p3 := fun qa qb => pe_callB (X := X.suite a ((a, oe) :: pn)) (p := q3) (pos := q8) (call_repr hg' hu') (gl ok.1) ok.2 (by first | boot_by_name | rfl | kernel_rfl) (pa_cons (p4 qa qb) pa_nil rfl) (by decide) (by decide) rfl rfl
      refine PE.by (pe_op op_add_str pe_str (p3 _ _)) fun σ H Q ⟨h1, h2, dd, fs, v, h3, h4, h5, b, xs, k0, k1, k2, k3⟩ => ?_
      refine ⟨_, h1, rfl, h2, dd, fs, v, h3, h4, h5, 2, rfl, b, xs, k0, k1, fun hw => ?_, fun hw q hq => ?_⟩
      · obtain ⟨t, g1, g2, g3⟩ := k2 hw
        exact ⟨_, t, rfl, g1, w, t, rfl, rfl, g2, g3⟩
      · obtain ⟨t, g1, g2, g3⟩ := k3 hw q hq
        exact ⟨_, t, rfl, g1, w, t, rfl, rfl, g2, g3⟩
    · cases h
  | str =>
    unfold mdB at h
    dsimp only at h
    split at h
    · rename_i y q3 x q4
      simp only [Bool.and_eq_true, decide_eq_true_eq] at h
      obtain ⟨h1, h2⟩ := h
      subst h1
      obtain ⟨s1, a1⟩ := at_ h2
      have p3 := pe_callTy (X := X.suite a ((a, oe) :: pn)) (p := q3) (pos := q4) call_str_int (gl ok.1) ok.2 (by first | boot_by_name | rfl | kernel_rfl) (pa_cons a1 pa_nil (starE_cons s1)) (by decide) (by decide) (starE_cons s1) rfl
      refine PE.by (pe_op op_add_str pe_str p3) fun σ H Q ⟨h1, h2, dd, fs, v, h3, h4, h5, i, k1, k2, k3, k4⟩ => ?_
      exact ⟨_, h1, rfl, h2, dd, fs, v, h3, h4, h5, i, by rw [k1], k2, w, _, rfl, rfl, k3, k4⟩
    · cases h
  | at0 =>
    unfold mdB at h
    dsimp only at h
    split at h
    · rename_i x i k5 q5 q6
      simp only [Bool.and_eq_true, decide_eq_true_eq] at h
      obtain ⟨h1, h2⟩ := h
      subst h1
      obtain ⟨s1, a1⟩ := at_ h2
      have p3 := fun qa => pe_ix (X := X.suite a ((a, oe) :: pn)) (pos := qa) ix_tup a1 (pe_int (pos := q5) (j := k5) (i := 0)) (fun _ _ => by rfl)
      refine PE.by (pe_op op_add_str pe_str (p3 _)) fun σ H Q ⟨h1, h2, dd, fs, v, h3, h4, h5, b, xs, t, k0, k1, k2, k3, k4⟩ => ?_
      exact ⟨_, h1, rfl, h2, dd, fs, v, h3, h4, h5, b, xs, 0, _, k0, rfl, k1, k2, w, t, rfl, rfl, k3, k4⟩
    · cases h
theorem cls_ok {cA : Str → Addr} {n : Str} (hn : X.N[1]? = some n) (hl : X.env.kindOf n = some .local) (hv : Vis X.env.scope n) (hg : X.A.guards = some []) (hu : X.A.units + 64 < cLine) (od : (n == ("__debug__" : Str)) = false) (oc : (n == ("__classdict__" : Str)) = false) :
    ∀ (hs : List HC) (es : List ExceptHandler), hcsB n hs es = true → (∀ h ∈ hs, HcOk X.K X.mg X.env.scope cA h) → ClsOk X es (hs.map (cl1 X.K cA))
  | [], [], _, _ => .nil
  | [], _ :: _, h, _ => by cases h
  | _ :: _, [], h, _ => by cases h
  | .plain c w :: hs, e :: es, h, ok => by
    unfold hcsB at h
    rw [Bool.and_eq_true] at h
    have k := h.1
    unfold hcB at k
    dsimp only at k
    split at k
    · simp only [Bool.and_eq_true, decide_eq_true_eq] at k
      obtain ⟨rfl, rfl⟩ := k
      obtain ⟨o1, o2, o3⟩ := ok _ (.head _)
      exact .plain ⟨o1, o2, .inl o3⟩ (fun a oe cls d pn _ _ => pss_one (ps_ret pe_str)) (cls_ok hn hl hv hg hu od oc hs es h.2 fun x hx => ok x (.tail _ hx))
    · cases k
  | .kept c f w m :: hs, e :: es, h, ok => by
    unfold hcsB at h
    rw [Bool.and_eq_true] at h
    have k := h.1
    unfold hcB at k
    dsimp only at k
    split at k
    · simp only [Bool.and_eq_true, decide_eq_true_eq] at k
      obtain ⟨⟨⟨e1, e2⟩, e3⟩, e4⟩ := k
      rw [e1, e2, e3]
      obtain ⟨o1, o2, o3, o4, o5, o6⟩ := ok _ (.head _)
      refine .named ⟨o1, o2, .inl o3⟩ hn hl (fun a oe cls d pn hz hf => ?_) (cls_ok hn hl hv hg hu od oc hs es h.2 fun x hx => ok x (.tail _ hx))
      exact pss_mono (pss_one (ps_ret (md_ok e4 hg hu o6 hn hv od oc o4 o5 hz hf))) fun D σ H hh => hh
    · cases k
/-- what the clauses wish, at the ends D -/
def mixX (K : PySem.W.Frag) (cA : Str → Addr) (hs : List HC) (D : Ends) (n : Nat) : XK := fun cls d H => ∀ σ : L2.St, σ.length = n → wMix K (fun _ _ _ _ => False) D (hs.map (cl1 K cA)) cls d σ H
theorem mix_of {K : PySem.W.Frag} {cA : Str → Addr} {D : Ends} {Q : VK} {n : Nat} (hD : D.rt = Q) (hn : 1 < n) {cls : Value} {d : Option Addr} {H : Hp} : ∀ {hs : List HC}, wordX K cA Q hs cls d H → mixX K cA hs D n cls d H
  | [], h => fun _ _ => h
  | .plain c w :: hs, ⟨b, h1, h2, h3⟩ => fun σ hl => ⟨b, h1, fun hb a ha => by
      show D.rt (.str w) H
      rw [hD]
      exact h2 hb, fun hb => mix_of hD hn (h3 hb) σ hl⟩
  | .kept c f w m :: hs, ⟨b, h1, h2, h3⟩ => fun σ hl => ⟨b, h1, fun hb a ha => by
      obtain ⟨e, dd, fs, v, k1, k2, k3, k4⟩ := h2 hb
      refine ⟨?_, e, dd, fs, v, k1, k2, k3, ?_⟩
      · exact List.getElem?_set_self (by omega)
      · show MdW K m w v H D.rt
        rw [hD]
        exact k4, fun hb => mix_of hD hn (h3 hb) σ hl⟩
theorem word_gives {cA : Str → Addr} {x a n fine q : Str} {hs : List HC} {sg : Scope} {g : Addr} {cdg : Value} {bg : List Stmt} (h : wordB a n fine hs bg = true) (hnd : [a, n].Nodup) (hln : sg.names.lookup n = some .local) (hg : X.A.guards = some []) (hun : ∀ e : PySem.Env, (X.A.deeper e).units + 64 < cLine)
    (od : (n == ("__debug__" : Str)) = false) (oc : (n == ("__classdict__" : Str)) = false) (hc : ∀ z ∈ hs, HcOk X.K X.mg sg cA z) : GivesTo X [a, n] x sg g cdg bg a q (TTw X.K cA hs fine) := by
  intro f c' s H Q tl act hcd ht
  have key : ∀ (D : Ends) (hds : List ExceptHandler) (h0 : ExceptHandler) (rest : List Stmt) (pos p1 p2 p3 : Pos) (tr : TS), hcsB n hs (h0 :: hds) = true → D.rt = Q →
      (∀ (W : WX) (pn : List (Addr × Obj)) (xe : Value → Shared → Prop), PSs ((cxOf C8.CX0 X.prog X.w X.K X.mg X.base [a, n] x sg g cdg X.A X.stack s H C8.E0).tr pn xe) rest tr) →
      (∀ σ, tr D σ = fun H' => Q (.str fine) H') →
      ∃ t, PS (cxOf C8.CX0 X.prog X.w X.K X.mg X.base [a, n] x sg g cdg X.A X.stack s H C8.E0).nox (.Try (.Expr (.Call (.Name a p1) [] [] p2) p3 :: rest) (h0 :: hds) [] [] pos) t ∧ t D (L2.start [a, n] [.ref f]) H := by
    intro D hds h0 rest pos p1 p2 p3 tr hh hD hrest htr
    have ck := cls_ok (X := (cxOf C8.CX0 X.prog X.w X.K X.mg X.base [a, n] x sg g cdg X.A X.stack s H C8.E0).nox) (cA := cA) (n := n) rfl hln (.inl hln) hg (hun _) od oc hs (h0 :: hds) hh hc
    refine ⟨_, ps_try_mix (tb := fun W D σ H => ∃ Ech : XK, (∀ cls d σ' H', σ'.length = 2 → Ech cls d H' → W cls d σ' H') ∧ σ[0]? = some (some (.ref f)) ∧ H c' = some (CodeO c' q) ∧ tl Ech H fun _ H' => tr D σ H') rfl rfl hnd LamX.takes0 (fun W pn xe tk _ => ?_) ck, ?_⟩
    · refine ⟨fun pins s' σ H' D I h' => ?_⟩
      obtain ⟨Ech, hW, h1, h2, h3⟩ := h'
      have hp := act (fun c d σ H => σ.length = 2 → W c d σ H) pn xe Ech p1 p2 (Takes.len tk) (fun cls d σ' H' hE hl => hW cls d σ' H' hl hE)
      exact (pss_cons (ps_expr (pos := p3) hp rfl) (hrest W pn xe)).run pins s' σ H' D I ⟨h1, h2, h3⟩
    · refine ⟨wordX X.K cA Q hs, fun cls d σ' H' hl hE => mix_of hD (by decide) hE σ' hl, rfl, hcd, ?_⟩
      rw [htr]
      exact ht
  unfold wordB at h
  split at h
  · simp only [Bool.and_eq_true, decide_eq_true_eq] at h
    obtain ⟨⟨e1, e2⟩, h⟩ := h
    rw [e1, e2]
    obtain ⟨t, k1, k2⟩ := key { nx := fun _ H' => Q .non H', rt := Q } _ _ _ _ _ _ _ _ h rfl (fun W pn xe => pss_one (ps_ret pe_str)) (fun _ => rfl)
    exact ⟨t, pss_one k1, k2⟩
  · simp only [Bool.and_eq_true, decide_eq_true_eq] at h
    obtain ⟨⟨e1, e2⟩, h⟩ := h
    rw [e1, e2]
    obtain ⟨t, k1, k2⟩ := key { nx := fun _ H' => Q (.str fine) H', rt := Q } _ _ _ _ _ _ _ _ h rfl (fun W pn xe => pss_nil) (fun _ => rfl)
    exact ⟨_, pss_cons k1 (pss_one (ps_ret pe_str)), k2⟩
  · cases h
end
end LX
end
section
set_option Elab.async false
set_option autoImplicit false
set_option linter.all false
set_option maxRecDepth 100000
set_option maxHeartbeats 2000000
/-! LXe: [word(call) for call in calls], seen from the def itself. -/
namespace LX
open PySem PySem.Spec PyProof.Rows L2 LamX
theorem noCells : ∀ (names : List (Str × NameKind)) (h : Heap), (∀ y ∈ names, y.2 ≠ .cell) → pushCells h names = h
  | [], _, _ => rfl
  | (n, k) :: r, h, q => by
    have k1 : (k == NameKind.cell) = false := by
      cases e : k == NameKind.cell with
      | false => rfl
      | true => exact absurd (eq_of_beq e) (q (n, k) (.head _))
    unfold pushCells
    rw [k1]
    exact noCells r h fun y hy => q y (.tail _ hy)
def tWords (wi : TI) (wish : Addr → L2.St → Hp → VK → Prop) : TE := fun σ H Q => wi σ H fun J H1 => ∀ D, H1 D = none → ∃ W : Nat → Nat → Hp → Prop, (∃ m, W 0 m (upd H1 D (.lst []))) ∧
  ∀ i m H, W i m H → (J.stop i H ∧ Q (.ref D) H) ∨ (J.go i H ∧ ∃ Nx : Hp → Prop, (∀ H', Nx H' → ∃ m', m' < m ∧ W (i + 1) m' H') ∧ ∀ x H', J.yld i H x H' → ∃ f, x = .ref f ∧ wish f σ H' fun y H4 => ∃ acc, H4 D = some (.lst acc) ∧ acc.length < sizeLine ∧ Nx (upd H4 D (.lst (acc ++ [y]))))
section
variable {X : Cx} {c wn : Str} {iter : Expr} {scope : Scope} {p1 p2 p3 p4 pos : Pos} {wi : TI} {g : Addr} {wish : Addr → L2.St → Hp → VK → Prop}
/-- what the loop keeps -/
structure Keep (X : Cx) (pins : List (Addr × Obj)) (σ : L2.St) (H : Hp) (C : Addr) (fp : List Addr) (tn : Heap → Prop) (s : Shared) : Prop where
  inv : Inv X pins σ H s
  fp : ∀ b ∈ C :: fp, FpOk X pins H b
  tn : tn s.heap
  ns : ∃ m, s.heap.Ns C m
theorem ns_obj {h : Heap} {C : Addr} {m : Str → Option Value} (n : h.Ns C m) : ∃ o, h.get? C = some o ∧ ∀ v, o.data ≠ .cell v := by
  obtain ⟨o, es, ep, e, d, _⟩ := n
  exact ⟨o, e, fun v z => by rw [d] at z; cases z⟩
theorem fp_pins {X : Cx} {pins : List (Addr × Obj)} {H : Hp} {b : Addr} {pl : List (Addr × Obj)} (f : FpOk X pins H b) (h : ∀ p ∈ pl, p.1 ≠ b) : FpOk X (pins ++ pl) H b := by
  obtain ⟨a1, a2, a3, a4, a5, a6⟩ := f
  refine ⟨a1, a2, a3, a4, a5, fun p hp => ?_⟩
  rcases List.mem_append.mp hp with hp | hp
  · exact a6 p (List.mem_append_left _ hp)
  · rcases List.mem_append.mp hp with hp | hp
    · exact a6 p (List.mem_append_right _ hp)
    · exact h p hp
theorem fp_H {X : Cx} {pins : List (Addr × Obj)} {H H' : Hp} {b : Addr} (f : FpOk X pins H b) (h : H' b = none) : FpOk X pins H' b := ⟨h, f.2⟩
theorem pe_words (hc : X.calm = true) (hi : PI X (.Name c p1) iter wi) (hs : ∀ x, foldedSetIterable iter X.env x = pure x) (kind : scope.kind = .function) (hnf : ∀ y ∈ scope.names, y.2 ≠ .free) (hnc : ∀ y ∈ scope.names, y.2 ≠ .cell)
    (hu : ∀ y ∈ scope.names, y.2 = .local → scope.names.lookup y.1 = some .local) (lc : scope.names.lookup c = some .local) (lw : scope.names.lookup wn = some .globalImplicit) (mw : X.mg wn = some (.ref g)) (kw : PySem.W.keepIn X.K (.ref g) = true)
    (hd1 : (wn == ("__debug__" : Str)) = false) (hd2 : (c == ("__debug__" : Str)) = false)
    (hw : ∀ (pins : List (Addr × Obj)) (s : Shared) (σ : L2.St) (H : Hp) (Q : VK) (f : Addr), Inv X pins σ H s → wish f σ H Q → wpAny (model X.prog X.w) X.A (call (.ref g) [.ref f]) (EP X pins σ Q) (fun _ _ => False) s) :
    PE X (.ListComp (.Call (.Name wn p2) [.Name c p3] [] p4) [⟨.Name c p1, iter, [], 0⟩] scope pos) (tWords wi wish) := by
  refine ⟨fun pins s σ H Q I h => ?_⟩
  rw [eval_ListComp]
  refine wpAny_comprehension_free (use := none) rfl hs (closure_ok fun y hy e => absurd e (hnf y hy)) kind hu (thn (hi.run pins s σ H _ I h) fun xv s1 hx => thn hx fun itv t0 h2 => ?_)
  obtain ⟨it, fp, tn, J, H2, rfl, I2, T, st2, f2, q⟩ := h2
  refine wpAny_newObj_type (newEnv_comp ?_) (by show 0 ≤ sizeLine; decide)
  obtain ⟨W, ⟨m0, w0⟩, turn⟩ := q t0.heap.objs.size (I2.hok.fresh (Nat.le_refl _))
  generalize hD : t0.heap.objs.size = D at w0 turn
  have hDn : H2 D = none := I2.hok.fresh (Nat.le_of_eq hD)
  have I3 : Inv X pins σ (upd H2 D (.lst [])) { t0 with heap := t0.heap.push { cls := .type "list", data := .seq ([] : List Value).toArray } } := by
    refine I2.laid (t' := t0.toks) (fun b o e => Heap.get?_push_of_some _ e) (Nat.le_of_eq hD) ⟨Nat.zero_le _, [], 0, .nil, ?_⟩
    rw [← hD]
    exact Heap.get?_push_size _ rfl
  rw [noCells _ _ hnc]
  have small : ∀ b ∈ fp, b < D := fun b hb => by
    obtain ⟨o, e, _⟩ := T.obj _ _ st2 b hb
    rw [← hD]
    exact Heap.lt_size e
  have kp3 : ∀ b o, t0.heap.get? b = some o → (t0.heap.push { cls := .type "list", data := .seq ([] : List Value).toArray }).get? b = some o := fun b o e => Heap.get?_push_of_some _ e
  have sz3 : (t0.heap.push { cls := .type "list", data := .seq ([] : List Value).toArray }).objs.size = D + 1 := by rw [Heap.size_push, hD]
  generalize t0.heap.push { cls := .type "list", data := .seq ([] : List Value).toArray } = hp3 at I3 kp3 sz3 ⊢
  have kp4 : ∀ b o, hp3.get? b = some o → (hp3.push { cls := .type "dict", data := .dict #[] }).get? b = some o := fun b o e => Heap.get?_push_of_some _ e
  have nsC : (hp3.push { cls := .type "dict", data := .dict #[] }).Ns hp3.objs.size fun _ => none := Heap.Ns.new ..
  have fC : FpOk X pins (upd H2 D (.lst [])) hp3.objs.size := I3.fpOk (Nat.le_refl _) (I3.hok.fresh (Nat.le_refl _))
  have I4 : Inv X pins σ (upd H2 D (.lst [])) { t0 with heap := hp3.push { cls := .type "dict", data := .dict #[] } } := I3.kept (t' := t0.toks) kp4
  have nCf : hp3.objs.size ∉ fp := fun z => by
    have := small _ z
    rw [sz3] at this
    exact Nat.lt_irrefl _ (Nat.lt_trans (Nat.lt_succ_self D) this)
  have st4 : tn 0 (hp3.push { cls := .type "dict", data := .dict #[] }) := T.keep _ _ _ st2 fun b _ o e => kp4 _ _ (kp3 _ _ e)
  generalize hp3.push { cls := .type "dict", data := .dict #[] } = hp4 at I4 nsC st4 ⊢
  generalize hp3.objs.size = C at *
  show codeAny _ _ (.compStart _ 0 (.ref it) _ (compEnvC scope (cellsFrom _ scope.names (cloFrom X.env.cells scope.names [])) C X.env)) (compPost (model X.prog X.w) X.A X.xe none (EP X pins σ Q) _ C) _
  generalize hce : compEnvC scope (cellsFrom (C + 1) scope.names (cloFrom X.env.cells scope.names [])) C X.env = ce
  have cL : ce.locals = C := by rw [← hce]; rfl
  have cG : ce.globals = mainGlobals := by rw [← hce]; exact I.ok.glob
  have cK : ce.scope.kind = .function := by rw [← hce]; exact kind
  have kc : ce.kindOf c = some .local := by rw [← hce]; exact lookup_relabel_local lc
  have kw' : ce.kindOf wn = some .globalImplicit := by
    rw [← hce]
    exact lookup_relS_keep (by decide) lw
  have loop : codeAny (model X.prog X.w) X.A (.compLoop (.ListComp (.Call (.Name wn p2) [.Name c p3] [] p4) [⟨.Name c p1, iter, [], 0⟩] scope pos) 0 (.ref it) (.ref D) ce) (compPost (model X.prog X.w) X.A X.xe none (EP X pins σ Q) (.ref D) C) { t0 with heap := hp4 } := by
    refine compLoop_any (fun n s' => ∃ i H', Keep X pins σ H' C fp (tn i) s' ∧ W i n H') (fun n s5 => ?_) m0 ⟨0, _, ⟨I4, fun b hb => ?_, st4, _, nsC⟩, w0⟩
    · rintro ⟨i, H5, ⟨I5, f5, st5, m5, ns5⟩, w5⟩
      obtain ⟨oC, eC, dC⟩ := ns_obj ns5
      have IC : Inv X (pins ++ pinsAt [C] s5.heap) σ H5 s5 := I5.pinned (fun b hb => f5 b (by rw [List.mem_singleton.mp hb]; exact .head _)) fun b hb => by
        rw [List.mem_singleton.mp hb]
        exact ⟨oC, eC, dC⟩
      have mC : (C, oC) ∈ X.pn ++ (pins ++ pinsAt [C] s5.heap) := List.mem_append_right _ (List.mem_append_right _ (mem_pinsAt (List.mem_singleton.mpr rfl) eC))
      have fI : ∀ b ∈ fp, FpOk X (pins ++ pinsAt [C] s5.heap) H5 b := fun b hb => fp_pins (f5 b (.tail _ hb)) fun p hp z => by
        have := (of_pinsAt hp).1
        rw [List.mem_singleton.mp this] at z
        exact nCf (by rw [z]; exact hb)
      have nsAt : ∀ {h : Heap}, h.get? C = some oC → h.Ns C m5 := fun {h} e => by
        obtain ⟨o, es, ep, e1, r⟩ := ns5
        rw [eC] at e1
        cases e1
        exact ⟨oC, es, ep, e, r⟩
      rcases turn i n H5 w5 with ⟨stop, qq⟩ | ⟨go, Nx, hNx, step⟩
      · refine thnF (T.done X rfl rfl rfl hc i _ s5 σ H5 (fun _ _ => False) IC fI st5 stop) fun r s6 ⟨hr, I6⟩ => ?_
        subst hr
        refine ⟨m5, nsAt (I6.pin _ mC).1, fun h' sb => ?_⟩
        obtain ⟨a0, a1, a2, a3, a4, a5⟩ := f5 C (.head _)
        exact ⟨.ref D, H5, (I6.unpinned (pins := pins)).turned (t' := s6.toks) (fun b o hb e => (sb.2 b hb).trans e) a0 a1 a3 a4 a5, rfl, qq⟩
      · refine thnF (T.item X rfl rfl rfl hc i _ s5 σ H5 (fun _ _ => False) IC fI st5 go) fun r s6 ⟨u, hr, h6⟩ => ?_
        subst hr
        refine thnF h6 fun _ s7 ⟨x, H7, I7, r7, y7, st7, n7⟩ => ?_
        obtain ⟨f, rfl, wf⟩ := step x H7 y7
        obtain rfl : u = Value.ref f := r7
        have H7C : H7 C = none := (I7.pin _ mC).2.1
        have f7 : ∀ b ∈ C :: fp, FpOk X pins H7 b := fun b hb => fp_H (f5 b hb) (by
          rcases List.mem_cons.mp hb with rfl | hb
          · exact H7C
          · exact n7 b hb)
        refine wpAny_assign_Name (wpAny_storeName_local kc (by rw [cL]; exact nsAt (I7.pin _ mC).1) (fun h8 n8 sb8 => ?_) (by rw [cK]; rfl))
        rw [cL] at n8 sb8
        obtain ⟨a0, a1, a2, a3, a4, a5⟩ := f7 C (.head _)
        have I8 : Inv X pins σ H7 { s7 with heap := h8, toks := s7.toks + 1 } := (I7.unpinned (pins := pins)).turned (fun b o hb e => (sb8.2 b hb).trans e) a0 a1 a3 a4 a5
        have st8 : tn (i + 1) h8 := T.keep _ _ _ st7 fun b hb o e => (sb8.2 b (fun z => nCf (by rw [← z]; exact hb))).trans e
        obtain ⟨o8, e8, d8⟩ := ns_obj n8
        have I8p : Inv X (pins ++ pinsAt (C :: fp) h8) σ H7 { s7 with heap := h8, toks := s7.toks + 1 } := I8.pinned f7 fun b hb => by
          rcases List.mem_cons.mp hb with rfl | hb
          · exact ⟨o8, e8, d8⟩
          · exact T.obj _ _ st8 b hb
        have pinned : ∀ {s' : Shared} {H' : Hp}, Inv X (pins ++ pinsAt (C :: fp) h8) σ H' s' → ∀ b ∈ C :: fp, ∀ o, h8.get? b = some o → s'.heap.get? b = some o ∧ H' b = none := fun {s' H'} I' b hb o e =>
          let z := I'.pin (b, o) (List.mem_append_right _ (List.mem_append_right _ (mem_pinsAt hb e)))
          ⟨z.1, z.2.1⟩
        have fin : ∀ {s' : Shared} {H' : Hp}, Inv X (pins ++ pinsAt (C :: fp) h8) σ H' s' → Nx H' → ∃ m, m < n ∧ ∃ i H', Keep X pins σ H' C fp (tn i) s' ∧ W i m H' := fun {s' H'} I' nx => by
          obtain ⟨m', hm, w'⟩ := hNx H' nx
          refine ⟨m', hm, i + 1, H', ⟨I'.unpinned (pins := pins), fun b hb => fp_H (f7 b hb) ?_, T.keep _ _ _ st8 fun b hb o e => (pinned I' b (.tail _ hb) o e).1, ?_⟩, w'⟩
          · rcases List.mem_cons.mp hb with rfl | hb
            · exact (pinned I' _ (.head _) o8 e8).2
            · obtain ⟨o, e, _⟩ := T.obj _ _ st8 b hb
              exact (pinned I' _ (.tail _ hb) o e).2
          · obtain ⟨o, es, ep, e1, r⟩ := n8
            exact ⟨_, o, es, ep, (pinned I' _ (.head _) o e1).1, r⟩
        refine wpAny_tests_nil ?_
        simp only [if_true]
        refine wpAny_Call_Name_kw (Calls.Name_function_global cK kw' (Calls.loadGlobal_global (by rw [cG]; exact I8.mod.glob.keeps I8.bk) mw ?_) hd1)
        refine PySem.W.callWith_K (h₀ := X.base) I8.ok.mod.kin kw (Calls.spliced_cons (wpAny_Name (wpAny_loadName_local cK kc (by rw [cL]; exact n8) (if_pos rfl) (Calls.spliced_nil ⟨I8.kIn, ?_⟩)) hd2))
        refine thnF (hw _ _ σ H7 _ f I8p wf) fun z s10 ⟨yv, H10, I10, r10, acc, hD10, hz10, nx⟩ => ?_
        exact app_ok (X := X) I10 hD10 hz10 r10 fun s11 I11 => fin I11 nx
    · rcases List.mem_cons.mp hb with rfl | hb
      · exact fC
      · refine ⟨?_, (f2 b hb).2⟩
        rw [upd_ne (Nat.ne_of_lt (small b hb))]
        exact (f2 b hb).1
  exact codeAny_compStart_list loop (T.self X.A 0 _ _ _ st4 loop)
end
end LX
end
section
set_option Elab.async false
set_option autoImplicit false
set_option linter.all false
set_option maxRecDepth 100000
set_option maxHeartbeats 2000000
/-! LXf: lambdas without parameters, kept and called. -/
namespace LX
open PySem PySem.Spec PyProof.Rows L2 LamX
/-- at f: a lambda -/
def LamO (f : Addr) (q : Str) (params : Arguments) (body : Expr) (scope : Scope) (clo : List (Str × Addr)) (c' : Addr) : HO := .ext fun h => ∃ pm ctv, h.get? f = some (PySem.W.kla_obj "<lambda>" q params body scope clo pm c' ctv)
theorem lamO_ne {f c' : Addr} {q : Str} {params : Arguments} {body : Expr} {scope : Scope} {clo : List (Str × Addr)} (ps : Array Value) : LamO f q params body scope clo c' ≠ .tbl ps := fun z => by
  unfold LamO at z
  cases z
theorem lamO_ok {P : Program} {w : World} {H : Hp} {h : Heap} {f c' : Addr} {q : Str} {params : Arguments} {body : Expr} {scope : Scope} {clo : List (Str × Addr)} {pm ctv : Value} (e : h.get? f = some (PySem.W.kla_obj "<lambda>" q params body scope clo pm c' ctv)) :
    ObjOk P w H h f (LamO f q params body scope clo c') := ⟨⟨pm, ctv, e⟩, ⟨_, e⟩, fun h1 h2 ⟨a, b, e1⟩ st => ⟨a, b, st _ e1⟩⟩
section
variable {X : Cx} {pins : List (Addr × Obj)} {σ : L2.St} {H : Hp} {s : Shared}
/-- what a maker of lambdas needs -/
structure Maker (X : Cx) (T : List (Addr × Str)) (c P : Addr) : Prop where
  tb : TabB X.base X.mg c P
  code : X.env.code = .ref c
  mem : (P, X.env.qual ++ "<lambda>") ∈ T
  uni : ∀ p ∈ T, p.1 = P → p.2 = X.env.qual ++ "<lambda>"
def tLamV (T : List (Addr × Str)) (q : Str) (params : Arguments) (body : Expr) (scope : Scope) (clo : List (Str × Addr)) : TE := fun _ H Q => Tabs T H ∧ ∀ (H1 : Hp) (f c' : Addr), ExtN H H1 → Tabs T H1 → H f = none →
  H1 f = some (LamO f q params body scope clo c') → H1 c' = some (CodeO c' q) → Q (.ref f) H1
theorem tabs_new {T : List (Addr × Str)} {f : Addr} {o : HO} (t : Tabs T H) (n : H f = none) : Tabs T (upd H f o) := t.ext fun b u e => by rw [upd_ne (ne_of_none e n)]; exact e
theorem pe_lamF {T : List (Addr × Str)} {c P : Addr} {params : Arguments} {body : Expr} {scope : Scope} {pos : Pos} (M : Maker X T c P) (hfr : ∀ (pins : List (Addr × Obj)) (s : Shared) (σ : L2.St) (H : Hp), Inv X pins σ H s → ∀ y ∈ scope.names, y.2 = .free → ∃ c, X.env.cells.lookup y.1 = some c) (hdef : defaultsOf params X.env = ([], [])) :
    PE X (.Lambda params body scope pos) (tLamV T (X.env.qual ++ "<lambda>") params body scope (cloFrom X.env.cells scope.names [])) := by
  refine ⟨fun pins s σ H Q I ⟨hT, h⟩ => ?_⟩
  obtain ⟨ps, hP, tri, among⟩ := hT _ M.mem
  have hfree := hfr _ _ _ _ I
  have bP : s.heap.BuiltinsAt X.mg P := M.tb.bm.keeps I.bk
  have hP' : s.heap.get? P = some { cls := .none, data := .fields ps } := I.hok P _ hP
  refine PySem.W.kla_eval hdef ?_
  cases hc : codeAmong pos ps.toList with
  | some cv =>
    obtain ⟨c', rfl, hco⟩ := among pos cv hc
    refine PySem.W.kla_makeFunctionHit (mg := X.mg) (c := c) (P := P) (ps := ps) (closure_ok hfree) I.ok.glob (I.mod.glob.keeps I.bk) M.code (M.tb.code.keeps I.bk) hP' tri hc bP fun ctv h' tk kp sz => ?_
    have new := H |> fun _ => I.hok.fresh sz
    refine ⟨.ref h'.objs.size, _, I.laid (t' := tk) (a := h'.objs.size) (o := LamO h'.objs.size (X.env.qual ++ "<lambda>") params body scope (cloFrom X.env.cells scope.names []) c') (fun b o e => Heap.get?_push_of_some _ (kp b o e)) sz (lamO_ok (Heap.get?_push_size _ rfl)), rfl, ?_⟩
    refine h _ _ c' (.of fun b o e => ?_) (tabs_new hT new) new upd_same ?_
    · rw [upd_ne (ne_of_none e new)]; exact e
    · rw [upd_ne (ne_of_none hco new)]; exact hco
  | none =>
    refine PySem.W.kla_makeFunction (mg := X.mg) (c := c) (P := P) (ps := ps) (closure_ok hfree) I.ok.glob (I.mod.glob.keeps I.bk) M.code (M.tb.code.keeps I.bk) hP' tri hc M.tb.gP bP fun c' ctv h' tk hx hge hlt hrec htb => ?_
    obtain ⟨c2, oc, vs, t, e2, hoc, hd, hv⟩ := hrec
    cases e2
    have nC : H c' = none := I.hok.fresh hge
    have cP : P ≠ c' := ne_of_none hP nC
    -- the table is written, the code object known
    have I1 := inv_table (t' := tk) (more := #[rawInt pos.line, rawInt pos.col, .ref c']) I hP (fun b o hb e => hx b o hb e) htb hge ⟨oc, vs, t, hoc, hd, hv⟩
    generalize hH1 : upd (upd H P (.tbl (ps ++ #[rawInt pos.line, rawInt pos.col, .ref c']))) c' (CodeO c' (X.env.qual ++ "<lambda>")) = H1 at I1
    have at1 : ∀ b, b ≠ P → b ≠ c' → H1 b = H b := fun b h1 h2 => by rw [← hH1, upd_ne h2, upd_ne h1]
    have hE : ExtN H H1 := fun b o e n => by
      rw [at1 b (fun z => n ps (by rw [z, hP] at e; exact (Option.some.inj e).symm)) (ne_of_none e nC)]
      exact e
    have eC : H1 c' = some (CodeO c' (X.env.qual ++ "<lambda>")) := by rw [← hH1, upd_same]
    have eP : H1 P = some (.tbl (ps ++ #[rawInt pos.line, rawInt pos.col, .ref c'])) := by rw [← hH1, upd_ne cP, upd_same]
    have T1 : Tabs T H1 := fun p hp => by
      by_cases hb : p.1 = P
      · rw [M.uni p hp hb, hb]
        have el : (ps ++ #[rawInt pos.line, rawInt pos.col, Value.ref c']).toList = ps.toList ++ [rawInt pos.line, rawInt pos.col, .ref c'] := by simp
        refine ⟨_, eP, by rw [el]; exact PySem.TriplesOk_snoc _ _ _ _ tri, fun p' cv hcv => ?_⟩
        rw [el] at hcv
        rcases among_app _ tri hcv with z | z
        · obtain ⟨c0, e1, e2⟩ := among p' cv z
          exact ⟨c0, e1, hE _ _ e2 codeO_ne⟩
        · exact ⟨c', z, eC⟩
      · obtain ⟨qs, a1, a2, a3⟩ := hT p hp
        refine ⟨qs, (at1 _ hb (ne_of_none a1 nC)).trans a1, a2, fun p' cv hcv => ?_⟩
        obtain ⟨c0, e1, e2⟩ := a3 p' cv hcv
        exact ⟨c0, e1, hE _ _ e2 codeO_ne⟩
    have new1 : H1 h'.objs.size = none := I1.hok.fresh (Nat.le_refl _)
    have new : H h'.objs.size = none := I.hok.fresh (Nat.le_trans hge (Nat.le_of_lt hlt))
    refine ⟨.ref h'.objs.size, _, I1.laid (t' := tk) (a := h'.objs.size) (o := LamO h'.objs.size (X.env.qual ++ "<lambda>") params body scope (cloFrom X.env.cells scope.names []) c') (fun b o e => Heap.get?_push_of_some _ e) (Nat.le_refl _) (lamO_ok (Heap.get?_push_size _ rfl)), rfl, ?_⟩
    refine h _ _ c' (hE.trans (.of fun b o e => ?_)) (tabs_new T1 new1) new upd_same ?_
    · rw [upd_ne (ne_of_none e new1)]; exact e
    · rw [upd_ne (ne_of_none eC new1)]; exact eC
theorem pe_lam {T : List (Addr × Str)} {c P : Addr} {params : Arguments} {body : Expr} {scope : Scope} {pos : Pos} (M : Maker X T c P) (L : LamS X.env.scope scope) (hdef : defaultsOf params X.env = ([], [])) :
    PE X (.Lambda params body scope pos) (tLamV T (X.env.qual ++ "<lambda>") params body scope (cloFrom X.env.cells scope.names [])) := pe_lamF M (fun _ _ _ _ I => L.has I.ok) hdef
variable {H1 HZ : Hp} {s1 : Shared}
/-- what the cells of the names that a frame's lambdas capture hold, at the heaps H, h -/
structure CapF (N : List Str) (cells : List (Str × Addr)) (sc : Scope) (σ : L2.St) (H : Hp) (h : Heap) : Prop where
  at_ : ∀ (i : Nat) (y : Str) (v : V), N[i]? = some y → σ[i]? = some (some v) → (sc.names.lookup y = some .cell ∨ sc.names.lookup y = some .free) → ∃ c u, cells.lookup y = some c ∧ RelV v u ∧ h.IsCell c (some u)
  inj : ∀ x y c, cells.lookup x = some c → cells.lookup y = some c → x = y
  has : ∀ y, (sc.names.lookup y = some .cell ∨ sc.names.lookup y = some .free) → ∃ c, cells.lookup y = some c
  cell : ∀ y c, cells.lookup y = some c → H c = none ∧ ∃ v, h.IsCell c v
theorem CapF.of (I : Inv X pins σ H s) : CapF X.N X.env.cells X.env.scope σ H s.heap where
  at_ := fun i y v e1 e2 e3 => by
    obtain ⟨m, hn, hl⟩ := I.loc
    obtain ⟨u, r, q⟩ := hl i y v e1 e2 (.inr e3)
    rcases q with ⟨k, _⟩ | ⟨_, c, e, z⟩
    · have k : X.env.scope.names.lookup y = some .local := k
      rcases e3 with z | z <;> rw [z] at k <;> cases k
    · exact ⟨c, u, e, r, z⟩
  inj := I.ok.inj
  has := fun y h => I.ok.has y h
  cell := fun y c e => ⟨I.freeC y c e, I.cell y c e⟩
/-- .. still hold it where nothing but tracked things, frames' slots changed -/
theorem CapF.un {N : List Str} {cells : List (Str × Addr)} {sc : Scope} {fs : List Addr} {h h' : Heap} (c : CapF N cells sc σ H h) (u : Un fs [] H H1 h h') : CapF N cells sc σ H1 h' where
  at_ := fun i y v e1 e2 e3 => by
    obtain ⟨a, w, k1, k2, ⟨o, ho, hd⟩⟩ := c.at_ i y v e1 e2 e3
    obtain ⟨sl, q⟩ := u.any ho (c.cell y a k1).1 (by simp)
    exact ⟨a, w, k1, k2, _, q, hd⟩
  inj := c.inj
  has := c.has
  cell := fun y a e => by
    obtain ⟨n, v, o, ho, hd⟩ := c.cell y a e
    obtain ⟨sl, q⟩ := u.any ho n (by simp)
    exact ⟨u.free a o ho n (by simp), v, _, q, hd⟩
/-- a(), in the def that got a kept lambda; Z is that def's context, entered at s -/
theorem pe_actT {Eg : XK} {Ng : List Str} {qg : Str} {sg : Scope} {g f c' : Addr} {cdg : Value} {q : Str} {params : Arguments} {body : Expr} {scope : Scope} {k i : Nat} {a : Str} {pn : List (Addr × Obj)} {xe : Value → Shared → Prop} {W : WX} {E : XK} {tb : TE} {p1 p2 : Pos}
    (I : Inv X pins σ H s) (L : LamS X.env.scope scope) (hq : q = X.env.qual ++ "<lambda>") (hbind : ∀ pm ctv, bindArgs (PySem.W.kla_fn "<lambda>" q params body scope (cloFrom X.env.cells scope.names []) pm (.ref c') ctv) ⟨[], []⟩ = pure [])
    (tk : Takes ((cxOf C8.CX0 X.prog X.w X.K X.mg X.base Ng qg sg g cdg X.A X.stack s H Eg).tr pn xe) W) (hW : ∀ cls d σ' H', E cls d H' → W cls d σ' H') (hr : Room (k + 1) (X.A.deeper (envOfC qg sg s.heap.objs.size g cdg)))
    (hg : X.A.guards = some []) (hbody : ∀ (A : Around) (outer : List Env) (s : Shared) (H : Hp), Room k (A.deeper (lamEnv X scope s.heap.objs.size f c')) → A.guards = some [] → CapF X.N X.env.cells X.env.scope σ H s.heap → PE (lamCx X A outer s H E scope f c') body tb)
    (hN : Ng[i]? = some a) (hv : Vis sg a) (hd : (a == ("__debug__" : Str)) = false) (hcd : (a == ("__classdict__" : Str)) = false) :
    PE ((cxOf C8.CX0 X.prog X.w X.K X.mg X.base Ng qg sg g cdg X.A X.stack s H Eg).tr pn xe) (.Call (.Name a p1) [] [] p2)
      (fun σZ HZ Q => σZ[i]? = some (some (.ref f)) ∧ HZ c' = some (CodeO c' q) ∧ HZ f = some (LamO f q params body scope (cloFrom X.env.cells scope.names []) c') ∧ tb σ HZ Q) := by
  subst hq
  refine ⟨fun pinsZ sZ σZ HZ Q IZ ⟨h1, h2, h3, h4⟩ => ?_⟩
  refine wpAny_Call_Name_kw (thn ((pe_var (pos := p1) (i := i) hN hv hd hcd).run pinsZ sZ σZ HZ (fun v H1 => v = .ref f ∧ H1 = HZ) IZ ⟨.ref f, h1, rfl, rfl⟩) fun u s1 ⟨v, H1, I1, r1, e1, e2⟩ => ?_)
  subst e1
  subst e2
  obtain rfl : u = Value.ref f := r1
  obtain ⟨⟨pm, ctv, of1⟩, _, _⟩ := I1.hok f _ h3
  obtain ⟨⟨oc, vs, t, hoc, hdc, hvc⟩, _, _⟩ := I1.hok c' _ h2
  refine PySem.W.callWith_F0 ⟨_, _, _, _, of1⟩ ?_
  have un : Un (frs X.stack) [] H H1 s.heap s1.heap := I1.base
  have rc : codeAny (model X.prog X.w) (X.A.deeper (envOfC qg sg s.heap.objs.size g cdg)) (.call (.ref f) ⟨[], []⟩) (CR (L2.CX X.prog X.w) (envOfC qg sg s.heap.objs.size g cdg :: X.stack) X.prog X.w H1 s1 Q E) s1 := by
    refine PySem.W.kla_callFunE hr.depth of1 rfl L.co L.gen rfl ⟨c', oc, vs, t, rfl, hoc, hdc, hvc⟩ ?_
    rw [hbind]
    refine wpAny_pure (wpAny_newFunctionEnv (fun y hy => (L.own y hy).2) (fun y hy => by simp at hy) (fun h2 ns sb => ⟨I1.nolimit.fresh _ sb, ?_⟩) L.kind)
    have kp : ∀ b o, s1.heap.get? b = some o → h2.get? b = some o := fun b o e => sb.extBut b o (Nat.ne_of_lt (Heap.lt_size e)) (Heap.get?_push_of_some _ e)
    have J : Inv (lamCx X (X.A.deeper (envOfC qg sg s.heap.objs.size g cdg)) (envOfC qg sg s.heap.objs.size g cdg :: X.stack) s1 H1 E scope f c') [] σ H1 { s1 with heap := h2, toks := s1.toks + ([] : List (Str × Value)).length } :=
      lam_start2 I L I1.env0 hr.hd un ns kp
    show codeAny _ _ (.expr body (lamEnv X scope s1.heap.objs.size f c')) _ _
    refine PySem.W.kla_codeExpr (wpAny_mono ((hbody _ _ s1 H1 (hr.deeper _) hg ((CapF.of I).un un)).run [] _ _ H1 Q J h4) (fun v s' ⟨w', H', J', rv, qq⟩ => ⟨w', H', J'.os, J'.bare, J'.base, J'.hok, rv, qq⟩) fun _ _ z => z)
  have out : Passes (L2.CX X.prog X.w) ((cxOf C8.CX0 X.prog X.w X.K X.mg X.base Ng qg sg g cdg X.A X.stack s H Eg).tr pn xe) E := passes_call tk hW
  refine wpAny_call (codeAny_mono rc fun r s' hq => ?_)
  cases r with
  | error e => exact out pinsZ σZ H1 s1 e s' I1 hq
  | ok fl => cases fl <;> first | exact I1.after hq | exact False.elim hq
/-- the word def's place in the written part -/
structure WordW (X : Cx) (x a n : Str) (g : Addr) (cdv : Value) (sg : Scope) (bg : List Stmt) : Prop where
  lk : ∃ (oc : Value) (od : Option Addr) (osl : Array (Option Value)) (pg : Arguments) (dV kV doc pm ct : Value) (an : Option Addr), X.K.lookup g = some ⟨oc, od, .func (PySem.W.fnOf x x pg bg sg dV kV doc pm an cdv ct), osl⟩ ∧ L2.Binds X.K (PySem.W.fnOf x x pg bg sg dV kV doc pm an cdv ct) [a] []
  cd : PySem.W.codeIn X.K cdv x = true
  sc : FnScope [a, n] [a] sg
  va : Vis sg a
/-- word(f), f a kept lambda -/
theorem word_run {fine : Str} {cA : Str → Addr} {hs : List HC} {x a n : Str} {g f c' : Addr} {cdv : Value} {sg : Scope} {bg : List Stmt} {k : Nat} {params : Arguments} {body : Expr} {scope : Scope} {t : XK → TE} {Q : VK} (WW : WordW X x a n g cdv sg bg)
    (hG : GivesTo X [a, n] x sg g cdv bg a (X.env.qual ++ "<lambda>") (TTw X.K cA hs fine)) (I : Inv X pins σ H s) (hr : Room (k + 2) X.A) (L : LamS X.env.scope scope)
    (hbind : ∀ pm ctv, bindArgs (PySem.W.kla_fn "<lambda>" (X.env.qual ++ "<lambda>") params body scope (cloFrom X.env.cells scope.names []) pm (.ref c') ctv) ⟨[], []⟩ = pure [])
    (hg : X.A.guards = some []) (hbody : ∀ (A : Around) (outer : List Env) (s : Shared) (H : Hp) (E : XK), Room k (A.deeper (lamEnv X scope s.heap.objs.size f c')) → A.guards = some [] → CapF X.N X.env.cells X.env.scope σ H s.heap → PE (lamCx X A outer s H E scope f c') body (t E))
    (hd : (a == ("__debug__" : Str)) = false) (hcd : (a == ("__classdict__" : Str)) = false)
    (hf : H f = some (LamO f (X.env.qual ++ "<lambda>") params body scope (cloFrom X.env.cells scope.names []) c')) (hc : H c' = some (CodeO c' (X.env.qual ++ "<lambda>"))) (h : t (wordX X.K cA Q hs) σ H fun _ H' => Q (.str fine) H') :
    wpAny (model X.prog X.w) X.A (call (.ref g) [.ref f]) (EP X pins σ Q) (fun _ _ => False) s := by
  obtain ⟨oc, od, osl, pg, dV, kV, doc, pm, ct, an, lk, hb⟩ := WW.lk
  have rc : codeAny (model X.prog X.w) X.A (.call (.ref g) ⟨[.ref f], []⟩) (CR C8.CX0 X.stack X.prog X.w H s Q C8.E0) s := by
    refine run_ofS (N := [a, n]) (ps := [a]) (us := [.ref f]) (vs := [.ref f]) lk WW.cd WW.sc hr I.env0 (hb s [.ref f] I.kIn rfl) (.cons rfl .nil) rfl fun hr' => ?_
    obtain ⟨t', ht', hq'⟩ := hG f c' s H Q (fun E H' Q' => H' f = some (LamO f (X.env.qual ++ "<lambda>") params body scope (cloFrom X.env.cells scope.names []) c') ∧ t E σ H' Q')
      (fun W pn xe E p1 p2 tk hW => pe_actT (i := 0) I L rfl hbind tk hW hr' hg (fun A outer s H hr2 hg2 hc2 => hbody A outer s H E hr2 hg2 hc2) rfl WW.va hd hcd) hc ⟨hf, h⟩
    exact ⟨t', ht'.nox, hq'⟩
  refine wpAny_call (codeAny_mono rc fun r s2 hq => ?_)
  cases r with
  | error e => exact (show False from hq).elim
  | ok fl => cases fl <;> first | exact I.after hq | exact False.elim hq
end
end LX
end
section
set_option Elab.async false
set_option autoImplicit false
set_option linter.all false
set_option maxRecDepth 100000
set_option maxHeartbeats 2000000
/-! LXh: lambdas with parameters. -/
namespace LX
open PySem PySem.Spec PyProof.Rows L2 LamX
/-- the names of a lambda with the parameters ps, within a def of the names sc -/
structure LamPS (sc scope : Scope) (ps : List Str) : Prop where
  kind : scope.kind = .function
  co : scope.isCoroutine = false
  gen : scope.isGenerator = false
  nocell : ∀ y ∈ scope.names, y.2 ≠ .cell
  loc : ∀ y ∈ scope.names, y.2 = .local → y.1 ∈ ps
  par : ∀ x ∈ ps, scope.names.lookup x = some .local
  free : ∀ y ∈ scope.names, y.2 = .free → sc.names.lookup y.1 = some .cell ∨ sc.names.lookup y.1 = some .free
def lamPB (sc scope : Scope) (ps : List Str) : Bool :=
  decide (scope.kind = .function) && !scope.isCoroutine && !scope.isGenerator && scope.names.all (fun y => !decide (y.2 = .cell) && (!decide (y.2 = .local) || decide (y.1 ∈ ps)) && (!decide (y.2 = .free) || decide (sc.names.lookup y.1 = some .cell) || decide (sc.names.lookup y.1 = some .free))) &&
  ps.all (fun x => decide (scope.names.lookup x = some .local))
theorem lamPS_by {sc scope : Scope} {ps : List Str} (h : lamPB sc scope ps = true) : LamPS sc scope ps := by
  unfold lamPB at h
  simp only [Bool.and_eq_true, Bool.or_eq_true, Bool.not_eq_true', decide_eq_true_eq, decide_eq_false_iff_not, List.all_eq_true] at h
  obtain ⟨⟨⟨⟨h1, h2⟩, h3⟩, h4⟩, h5⟩ := h
  refine ⟨h1, h2, h3, fun y hy => (h4 y hy).1.1, fun y hy e => ?_, h5, fun y hy e => ?_⟩
  · rcases (h4 y hy).1.2 with z | z
    · exact absurd e z
    · exact z
  · rcases (h4 y hy).2 with (z | z) | z
    · exact absurd e z
    · exact .inl z
    · exact .inr z
abbrev lamEnvP (q : Str) (cells : List (Str × Addr)) (scope : Scope) (L f c' : Addr) : Env := PySem.W.envX q scope L f (.ref c') (cloFrom cells scope.names [])
/-- the context of the body -/
def lamCxP (X : Cx) (N : List Str) (q : Str) (cells : List (Str × Addr)) (A : Around) (outer : List Env) (s : Shared) (H : Hp) (E : XK) (scope : Scope) (f c' : Addr) : Cx where
  prog := X.prog
  w := X.w
  K := X.K
  mg := X.mg
  base := X.base
  A := A.deeper (lamEnvP q cells scope s.heap.objs.size f c')
  N := N
  s_0 := s
  H_0 := H
  env := lamEnvP q cells scope s.heap.objs.size f c'
  outer := outer
  stack := lamEnvP q cells scope s.heap.objs.size f c' :: outer
  ex := []
  fn := fun _ => false
  calm := true
  pn := []
  xe := fun e s' => wpAny (model X.prog X.w) (A.deeper (lamEnvP q cells scope s.heap.objs.size f c')) (leaving (lamEnvP q cells scope s.heap.objs.size f c') e) (fun _ s'' => L2.CX X.prog X.w outer H s E e s'') (fun e' s'' => L2.CX X.prog X.w outer H s E e' s'') s'
theorem lookup_zip {ps : List Str} (nd : ps.Nodup) : ∀ {us : List Value} {i : Nat} {x : Str} {u : Value}, ps[i]? = some x → us[i]? = some u → (ps.zip us).reverse.lookup x = some u := by
  intro us i x u h1 h2
  have mem : (x, u) ∈ (ps.zip us).reverse := by
    rw [List.mem_reverse]
    apply List.mem_of_getElem? (i := i)
    rw [List.getElem?_zip_eq_some]
    exact ⟨h1, h2⟩
  have uniq : ∀ y ∈ (ps.zip us).reverse, y.1 = x → y = (x, u) := fun y hy e => by
    rw [List.mem_reverse] at hy
    obtain ⟨j, hj⟩ := List.mem_iff_getElem?.mp hy
    rw [List.getElem?_zip_eq_some] at hj
    rw [e] at hj
    obtain ⟨a1, a2⟩ := List.getElem?_eq_some_iff.mp hj.1
    obtain ⟨b1, b2⟩ := List.getElem?_eq_some_iff.mp h1
    have : j = i := (List.getElem_inj nd).mp (a2.trans b2.symm)
    subst this
    rw [h2] at hj
    have := hj.2
    cases y
    cases e
    cases this
    rfl
  generalize (ps.zip us).reverse = l at mem uniq
  induction l with
  | nil => cases mem
  | cons y l ih =>
    rw [List.lookup_cons]
    by_cases hy : y.1 = x
    · have e := uniq y (.head _) hy
      subst e
      simp
    · rw [show (x == y.1) = false from by
        cases q : x == y.1 with
        | false => rfl
        | true => exact absurd (eq_of_beq q).symm hy]
      rcases List.mem_cons.mp mem with rfl | m
      · exact absurd rfl hy
      · exact ih m fun z hz e => uniq z (.tail _ hz) e
section
variable {X : Cx} {pins : List (Addr × Obj)} {σ : L2.St} {H : Hp} {s : Shared}
theorem lamP_start {N0 ps : List Str} {cells : List (Str × Addr)} {sc : Scope} {σ0 : L2.St} {q : Str} {A : Around} {outer : List Env} {E : XK} {scope : Scope} {f c' : Addr} {h₁ : Heap} {tk : Nat} {vs : List V} {us : List Value}
    (C : CapF N0 cells sc σ0 H s.heap) (len0 : σ0.length = N0.length) (L : LamPS sc scope ps) (nd : (N0 ++ ps).Nodup) (e0 : Env0 X.prog X.w X.K X.mg X.base A outer s H) (hd : A.handled = none) (r : Vals vs us) (hl : vs.length = ps.length)
    (hns : h₁.Ns s.heap.objs.size fun y => (ps.zip us).reverse.lookup y) (kp : ∀ b o, s.heap.get? b = some o → h₁.get? b = some o) :
    Inv (lamCxP X (N0 ++ ps) q cells A outer s H E scope f c') [] (σ0 ++ vs.map some) H { s with heap := h₁, toks := tk } := by
  have ndP : ps.Nodup := (List.nodup_append.mp nd).2.1
  have cm : ∀ {y c}, (cloFrom cells scope.names []).lookup y = some c → cells.lookup y = some c ∧ (sc.names.lookup y = some .cell ∨ sc.names.lookup y = some .free) := fun {y c} e => by
    rcases cloFrom_mem (PySem.mem_of_lookup e) with hm | ⟨h1, h2⟩
    · cases hm
    · have k := L.free _ h1 rfl
      obtain ⟨c1, hc⟩ := C.has _ k
      have hc : cells.lookup y = some c1 := hc
      have e2 : c = c1 := by
        rw [h2, hc] <;> rfl
      rw [e2]
      exact ⟨hc, k⟩
  have look : ∀ {y}, scope.names.lookup y = some .free → ∃ c, (cloFrom cells scope.names []).lookup y = some c := fun {y} hl => by
    have hy : (y, NameKind.free) ∈ scope.names := PySem.mem_of_lookup hl
    exact mem_lookup (cloFrom_has (cells := cells) (acc := []) hy)
  have cellK : ∀ {c : Addr} {v : Option Value}, s.heap.IsCell c v → h₁.IsCell c v := fun {c v} ⟨o, ho, hd⟩ => ⟨_, kp _ _ ho, hd⟩
  have noA : ∀ b : Addr, b ∉ (lamCxP X (N0 ++ ps) q cells A outer s H E scope f c').ex := fun b z => absurd (show b ∈ ([] : List Addr) from z) (by simp)
  refine ⟨⟨e0.mod, L.kind, rfl, rfl, Nat.le_refl _, fun y z c e1 e2 => C.inj y z c (cm e1).1 (cm e2).1, fun y hy => ?_, fun y c z _ => ?_, fun _ => hd, Around.frames_deeper e0.frames, .inr ⟨rfl, rfl⟩, fun b z => absurd z (noA b), e0.bs, e0.bsz, fun b _ _ => noA b,
      fun b z => absurd z (noA b), e0.funs, e0.frf⟩,
    rfl, e0.bare, Un.kept kp, ⟨_, hns, fun i y v e1 e2 e3 => ?_⟩, fun y c e => ?_, e0.hok.fresh (Nat.le_refl _), fun y c e => (C.cell y c (cm e).1).1, fun q hq => absurd (show q ∈ ([] : List (Addr × Obj)) ++ [] from hq) (by simp), e0.hok.kept kp, ?_⟩
  · have hy : scope.names.lookup y = some .cell ∨ scope.names.lookup y = some .free := hy
    rcases hy with hy | hy
    · exact absurd rfl (L.nocell _ (PySem.mem_of_lookup hy))
    · exact look hy
  · have z : false = true := z
    cases z
  · have e3 : Vis scope y := e3
    have e1 : (N0 ++ ps)[i]? = some y := e1
    by_cases hi : i < N0.length
    · rw [List.getElem?_append_left hi] at e1
      rw [List.getElem?_append_left (by rw [len0]; exact hi)] at e2
      have nop : y ∉ ps := fun hp => (List.nodup_append.mp nd).2.2 y (List.mem_of_getElem? e1) y hp rfl
      rcases e3 with k | k | k
      · exact absurd (L.loc _ (PySem.mem_of_lookup k) rfl) nop
      · exact absurd rfl (L.nocell _ (PySem.mem_of_lookup k))
      · have k2 := L.free _ (PySem.mem_of_lookup k) rfl
        obtain ⟨c, u, h1, h2, h3⟩ := C.at_ i y v e1 e2 k2
        obtain ⟨c2, h4⟩ := look k
        have h5 := (cm h4).1
        rw [h1] at h5
        cases h5
        exact ⟨u, h2, .inr ⟨.inr k, c, h4, cellK h3⟩⟩
    · rw [List.getElem?_append_right (by omega)] at e1
      rw [List.getElem?_append_right (by rw [len0]; omega), len0, List.getElem?_map] at e2
      cases hv : vs[i - N0.length]? with
      | none => rw [hv] at e2; cases e2
      | some w' =>
        rw [hv] at e2
        cases e2
        obtain ⟨u, hu, ru⟩ := r.get hv
        refine ⟨u, ru, .inl ⟨L.par y (List.mem_of_getElem? e1), lookup_zip ndP e1 hu⟩⟩
  · obtain ⟨n, v, q⟩ := C.cell y c (cm e).1
    exact ⟨v, cellK q⟩
  · show (σ0 ++ vs.map some).length = (N0 ++ ps).length
    rw [List.length_append, List.length_append, List.length_map, len0, hl]
/-- f(..), f a lambda with parameters -/
theorem run_lamP {N0 ps : List Str} {cells : List (Str × Addr)} {sc : Scope} {σ0 : L2.St} {q : Str} {E : XK} {params : Arguments} {body : Expr} {scope : Scope} {f c' : Addr} {vs : List V} {us : List Value} {k : Nat} {tb : TE} {Q : VK} (I : Inv X pins σ H s) (hr : Room (k + 1) X.A)
    (C : CapF N0 cells sc σ0 H s.heap) (len0 : σ0.length = N0.length) (L : LamPS sc scope ps) (nd : (N0 ++ ps).Nodup) (r : Vals vs us) (hl : vs.length = ps.length)
    (hf : H f = some (LamO f q params body scope (cloFrom cells scope.names []) c')) (hc : H c' = some (CodeO c' q))
    (hbind : ∀ pm ctv, bindArgs (PySem.W.kla_fn "<lambda>" q params body scope (cloFrom cells scope.names []) pm (.ref c') ctv) ⟨us, []⟩ = pure (ps.zip us)) (hx : PassesAt (L2.CX X.prog X.w) X σ E)
    (hbody : ∀ (s : Shared), Room k (X.A.deeper (lamEnvP q cells scope s.heap.objs.size f c')) → PE (lamCxP X (N0 ++ ps) q cells X.A X.stack s H E scope f c') body tb) (ht : tb (σ0 ++ vs.map some) H Q) :
    wpAny (model X.prog X.w) X.A (call (.ref f) us) (EP X pins σ Q) X.xe s := by
  obtain ⟨⟨pm, ctv, of1⟩, _, _⟩ := I.hok f _ hf
  obtain ⟨⟨oc, vs0, t, hoc, hdc, hvc⟩, _, _⟩ := I.hok c' _ hc
  have rc : codeAny (model X.prog X.w) X.A (.call (.ref f) ⟨us, []⟩) (CR (L2.CX X.prog X.w) X.stack X.prog X.w H s Q E) s := by
    refine PySem.W.kla_callFunE hr.depth of1 rfl L.co L.gen rfl ⟨c', oc, vs0, t, rfl, hoc, hdc, hvc⟩ ?_
    rw [hbind]
    refine wpAny_pure (wpAny_newFunctionEnv (fun y hy => L.nocell y hy) (fun y hy => L.par _ (List.of_mem_zip hy).1) (fun h2 ns sb => ⟨I.nolimit.fresh _ sb, ?_⟩) L.kind)
    have kp : ∀ b o, s.heap.get? b = some o → h2.get? b = some o := fun b o e => sb.extBut b o (Nat.ne_of_lt (Heap.lt_size e)) (Heap.get?_push_of_some _ e)
    have J : Inv (lamCxP X (N0 ++ ps) q cells X.A X.stack s H E scope f c') [] (σ0 ++ vs.map some) H { s with heap := h2, toks := s.toks + (ps.zip us).length } :=
      lamP_start C len0 L nd I.env0 hr.hd r hl ns kp
    show codeAny _ _ (.expr body (lamEnvP q cells scope s.heap.objs.size f c')) _ _
    refine PySem.W.kla_codeExpr (wpAny_mono ((hbody s (hr.deeper _)).run [] _ _ H Q J ht) (fun v s' ⟨w', H', J', rv, qq⟩ => ⟨w', H', J'.os, J'.bare, J'.base, J'.hok, rv, qq⟩) fun _ _ z => z)
  refine wpAny_call (codeAny_mono rc fun r s' hq => ?_)
  cases r with
  | error e => exact hx pins H s e s' I hq
  | ok fl => cases fl <;> first | exact I.after hq | exact False.elim hq
end
end LX
end
section
set_option Elab.async false
set_option autoImplicit false
set_option linter.all false
set_option maxRecDepth 100000
set_option maxHeartbeats 2000000
/-! LXi: what a def promises where no repr is under way; calls, methods, new instances by it. -/
namespace LX
open PySem PySem.Spec PyProof.Rows L2 LamX
structure FnG (P : Program) (w : World) (K : PySem.W.Frag) (mg : Str → Option Value) (base : Heap) (k : Nat) (f : Addr) (fd : FuncData) (ps : List Str) (sp : Sp) : Prop where
  len : ∀ vs H Q E, sp vs H Q E → vs.length = ps.length
  run : ∀ (A : Around) (outer : List Env) (s : Shared) (H : Hp) (args : Args) (us : List Value) (vs : List V) (Q : VK) (E : XK), A.guards = some [] → Room k A → Env0 P w K mg base A outer s H → BindsTo s fd args (ps.zip us) → Vals vs us → sp vs H Q E →
    codeAny (model P w) A (.call (.ref f) args) (CR (L2.CX P w) outer P w H s Q E) s
section
variable {X : Cx} {pins : List (Addr × Obj)} {σ : L2.St} {H : Hp} {s : Shared} {k : Nat} {f C : Addr} {fd : FuncData} {ps : List Str} {sp : Sp} {E : XK} {Q : VK} {us : List Value} {vs : List V}
theorem run_fnG (F : FnG X.prog X.w X.K X.mg X.base k f fd ps sp) (hg : X.A.guards = some []) (hr : Room k X.A) (hb : Binds X.K fd ps []) (hx : PassesAt (L2.CX X.prog X.w) X σ E) (I : Inv X pins σ H s) (r : Vals vs us) (h : sp vs H Q E) :
    wpAny (model X.prog X.w) X.A (call (.ref f) us) (EP X pins σ Q) X.xe s := by
  have hl : (us ++ ([] : List Value)).length = ps.length := by
    rw [List.append_nil, ← r.length]
    exact F.len _ _ _ _ h
  have b := hb s us I.kIn hl
  rw [List.append_nil] at b
  refine wpAny_call (codeAny_mono (F.run X.A X.stack s H ⟨us, []⟩ us vs Q E hg hr I.env0 b r h) fun q s' hq => ?_)
  rcases q with e | fl
  · exact hx pins H s e s' I hq
  · cases fl <;> first | exact I.after hq | exact False.elim hq
/-- f(e, ..) -/
theorem pe_callG {x : Str} {p pos : Pos} {e : Expr} {es : List Expr} {t : TA} {Ex : L2.St → XK} (F : FnG X.prog X.w X.K X.mg X.base k f fd ps sp) (hg : X.A.guards = some []) (hr : Room k X.A) (gl : Gl X x) (hm : X.mg x = some (.ref f)) (hk : PySem.W.keepIn X.K (.ref f) = true) (hb : Binds X.K fd ps [])
    (hx : ∀ σ, PassesAt (L2.CX X.prog X.w) X σ (Ex σ)) (ha : PA X (e :: es) t) (hdb : (x == ("__debug__" : Str)) = false) (he : starEach (e :: es) X.env = (false, eval e X.env) :: starEach es X.env) (hpl : (backTo pos (starEach es X.env)).any (·.1) = false) :
    PE X (.Call (.Name x p) (e :: es) [] pos) (fun σ H Q => t σ H fun vs H1 => sp vs H1 Q (Ex σ)) := by
  refine ⟨fun pins s σ H Q I h => wpAny_Call_Name_kw (ld_glob I gl hm ?_ hdb)⟩
  refine PySem.W.callWith_K (h₀ := X.base) I.ok.mod.kin hk (thn (ha.run pos pins s σ H _ I h) fun us s1 ⟨vs, H1, I1, r, q⟩ => ?_) he hpl
  exact ⟨I1.kIn, run_fnG F hg hr hb (hx σ) I1 r q⟩
/-- f() -/
theorem pe_callG0 {x : Str} {p pos : Pos} {Ex : L2.St → XK} (F : FnG X.prog X.w X.K X.mg X.base k f fd ps sp) (hg : X.A.guards = some []) (hr : Room k X.A) (gl : Gl X x) (hm : X.mg x = some (.ref f)) (hk : PySem.W.keepIn X.K (.ref f) = true) (hb : Binds X.K fd ps [])
    (hx : ∀ σ, PassesAt (L2.CX X.prog X.w) X σ (Ex σ)) (hdb : (x == ("__debug__" : Str)) = false) :
    PE X (.Call (.Name x p) [] [] pos) (fun σ H Q => sp [] H Q (Ex σ)) := by
  refine ⟨fun pins s σ H Q I h => wpAny_Call_Name_kw (ld_glob I gl hm ?_ hdb)⟩
  exact PySem.W.callWith_K0 I.kIn hk (run_fnG (us := []) F hg hr hb (hx σ) I .nil h)
/-- what a method call's receiver must be -/
def RecvOk (H : Hp) (C : Addr) (m : Str) (x : V) : Prop := ∃ a dx fs, x = .ref a ∧ H a = some (.ins C dx fs) ∧ fs.lookup m = none
/-- the tree of a method call -/
def MTree (o : Expr) (m : Str) (apos : Pos) (es : List Expr) (pos : Pos) (env : Env) (pl : Sem Bool) : Prop :=
  eval (.Call (.Attribute o m apos) es [] pos) env = (do
      let ov ← eval o env
      standAt apos.atName
      let (f, first) ← holding [ov] (getMethod ov m pl)
      callWith pos f first (backTo pos (starEach es env)) (backToKw pos (keywordEach [] env)))
/-- o.m(e, ..) -/
theorem pe_methG {o e : Expr} {es : List Expr} {m : Str} {apos pos : Pos} {ta : TE} {t : TA} {Ex : L2.St → XK} {pl : Sem Bool} (he : PE X o ta) (c : Cls X.K C) (hm : Meth X.K C m f) (F : FnG X.prog X.w X.K X.mg X.base k f fd ps sp) (hg : X.A.guards = some []) (hr : Room k X.A) (hb : Binds X.K fd ps [])
    (hx : ∀ σ, PassesAt (L2.CX X.prog X.w) X σ (Ex σ)) (ha : PA X (e :: es) t) (hst : starEach (e :: es) X.env = (false, eval e X.env) :: starEach es X.env) (hpl : (backTo pos (starEach es X.env)).any (·.1) = false) (ht : MTree o m apos (e :: es) pos X.env pl) :
    PE X (.Call (.Attribute o m apos) (e :: es) [] pos) (fun σ H Q => ta σ H fun x H1 => RecvOk H1 C m x ∧ t σ H1 fun vs H2 => sp (x :: vs) H2 Q (Ex σ)) := by
  refine ⟨fun pins s σ H Q I h => PySem.W.methodCall_KW (pl := pl) (thn (he.run pins s σ H _ I h) fun u s1 ⟨x, H1, I1, rx, ⟨a, dx, fs, ex, ea, l⟩, q⟩ => ?_) ht⟩
  subst ex
  cases rx
  refine getmeth_ok I1 ea c hm l ?_
  refine PySem.W.callWith_K (first := [.ref a]) (h₀ := X.base) I.ok.mod.kin hm.kp (thn (ha.run pos pins s1 σ H1 _ I1 q) fun us s2 ⟨vs, H2, I2, r, q2⟩ => ?_) hst hpl
  exact ⟨I2.kIn, run_fnG (us := .ref a :: us) (vs := .ref a :: vs) F hg hr hb (hx σ) I2 (.cons rfl r) q2⟩
/-- o.m() -/
theorem pe_methG0 {o : Expr} {m : Str} {apos pos : Pos} {ta : TE} {Ex : L2.St → XK} {pl : Sem Bool} (he : PE X o ta) (c : Cls X.K C) (hm : Meth X.K C m f) (F : FnG X.prog X.w X.K X.mg X.base k f fd ps sp) (hg : X.A.guards = some []) (hr : Room k X.A) (hb : Binds X.K fd ps [])
    (hx : ∀ σ, PassesAt (L2.CX X.prog X.w) X σ (Ex σ)) (ht : MTree o m apos [] pos X.env pl) :
    PE X (.Call (.Attribute o m apos) [] [] pos) (fun σ H Q => ta σ H fun x H1 => RecvOk H1 C m x ∧ sp [x] H1 Q (Ex σ)) := by
  refine ⟨fun pins s σ H Q I h => PySem.W.methodCall_KW (pl := pl) (thn (he.run pins s σ H _ I h) fun u s1 ⟨x, H1, I1, rx, ⟨a, dx, fs, ex, ea, l⟩, q⟩ => ?_) ht⟩
  subst ex
  cases rx
  refine getmeth_ok I1 ea c hm l ?_
  exact PySem.W.callWith_K0 (first := [.ref a]) I1.kIn hm.kp (run_fnG (us := [.ref a]) (vs := [.ref a]) F hg hr hb (hx σ) I1 (.cons rfl .nil) q)
/-- names and attributes as receivers -/
def recvB : Expr → Bool
  | .Name _ _ => true
  | .Attribute _ _ _ => true
  | _ => false
theorem all_any {α : Type} (l : List (Bool × α)) (h : l.any (·.1) = false) : l.all (!·.1) = true := by
  induction l with
  | nil => rfl
  | cons x l ih =>
    rw [List.any_cons, Bool.or_eq_false_iff] at h
    rw [List.all_cons, h.1, ih h.2]
    rfl
theorem recv_tree {o : Expr} {m : Str} {apos pos : Pos} {es : List Expr} {env : Env} (h : recvB o = true) (hl : (apos.endLine == pos.line) = true) (hz : es.length < 30) (hs : (backTo pos (starEach es env)).any (·.1) = false) : ∃ pl, MTree o m apos es pos env pl := by
  have hb : attributeBase o m env (eval o env) = eval o env := by cases o <;> first | rfl | cases h
  have hf : methodCallForm (es.length + 0) (backTo pos (starEach es env)) (backToKw pos (keywordEach [] env)) = true := by
    unfold methodCallForm
    rw [all_any _ hs]
    have : (backToKw pos (keywordEach [] env)) = [] := rfl
    rw [this]
    simpa using hz
  refine ⟨(do return (← importBound o env).getD true), ?_⟩
  unfold MTree
  rw [show eval (.Call (.Attribute o m apos) es [] pos) env = (do
    let ov ← attributeBase o m env (eval o env)
    standAt apos.atName
    methodCall o m apos pos env ov (es.length + 0) (backTo pos (starEach es env)) (backToKw pos (keywordEach [] env))) from by rw [eval] <;> rfl]
  rw [hb]
  unfold methodCall
  rw [hf]
  have hp : methodCallPos true o env apos pos = pure pos := by
    unfold methodCallPos
    rw [hl]
    rfl
  rw [hp]
  rfl
theorem guards_make {A : Around} {args : Args} (hg : A.guards = some []) : (A.under (.builtin "type.__call__" args)).guards = some [] := hg
/-- C(..): what is asked of __init__ -/
def spMake (C : Addr) (sp : Sp) (vs : List V) (H : Hp) (Q : VK) (E : XK) : Prop := ∀ x dx, H x = none → H dx = none → dx ≠ x → sp (.ref x :: vs) (upd (upd H dx (.own x)) x (.ins C dx [])) (fun v H2 => v = .non ∧ Q (.ref x) H2) E
theorem run_makeG (M : L2.Mk X.K C f) (F : FnG X.prog X.w X.K X.mg X.base k f fd ps sp) (hg : X.A.guards = some []) (hr : Room (k + 1) X.A) (hb : Binds X.K fd ps []) (hx : PassesAt (L2.CX X.prog X.w) X σ E) (I : Inv X pins σ H s) (r : Vals vs us) (h : spMake C sp vs H Q E)
    (hx0 : ∀ (H' : Hp) (s' : Shared), Inv X pins σ H' s' → True) : wpAny (model X.prog X.w) X.A (call (.ref C) us) (EP X pins σ Q) X.xe s := by
  have fx : H (s.heap.objs.size + 1) = none := I.hok.fresh (Nat.le_add_right _ _)
  have fd0 : H s.heap.objs.size = none := I.hok.fresh (Nat.le_refl _)
  have ask := h _ _ fx fd0 (Nat.ne_of_lt (Nat.lt_succ_self _))
  have J := Inv.made (C := C) I
  have rr : Vals (V.ref (s.heap.objs.size + 1) :: vs) (Value.ref (s.heap.objs.size + 1) :: us) := .cons rfl r
  have hl : (Value.ref (s.heap.objs.size + 1) :: us ++ ([] : List Value)).length = ps.length := by
    rw [List.append_nil, ← rr.length]
    exact F.len _ _ _ _ ask
  have b := hb { s with heap := (s.heap.push PySem.W.emptyDict).push (PySem.W.instObj C s.heap.objs.size) } (Value.ref (s.heap.objs.size + 1) :: us) J.kIn hl
  rw [List.append_nil] at b
  refine wpAny_call (make_map (f := f) I.kIn M.makes M.init (beq_iff_eq.mp M.fn) (codeAny_mono (F.run _ X.stack _ _ ⟨Value.ref (s.heap.objs.size + 1) :: us, []⟩ _ _ _ E (guards_make hg) (hr.make C us []) (J.env0.make C us []) b rr ask) fun q s' hq => ?_))
  rcases q with e | fl
  · exact hx pins _ _ e s' J hq
  · cases fl with
    | ret u =>
      obtain ⟨v, H', I3, rv, ev, q3⟩ := J.after hq
      cases ev
      exact ⟨rv, V.ref (s.heap.objs.size + 1), H', I3, rfl, q3⟩
    | next => exact False.elim hq
    | brk => exact False.elim hq
    | cont => exact False.elim hq
theorem pe_makeG {x : Str} {p pos : Pos} {e : Expr} {es : List Expr} {t : TA} {Ex : L2.St → XK} (M : L2.Mk X.K C f) (F : FnG X.prog X.w X.K X.mg X.base k f fd ps sp) (hg : X.A.guards = some []) (hr : Room (k + 1) X.A) (gl : Gl X x) (hm : X.mg x = some (.ref C)) (hb : Binds X.K fd ps [])
    (hx : ∀ σ, PassesAt (L2.CX X.prog X.w) X σ (Ex σ)) (ha : PA X (e :: es) t) (hdb : (x == ("__debug__" : Str)) = false) (he : starEach (e :: es) X.env = (false, eval e X.env) :: starEach es X.env) (hpl : (backTo pos (starEach es X.env)).any (·.1) = false) :
    PE X (.Call (.Name x p) (e :: es) [] pos) (fun σ H Q => t σ H fun vs H1 => spMake C sp vs H1 Q (Ex σ)) := by
  refine ⟨fun pins s σ H Q I h => wpAny_Call_Name_kw (ld_glob I gl hm ?_ hdb)⟩
  refine PySem.W.callWith_K (h₀ := X.base) I.ok.mod.kin M.kp (thn (ha.run pos pins s σ H _ I h) fun us s1 ⟨vs, H1, I1, r, q⟩ => ?_) he hpl
  exact ⟨I1.kIn, run_makeG M F hg hr hb (hx σ) I1 r q fun _ _ _ => trivial⟩
theorem pe_makeG0 {x : Str} {p pos : Pos} {Ex : L2.St → XK} (M : L2.Mk X.K C f) (F : FnG X.prog X.w X.K X.mg X.base k f fd ps sp) (hg : X.A.guards = some []) (hr : Room (k + 1) X.A) (gl : Gl X x) (hm : X.mg x = some (.ref C)) (hb : Binds X.K fd ps [])
    (hx : ∀ σ, PassesAt (L2.CX X.prog X.w) X σ (Ex σ)) (hdb : (x == ("__debug__" : Str)) = false) :
    PE X (.Call (.Name x p) [] [] pos) (fun σ H Q => spMake C sp [] H Q (Ex σ)) := by
  refine ⟨fun pins s σ H Q I h => wpAny_Call_Name_kw (ld_glob I gl hm ?_ hdb)⟩
  exact PySem.W.callWith_K0 I.kIn M.kp (run_makeG (us := []) M F hg hr hb (hx σ) I .nil h fun _ _ _ => trivial)
end
end LX
end
section
set_option Elab.async false
set_option autoImplicit false
set_option linter.all false
set_option maxRecDepth 100000
set_option maxHeartbeats 2000000
/-! DLb: how data stand in the heap. -/
namespace DL
open PySem PySem.Spec PyProof.Rows L2 LamX LX

/-- a state's tracked part: the heap, where the changeable objects stand, what is not settled, the exceptions at hand -/
inductive Kd where
  | lst | ins (c : Nat) | dic
structure RS where
  H : Hp
  mu : List Addr
  kd : List Kd
  Z : Addr → Prop
  nu : Addr → Option (Value × Option Addr)
/-- a lambda's text -/
structure LamA where
  params : Arguments
  body : Expr
  scope : Scope
/-- what a frame's kept lambdas are known by -/
structure Frm where
  cells : List (Str × Addr)
  qual : Str
  lt : List (List LamA)
  ls : List Nat
  lv : List LamA
  cap : List (Nat × Option V)
def Frm.nil : Frm := ⟨[], "", [], [], [], []⟩
/-- where the text's things stand -/
structure Glob where
  K : PySem.W.Frag
  fnA : Nat → Addr
  exA : Nat → Addr
  exF : Nat → Option Str
  nE : Nat
  nF : Nat
  T : List (Addr × Str)
  clA : Nat → Addr
  clF : Nat → List Str
  F : Frm
def Glob.fr (G : Glob) (F : Frm) : Glob := { G with F := F }
abbrev NoT (o : HO) : Prop := ∀ ps, o ≠ .tbl ps
def txt (x : List Nat) : Str := ⟨x.toArray⟩
/-- a settled tuple -/
def Ft (G : Glob) (r : RS) (a : Addr) (vs : List V) : Prop := (Rd r.H a (.tup vs) ∧ ¬ r.Z a) ∨
  ∃ (o : Obj) (its : Array Value) (n : Nat), G.K.lookup a = some o ∧ o.cls = .type "tuple" ∧ o.data = .seq its n ∧ its.size ≤ sizeLine ∧ Vals vs its.toList
theorem Ft.sq {G : Glob} {r : RS} {a : Addr} {vs : List V} (h : Ft G r a vs) : SqT G.K r.H a vs := by
  rcases h with ⟨h, _⟩ | h
  · exact .inl h
  · exact .inr h
/-- the script -/
def Sc (G : Glob) (r : RS) (a : Addr) (vs : List V) : Prop := (Rd r.H a (.lst vs) ∧ ¬ r.Z a) ∨
  ∃ (o : Obj) (its : Array Value) (n : Nat), G.K.lookup a = some o ∧ o.cls = .type "list" ∧ o.dict = none ∧ o.data = .seq its n ∧ its.size ≤ sizeLine ∧ Vals vs its.toList
theorem Sc.sq {G : Glob} {r : RS} {a : Addr} {vs : List V} (h : Sc G r a vs) : SqL G.K r.H a vs := by
  rcases h with ⟨h, _⟩ | h
  · exact .inl h
  · exact .inr h
mutual
inductive Rep (G : Glob) (r : RS) : D → V → Prop
  | non : Rep G r .non .non
  | bl (b : Bool) : Rep G r (.bl b) (.bl b)
  | int (i : Int) : Rep G r (.int i) (.int i)
  | str (x : List Nat) : Rep G r (.str x) (.str (txt x))
  | tup {ds : List D} {a : Addr} {vs : List V} : Ft G r a vs → Reps G r ds vs → Rep G r (.tup ds) (.ref a)
  | lst {ds : List D} {a : Addr} {vs : List V} : Rd r.H a (.lst vs) → ¬ r.Z a → Reps G r ds vs → Rep G r (.lst ds) (.ref a)
  | ref {n : Nat} {a : Addr} : r.mu[n]? = some a → r.kd[n]? = some .lst → Rep G r (.ref n) (.ref a)
  | obj {c n : Nat} {a : Addr} : r.mu[n]? = some a → r.kd[n]? = some (.ins c) → Rep G r (.obj c n) (.ref a)
  | fn {g : Nat} : g < G.nF → Rep G r (.fn g) (.ref (G.fnA g))
  | scr {a : Addr} {ns : List Int} : Sc G r a (ns.map V.int) → Rep G r (.scr ns) (.ref a)
  | dic {a : Addr} : r.H a = some (.dK []) → ¬ r.Z a → Rep G r (.map [] []) (.ref a)
  | exn0 {c : Nat} {arg : D} {a : Addr} {dd : Option Addr} : r.nu a = some (.ref (G.exA c), dd) → G.exF c = none → Rep G r (.exn c arg) (.ref a)
  | exn1 {c : Nat} {arg : D} {a d : Addr} {f : Str} {v : V} : r.nu a = some (.ref (G.exA c), some d) → G.exF c = some f → r.H d = some (.xd [(f, v)]) → ¬ r.Z d → Rep G r arg v → Rep G r (.exn c arg) (.ref a)
inductive Reps (G : Glob) (r : RS) : List D → List V → Prop
  | nil : Reps G r [] []
  | cons {d : D} {ds : List D} {v : V} {vs : List V} : Rep G r d v → Reps G r ds vs → Reps G r (d :: ds) (v :: vs)
end
/-- settled things stay -/
structure Grow (r r' : RS) : Prop where
  mu : ∀ (n : Nat) (a : Addr), r.mu[n]? = some a → r'.mu[n]? = some a
  kd : ∀ (n : Nat) (k : Kd), r.kd[n]? = some k → r'.kd[n]? = some k
  frz : ∀ a o, r.H a = some o → ¬ r.Z a → NoT o → r'.H a = some o ∧ ¬ r'.Z a
  nu : ∀ a p, r.nu a = some p → r'.nu a = some p
/-- .. and what is being made is left alone -/
structure Ext (r r' : RS) : Prop extends Grow r r' where
  bld : ∀ a o, r.H a = some o → r.Z a → a ∉ r.mu → NoT o → r'.H a = some o ∧ r'.Z a ∧ a ∉ r'.mu
abbrev NoX (o : HO) : Prop := NoT o ∧ ∀ a q, o ≠ CodeO a q
theorem nx_lst {xs : List V} : NoX (.lst xs) := ⟨fun ps h => (by cases h), fun a q h => (by unfold CodeO at h; cases h)⟩
theorem nx_ins {C dx : Addr} {fs : List (Str × V)} : NoX (.ins C dx fs) := ⟨fun ps h => (by cases h), fun a q h => (by unfold CodeO at h; cases h)⟩
theorem nt_lst {xs : List V} : NoT (.lst xs) := fun ps h => by cases h
theorem nt_tup {xs : List V} : NoT (.tup xs) := fun ps h => by cases h
theorem nt_frz {o : Obj} {u : HO} : NoT (.frz o u) := fun ps h => by cases h
theorem nt_xd {fs : List (Str × V)} : NoT (.xd fs) := fun ps h => by cases h
theorem nt_own {x : Addr} : NoT (.own x) := fun ps h => by cases h
theorem nt_ins {C dx : Addr} {fs : List (Str × V)} : NoT (.ins C dx fs) := fun ps h => by cases h
theorem nt_dK {kvs : List (Key × V)} : NoT (.dK kvs) := fun ps h => by cases h
theorem Grow.refl (r : RS) : Grow r r := ⟨fun _ _ h => h, fun _ _ h => h, fun _ _ h z _ => ⟨h, z⟩, fun _ _ h => h⟩
theorem Grow.trans {a b c : RS} (x : Grow a b) (y : Grow b c) : Grow a c :=
  ⟨fun n p h => y.mu n p (x.mu n p h), fun n p h => y.kd n p (x.kd n p h), fun p o h z t => let ⟨h1, z1⟩ := x.frz p o h z t; y.frz p o h1 z1 t, fun p q h => y.nu p q (x.nu p q h)⟩
theorem Ext.refl (r : RS) : Ext r r := ⟨Grow.refl r, fun _ _ h z n _ => ⟨h, z, n⟩⟩
theorem Ext.trans {a b c : RS} (x : Ext a b) (y : Ext b c) : Ext a c :=
  ⟨x.toGrow.trans y.toGrow, fun p o h z n t => let ⟨h1, z1, n1⟩ := x.bld p o h z n t; y.bld p o h1 z1 n1 t⟩
theorem Ft.grow {G : Glob} {r r' : RS} (e : Grow r r') {a : Addr} {vs : List V} (h : Ft G r a vs) : Ft G r' a vs := by
  rcases h with ⟨h, z⟩ | h
  · rcases h with h | ⟨o, h⟩
    · exact .inl ⟨.inl (e.frz _ _ h z nt_tup).1, (e.frz _ _ h z nt_tup).2⟩
    · exact .inl ⟨.inr ⟨o, (e.frz _ _ h z nt_frz).1⟩, (e.frz _ _ h z nt_frz).2⟩
  · exact .inr h
theorem Sc.grow {G : Glob} {r r' : RS} (e : Grow r r') {a : Addr} {vs : List V} (h : Sc G r a vs) : Sc G r' a vs := by
  rcases h with ⟨h, z⟩ | h
  · rcases h with h | ⟨o, h⟩
    · exact .inl ⟨.inl (e.frz _ _ h z nt_lst).1, (e.frz _ _ h z nt_lst).2⟩
    · exact .inl ⟨.inr ⟨o, (e.frz _ _ h z nt_frz).1⟩, (e.frz _ _ h z nt_frz).2⟩
  · exact .inr h
theorem rd_grow {r r' : RS} (e : Grow r r') {a : Addr} {vs : List V} (h : Rd r.H a (.lst vs)) (z : ¬ r.Z a) : Rd r'.H a (.lst vs) ∧ ¬ r'.Z a := by
  rcases h with h | ⟨o, h⟩
  · exact ⟨.inl (e.frz _ _ h z nt_lst).1, (e.frz _ _ h z nt_lst).2⟩
  · exact ⟨.inr ⟨o, (e.frz _ _ h z nt_frz).1⟩, (e.frz _ _ h z nt_frz).2⟩
mutual
theorem Rep.grow {G : Glob} {r r' : RS} (e : Grow r r') : ∀ {d : D} {v : V}, Rep G r d v → Rep G r' d v
  | _, _, .non => .non
  | _, _, .bl b => .bl b
  | _, _, .int i => .int i
  | _, _, .str x => .str x
  | _, _, .tup h hs => .tup (h.grow e) (Reps.grow e hs)
  | _, _, .lst h z hs => .lst (rd_grow e h z).1 (rd_grow e h z).2 (Reps.grow e hs)
  | _, _, .ref h k => .ref (e.mu _ _ h) (e.kd _ _ k)
  | _, _, .obj h k => .obj (e.mu _ _ h) (e.kd _ _ k)
  | _, _, .fn h => .fn h
  | _, _, .scr h => .scr (h.grow e)
  | _, _, .dic h z => .dic (e.frz _ _ h z nt_dK).1 (e.frz _ _ h z nt_dK).2
  | _, _, .exn0 h n => .exn0 (e.nu _ _ h) n
  | _, _, .exn1 h n hd z hr => .exn1 (e.nu _ _ h) n (e.frz _ _ hd z nt_xd).1 (e.frz _ _ hd z nt_xd).2 (Rep.grow e hr)
theorem Reps.grow {G : Glob} {r r' : RS} (e : Grow r r') : ∀ {ds : List D} {vs : List V}, Reps G r ds vs → Reps G r' ds vs
  | _, _, .nil => .nil
  | _, _, .cons h hs => .cons (Rep.grow e h) (Reps.grow e hs)
end
theorem Rep.ext {G : Glob} {r r' : RS} {d : D} {v : V} (e : Ext r r') (h : Rep G r d v) : Rep G r' d v := h.grow e.toGrow
theorem Reps.ext {G : Glob} {r r' : RS} {ds : List D} {vs : List V} (e : Ext r r') (h : Reps G r ds vs) : Reps G r' ds vs := h.grow e.toGrow
theorem Reps.length {G : Glob} {r : RS} : ∀ {ds : List D} {vs : List V}, Reps G r ds vs → ds.length = vs.length
  | _, _, .nil => rfl
  | _, _, .cons _ t => by simp [Reps.length t]
theorem Reps.get {G : Glob} {r : RS} : ∀ {ds : List D} {vs : List V}, Reps G r ds vs → ∀ {i : Nat} {d : D}, ds[i]? = some d → ∃ v, vs[i]? = some v ∧ Rep G r d v
  | _, _, .nil, _, _, h => by simp at h
  | _, _, .cons h t, 0, _, e => by simp at e; subst e; exact ⟨_, rfl, h⟩
  | _, _, .cons _ t, i + 1, _, e => by
    obtain ⟨v, h1, h2⟩ := Reps.get t (i := i) (by simpa using e)
    exact ⟨v, by simpa using h1, h2⟩
theorem Reps.get' {G : Glob} {r : RS} : ∀ {ds : List D} {vs : List V}, Reps G r ds vs → ∀ {i : Nat} {v : V}, vs[i]? = some v → ∃ d, ds[i]? = some d ∧ Rep G r d v
  | _, _, .nil, _, _, h => by simp at h
  | _, _, .cons h t, 0, _, e => by simp at e; subst e; exact ⟨_, rfl, h⟩
  | _, _, .cons _ t, i + 1, _, e => by
    obtain ⟨v, h1, h2⟩ := Reps.get' t (i := i) (by simpa using e)
    exact ⟨v, by simpa using h1, h2⟩
theorem Reps.append {G : Glob} {r : RS} : ∀ {ds es : List D} {vs ws : List V}, Reps G r ds vs → Reps G r es ws → Reps G r (ds ++ es) (vs ++ ws)
  | _, _, _, _, .nil, h => h
  | _, _, _, _, .cons h t, s => .cons h (Reps.append t s)
theorem Reps.take {G : Glob} {r : RS} : ∀ {ds : List D} {vs : List V} (n : Nat), Reps G r ds vs → Reps G r (ds.take n) (vs.take n)
  | _, _, 0, _ => by simp; exact .nil
  | _, _, _ + 1, .nil => .nil
  | _, _, n + 1, .cons h t => .cons h (Reps.take n t)
theorem Reps.drop {G : Glob} {r : RS} : ∀ {ds : List D} {vs : List V} (n : Nat), Reps G r ds vs → Reps G r (ds.drop n) (vs.drop n)
  | _, _, 0, h => h
  | _, _, _ + 1, .nil => .nil
  | _, _, n + 1, .cons _ t => Reps.drop n t
theorem Reps.reverse {G : Glob} {r : RS} : ∀ {ds : List D} {vs : List V}, Reps G r ds vs → Reps G r ds.reverse vs.reverse
  | _, _, .nil => .nil
  | _, _, .cons h t => by simp only [List.reverse_cons]; exact (Reps.reverse t).append (.cons h .nil)
theorem Reps.set {G : Glob} {r : RS} {d : D} {v : V} (h : Rep G r d v) : ∀ {ds : List D} {vs : List V} (n : Nat), Reps G r ds vs → Reps G r (ds.set n d) (vs.set n v)
  | _, _, _, .nil => .nil
  | _, _, 0, .cons _ t => .cons h t
  | _, _, n + 1, .cons q t => .cons q (Reps.set h n t)

/-- an exception that flies -/
def RepX (G : Glob) (r : RS) (x : Exn) (cls : Value) (dd : Option Addr) : Prop := (cls = .ref (G.exA x.c) ∧ x.c < G.nE) ∧
  (G.exF x.c = none ∨ ∃ (f : Str) (d : Addr) (v : V), G.exF x.c = some f ∧ dd = some d ∧ r.H d = some (.xd [(f, v)]) ∧ ¬ r.Z d ∧ Rep G r x.arg v)
theorem RepX.grow {G : Glob} {r r' : RS} (e : Grow r r') {x : Exn} {cls : Value} {dd : Option Addr} (h : RepX G r x cls dd) : RepX G r' x cls dd := by
  obtain ⟨h1, h2⟩ := h
  refine ⟨h1, ?_⟩
  rcases h2 with h2 | ⟨f, d, v, a, b, c, z, q⟩
  · exact .inl h2
  · exact .inr ⟨f, d, v, a, b, (e.frz _ _ c z nt_xd).1, (e.frz _ _ c z nt_xd).2, q.grow e⟩
/-- what stands for the changeable object at a -/
def ObR (G : Glob) (r : RS) (a : Addr) (xs : List D) : Kd → Prop
  | .lst => ∃ vs, r.H a = some (.lst vs) ∧ Reps G r xs vs
  | .ins c => ∃ dx fs vs, r.H a = some (.ins (G.clA c) dx fs) ∧ r.H dx = some (.own a) ∧ ¬ r.Z dx ∧ Reps G r xs vs ∧ vs.length ≤ (G.clF c).length ∧ fs.map (·.1) = (G.clF c).take vs.length ∧ fs.map (·.2) = vs
  | .dic => False
theorem ObR.grow {G : Glob} {r r' : RS} (e : Grow r r') {a : Addr} {xs : List D} (ha : ∀ o, r.H a = some o → r'.H a = some o) : ∀ {k : Kd}, ObR G r a xs k → ObR G r' a xs k
  | .lst, ⟨vs, h1, h2⟩ => ⟨vs, ha _ h1, h2.grow e⟩
  | .ins c, ⟨dx, fs, vs, h1, h2, h3, h4, h5, h6⟩ => ⟨dx, fs, vs, ha _ h1, (e.frz _ _ h2 h3 nt_own).1, (e.frz _ _ h2 h3 nt_own).2, h4.grow e, h5, h6⟩
  | .dic, h => h
theorem ObR.isO {G : Glob} {r : RS} {a : Addr} {xs : List D} : ∀ {k : Kd}, ObR G r a xs k → ∃ o, r.H a = some o ∧ NoT o
  | .lst, ⟨vs, h1, h2⟩ => ⟨_, h1, nt_lst⟩
  | .ins c, ⟨dx, fs, vs, h1, h2⟩ => ⟨_, h1, nt_ins⟩
  | .dic, h => h.elim
theorem ObR.not_code {G : Glob} {r : RS} {a : Addr} {xs : List D} {q : Str} : ∀ {k : Kd}, ObR G r a xs k → r.H a ≠ some (CodeO a q)
  | .lst, ⟨vs, h1, h2⟩ => fun z => by rw [h1] at z; cases z
  | .ins c, ⟨dx, fs, vs, h1, h2⟩ => fun z => by rw [h1] at z; cases z
  | .dic, h => h.elim
/-- the store -/
structure Rl (G : Glob) (r : RS) (S : Store) : Prop where
  len : r.mu.length = S.length
  klen : r.kd.length = S.length
  nd : r.mu.Nodup
  inZ : ∀ a ∈ r.mu, r.Z a
  zH : ∀ a, r.Z a → r.H a ≠ none
  obj : ∀ (n : Nat) (xs : List D), S[n]? = some xs → ∃ a k, r.mu[n]? = some a ∧ r.kd[n]? = some k ∧ ObR G r a xs k
  tabs : Tabs G.T r.H
  tabN : ∀ p ∈ G.T, r.Z p.1 ∧ p.1 ∉ r.mu
  zT : ∀ a, r.Z a → (∃ o, r.H a = some o ∧ NoX o) ∨ ∃ q, (a, q) ∈ G.T
/-- a list of the store -/
theorem Rl.lst {G : Glob} {r : RS} {S : Store} (l : Rl G r S) {n : Nat} {xs : List D} (hk : r.kd[n]? = some .lst) (e : S[n]? = some xs) : ∃ a vs, r.mu[n]? = some a ∧ r.H a = some (.lst vs) ∧ Reps G r xs vs := by
  obtain ⟨a, k, h1, h2, h3⟩ := l.obj n xs e
  rw [hk] at h2
  cases h2
  obtain ⟨vs, h4, h5⟩ := h3
  exact ⟨a, vs, h1, h4, h5⟩
/-- an instance of the store -/
theorem Rl.ins {G : Glob} {r : RS} {S : Store} (l : Rl G r S) {c n : Nat} {xs : List D} (hk : r.kd[n]? = some (.ins c)) (e : S[n]? = some xs) : ∃ a, r.mu[n]? = some a ∧ ObR G r a xs (.ins c) := by
  obtain ⟨a, k, h1, h2, h3⟩ := l.obj n xs e
  rw [hk] at h2
  cases h2
  exact ⟨a, h1, h3⟩
/-- a kept list of lambdas -/
def LamR (G : Glob) (r : RS) (d : D) (v : V) : Prop := ∃ (k : Nat) (ls : List LamA) (La : Addr) (fs : List Addr), d = .lams k ∧ v = .ref La ∧ G.F.lt[k]? = some ls ∧ r.H La = some (.lst (fs.map V.ref)) ∧ ¬ r.Z La ∧ fs.length = ls.length ∧
  ∀ (j : Nat) (f : Addr) (lam : LamA), fs[j]? = some f → ls[j]? = some lam → ∃ c' : Addr, r.H f = some (LamO f (G.F.qual ++ "<lambda>") lam.params lam.body lam.scope (cloFrom G.F.cells lam.scope.names []) c') ∧ ¬ r.Z f ∧ r.H c' = some (CodeO c' (G.F.qual ++ "<lambda>")) ∧ ¬ r.Z c'
theorem LamR.grow {G : Glob} {r r' : RS} (e : Grow r r') {d : D} {v : V} (h : LamR G r d v) : LamR G r' d v := by
  obtain ⟨k, ls, La, fs, h1, h2, h3, h4, h5, h6, h7⟩ := h
  refine ⟨k, ls, La, fs, h1, h2, h3, (e.frz _ _ h4 h5 nt_lst).1, (e.frz _ _ h4 h5 nt_lst).2, h6, fun j f lam a b => ?_⟩
  obtain ⟨c', k1, k2, k3, k4⟩ := h7 j f lam a b
  exact ⟨c', (e.frz _ _ k1 k2 lamO_ne).1, (e.frz _ _ k1 k2 lamO_ne).2, (e.frz _ _ k3 k4 codeO_ne).1, (e.frz _ _ k3 k4 codeO_ne).2⟩
/-- a lambda as a value -/
def LamV (G : Glob) (r : RS) (d : D) (v : V) : Prop := ∃ (j : Nat) (lam : LamA) (f c' : Addr), d = .lam j ∧ v = .ref f ∧ G.F.lv[j]? = some lam ∧
  r.H f = some (LamO f (G.F.qual ++ "<lambda>") lam.params lam.body lam.scope (cloFrom G.F.cells lam.scope.names []) c') ∧ ¬ r.Z f ∧ r.H c' = some (CodeO c' (G.F.qual ++ "<lambda>")) ∧ ¬ r.Z c'
theorem LamV.grow {G : Glob} {r r' : RS} (e : Grow r r') {d : D} {v : V} (h : LamV G r d v) : LamV G r' d v := by
  obtain ⟨j, lam, f, c', h1, h2, h3, k1, k2, k3, k4⟩ := h
  exact ⟨j, lam, f, c', h1, h2, h3, (e.frz _ _ k1 k2 lamO_ne).1, (e.frz _ _ k1 k2 lamO_ne).2, (e.frz _ _ k3 k4 codeO_ne).1, (e.frz _ _ k3 k4 codeO_ne).2⟩
/-- a kept list of lambdas, a lambda, a def -/
def LamC (G : Glob) (r : RS) (d : D) (v : V) : Prop := LamR G r d v ∨ LamV G r d v ∨ ∃ g, d = .fn g ∧ Rep G r d v
theorem LamC.grow {G : Glob} {r r' : RS} (e : Grow r r') {d : D} {v : V} (h : LamC G r d v) : LamC G r' d v :=
  h.imp (·.grow e) fun q => q.imp (·.grow e) fun ⟨g, a, b⟩ => ⟨g, a, b.grow e⟩
/-- what a slot holds -/
def RepS (G : Glob) (r : RS) (i : Nat) (d : D) (v : V) : Prop := (i ∉ G.F.ls ∧ Rep G r d v) ∨ (i ∈ G.F.ls ∧ LamC G r d v)
theorem RepS.grow {G : Glob} {r r' : RS} (e : Grow r r') {i : Nat} {d : D} {v : V} (h : RepS G r i d v) : RepS G r' i d v := h.imp (fun q => ⟨q.1, q.2.grow e⟩) fun q => ⟨q.1, q.2.grow e⟩
/-- the slots that stay as they are -/
def Glob.cs (G : Glob) : List Nat := G.F.cap.map (·.1)
/-- the slots -/
structure RSt (G : Glob) (r : RS) (σ : Env) (σV : L2.St) : Prop where
  len : σV.length = σ.length
  get : ∀ (i : Nat) (d : D), σ[i]? = some (some d) → ∃ v, σV[i]? = some (some v) ∧ RepS G r i d v
  cap : ∀ p ∈ G.F.cap, σV[p.1]? = some p.2
theorem RSt.grow {G : Glob} {r r' : RS} (e : Grow r r') {σ : Env} {σV : L2.St} (h : RSt G r σ σV) : RSt G r' σ σV :=
  ⟨h.len, fun i d q => let ⟨v, a, b⟩ := h.get i d q; ⟨v, a, b.grow e⟩, h.cap⟩
theorem RSt.ext {G : Glob} {r r' : RS} (e : Ext r r') {σ : Env} {σV : L2.St} (h : RSt G r σ σV) : RSt G r' σ σV := h.grow e.toGrow
theorem RSt.capSet {G : Glob} {r : RS} {σ : Env} {σV : L2.St} (h : RSt G r σ σV) {i : Nat} {o : Option V} (hc : i ∉ G.cs) : ∀ p ∈ G.F.cap, (σV.set i o)[p.1]? = some p.2 := fun p hp => by
  rw [List.getElem?_set_ne fun z => hc (by rw [z]; exact List.mem_map_of_mem hp)]
  exact h.cap p hp
theorem RSt.setS {G : Glob} {r : RS} {σ : Env} {σV : L2.St} (h : RSt G r σ σV) {d : D} {v : V} (i : Nat) (q : RepS G r i d v) (hc : i ∉ G.cs) : RSt G r (σ.set i (some d)) (σV.set i (some v)) := by
  refine ⟨by simpa using h.len, fun j e hj => ?_, h.capSet hc⟩
  by_cases hij : i = j
  · subst hij
    by_cases hl : i < σ.length
    · rw [List.getElem?_set_self hl] at hj
      have : d = e := by simpa using hj
      subst this
      exact ⟨v, by rw [List.getElem?_set_self (by rw [h.len]; exact hl)], q⟩
    · rw [List.getElem?_eq_none (by simpa using hl)] at hj; cases hj
  · rw [List.getElem?_set_ne hij] at hj
    obtain ⟨w, a, b⟩ := h.get j e hj
    exact ⟨w, by rw [List.getElem?_set_ne hij]; exact a, b⟩
theorem RSt.set {G : Glob} {r : RS} {σ : Env} {σV : L2.St} (h : RSt G r σ σV) {d : D} {v : V} (q : Rep G r d v) (i : Nat) (hi : i ∉ G.F.ls) (hc : i ∉ G.cs) : RSt G r (σ.set i (some d)) (σV.set i (some v)) := h.setS i (.inl ⟨hi, q⟩) hc
theorem RSt.setNone {G : Glob} {r : RS} {σ : Env} {σV : L2.St} (h : RSt G r σ σV) (i : Nat) (hc : i ∉ G.cs) : RSt G r (σ.set i none) (σV.set i none) := by
  refine ⟨by simpa using h.len, fun j e hj => ?_, h.capSet hc⟩
  by_cases hij : i = j
  · subst hij
    by_cases hl : i < σ.length
    · rw [List.getElem?_set_self hl] at hj; cases hj
    · rw [List.getElem?_eq_none (by simpa using hl)] at hj; cases hj
  · rw [List.getElem?_set_ne hij] at hj
    obtain ⟨w, a, b⟩ := h.get j e hj
    exact ⟨w, by rw [List.getElem?_set_ne hij]; exact a, b⟩
theorem RSt.wipe {G : Glob} {r : RS} {σ : Env} {σV : L2.St} (h : RSt G r σ σV) : ∀ vs : List Nat, (∀ v ∈ vs, v ∉ G.cs) → RSt G r (wipeD σ vs) (L2.wipe σV vs)
  | [], _ => h
  | v :: vs, hc => (RSt.wipe h vs fun w hw => hc w (.tail _ hw)).setNone v (hc v (.head _))

/-! ### new things -/
section
variable {G : Glob} {r : RS} {S : Store}
/-- a thing laid at a new place, settled -/
def RS.put (r : RS) (p : Addr) (o : HO) : RS := { r with H := upd r.H p o }
theorem tabs_wr {T : List (Addr × Str)} {H : Hp} {a : Addr} {o : HO} {xs : List V} (t : Tabs T H) (h : H a = some (.lst xs)) (n : ∀ p ∈ T, p.1 ≠ a) : Tabs T (upd H a o) := fun p hp => by
  obtain ⟨ps, h1, h2, h3⟩ := t p hp
  refine ⟨ps, by rw [upd_ne (n p hp)]; exact h1, h2, fun pos cv hc => ?_⟩
  obtain ⟨c, e1, e2⟩ := h3 pos cv hc
  refine ⟨c, e1, ?_⟩
  rw [upd_ne fun z => ?_]
  · exact e2
  · rw [z, h] at e2
    unfold CodeO at e2
    cases e2
theorem Rl.tabNe (l : Rl G r S) {p : Addr × Str} (hp : p ∈ G.T) : r.H p.1 ≠ none := by
  obtain ⟨ps, h, _⟩ := l.tabs p hp
  rw [h]
  intro z
  cases z
theorem Ext.put (l : Rl G r S) {p : Addr} (hp : r.H p = none) (o : HO) : Ext r (r.put p o) := by
  refine ⟨⟨fun _ _ h => h, fun _ _ h => h, fun a u h z _ => ⟨?_, z⟩, fun _ _ h => h⟩, fun a u h z n _ => ⟨?_, z, n⟩⟩
  · show upd r.H p o a = some u
    rw [upd_ne (ne_of_none h hp)]; exact h
  · show upd r.H p o a = some u
    rw [upd_ne (ne_of_none h hp)]; exact h
theorem Rl.noZ (l : Rl G r S) {p : Addr} (hp : r.H p = none) : ¬ r.Z p := fun z => l.zH p z hp
theorem Rl.put (l : Rl G r S) {p : Addr} (hp : r.H p = none) (o : HO) : Rl G (r.put p o) S := by
  have e := Ext.put l hp o
  have at_ : ∀ {a : Addr} {u : HO}, r.H a = some u → (r.put p o).H a = some u := fun {a u} h => by
    show upd r.H p o a = some u
    rw [upd_ne (ne_of_none h hp)]; exact h
  refine ⟨l.len, l.klen, l.nd, l.inZ, fun a z => ?_, fun n xs h => ?_, tabs_new l.tabs hp, l.tabN, fun a z => ?_⟩
  · have h := l.zH a z
    show upd r.H p o a ≠ none
    have : a ≠ p := fun q => h (by rw [q]; exact hp)
    rw [upd_ne this]; exact h
  · obtain ⟨a, k, h1, h2, h3⟩ := l.obj n xs h
    exact ⟨a, k, h1, h2, h3.grow e.toGrow fun u hu => at_ hu⟩
  · exact (l.zT a z).imp (fun ⟨u, q, t⟩ => ⟨u, at_ q, t⟩) id
theorem put_at {p : Addr} {o : HO} : (r.put p o).H p = some o := upd_same
/-- a changeable thing laid at a new place -/
def RS.new (r : RS) (p : Addr) (o : HO) (k : Kd) : RS := { r with H := upd r.H p o, mu := r.mu ++ [p], kd := r.kd ++ [k], Z := fun a => r.Z a ∨ a = p }
theorem Ext.new (l : Rl G r S) {p : Addr} (hp : r.H p = none) (o : HO) (k : Kd) : Ext r (r.new p o k) := by
  refine ⟨⟨fun n a h => ?_, fun n a h => ?_, fun a u h z _ => ⟨?_, fun q => ?_⟩, fun _ _ h => h⟩, fun a u h z n _ => ⟨?_, .inl z, ?_⟩⟩
  · show (r.mu ++ [p])[n]? = some a
    rw [List.getElem?_append_left (List.getElem?_eq_some_iff.mp h).1]; exact h
  · show (r.kd ++ [k])[n]? = some a
    rw [List.getElem?_append_left (List.getElem?_eq_some_iff.mp h).1]; exact h
  · show upd r.H p _ a = some u
    rw [upd_ne (ne_of_none h hp)]; exact h
  · rcases q with q | q
    · exact z q
    · exact ne_of_none h hp q
  · show upd r.H p _ a = some u
    rw [upd_ne (ne_of_none h hp)]; exact h
  · show a ∉ r.mu ++ [p]
    rw [List.mem_append]
    rintro (q | q)
    · exact n q
    · exact ne_of_none h hp (by simpa using q)
theorem Rl.newO (l : Rl G r S) {p : Addr} (hp : r.H p = none) {o : HO} {k : Kd} (ho : NoX o) {xs : List D} (q : ObR G (r.new p o k) p xs k) : Rl G (r.new p o k) (S ++ [xs]) := by
  have e := Ext.new l hp o k
  have np : p ∉ r.mu := fun m => l.zH p (l.inZ p m) hp
  have at_ : ∀ {a : Addr} {u : HO}, r.H a = some u → (r.new p o k).H a = some u := fun {a u} h => by
    show upd r.H p o a = some u
    rw [upd_ne (ne_of_none h hp)]; exact h
  refine ⟨by simp [RS.new, l.len], by simp [RS.new, l.klen], ?_, fun a m => ?_, fun a z => ?_, fun n ys h => ?_, tabs_new l.tabs hp, fun q hq => ⟨.inl (l.tabN q hq).1, fun m => ?_⟩, fun a z => ?_⟩
  · show (r.mu ++ [p]).Nodup
    rw [List.nodup_append]
    refine ⟨l.nd, by simp, fun a ha b hb => ?_⟩
    have : b = p := by simpa using hb
    subst this
    intro z; subst z; exact np ha
  · have m' : a ∈ r.mu ++ [p] := m
    rw [List.mem_append] at m'
    rcases m' with m' | m'
    · exact .inl (l.inZ a m')
    · exact .inr (by simpa using m')
  · show upd r.H p _ a ≠ none
    by_cases ha : a = p
    · subst ha; rw [upd_same]; intro q; cases q
    · rw [upd_ne ha]
      rcases z with z | z
      · exact l.zH a z
      · exact absurd z ha
  · by_cases hn : n < S.length
    · rw [List.getElem?_append_left hn] at h
      obtain ⟨a, k', h1, h2, h3⟩ := l.obj n ys h
      refine ⟨a, k', e.mu n a h1, e.kd n k' h2, h3.grow e.toGrow fun u hu => at_ hu⟩
    · have hn' : n = S.length := by
        have := (List.getElem?_eq_some_iff.mp h).1
        simp at this; omega
      subst hn'
      rw [List.getElem?_append_right (Nat.le_refl _)] at h
      have : xs = ys := by simpa using h
      subst this
      refine ⟨p, k, ?_, ?_, q⟩
      · show (r.mu ++ [p])[S.length]? = some p
        rw [← l.len, List.getElem?_append_right (Nat.le_refl _)]; simp
      · show (r.kd ++ [k])[S.length]? = some k
        rw [← l.klen, List.getElem?_append_right (Nat.le_refl _)]; simp
  · have m' : q.1 ∈ r.mu ++ [p] := m
    rcases List.mem_append.mp m' with m' | m'
    · exact (l.tabN q hq).2 m'
    · exact l.tabNe hq (by rw [List.mem_singleton.mp m']; exact hp)
  · by_cases ha : a = p
    · refine .inl ⟨o, ?_, ho⟩
      show upd r.H p _ a = _
      rw [ha, upd_same]
    · rcases z with z | z
      · exact (l.zT a z).imp (fun ⟨u, w, t⟩ => ⟨u, at_ w, t⟩) id
      · exact absurd z ha
theorem Rl.new (l : Rl G r S) {p : Addr} (hp : r.H p = none) {xs : List D} {vs : List V} (q : Reps G r xs vs) : Rl G (r.new p (.lst vs) .lst) (S ++ [xs]) :=
  l.newO hp nx_lst ⟨vs, upd_same, q.ext (Ext.new l hp _ _)⟩
/-- the place of the newest one -/
theorem new_mu (l : Rl G r S) {p : Addr} {o : HO} {k : Kd} : (r.new p o k).mu[S.length]? = some p := by
  show (r.mu ++ [p])[S.length]? = some p
  rw [← l.len, List.getElem?_append_right (Nat.le_refl _)]; simp
theorem new_kd (l : Rl G r S) {p : Addr} {o : HO} {k : Kd} : (r.new p o k).kd[S.length]? = some k := by
  show (r.kd ++ [k])[S.length]? = some k
  rw [← l.klen, List.getElem?_append_right (Nat.le_refl _)]; simp
/-- a changeable thing is changed -/
def RS.wrO (r : RS) (a : Addr) (o : HO) : RS := { r with H := upd r.H a o }
def RS.wr (r : RS) (a : Addr) (vs : List V) : RS := r.wrO a (.lst vs)
theorem Ext.wrO (l : Rl G r S) {a : Addr} (ha : a ∈ r.mu) (o : HO) : Ext r (r.wrO a o) := by
  refine ⟨⟨fun _ _ h => h, fun _ _ h => h, fun b u h z _ => ⟨?_, z⟩, fun _ _ h => h⟩, fun b u h z n _ => ⟨?_, z, n⟩⟩
  · show upd r.H a _ b = some u
    rw [upd_ne (fun q => z (by rw [q]; exact l.inZ a ha))]; exact h
  · show upd r.H a _ b = some u
    rw [upd_ne (fun q => n (by rw [q]; exact ha))]; exact h
theorem Ext.wr (l : Rl G r S) {a : Addr} (ha : a ∈ r.mu) (vs : List V) : Ext r (r.wr a vs) := Ext.wrO l ha _
theorem tabs_wrO {T : List (Addr × Str)} {H : Hp} {a : Addr} {o : HO} (t : Tabs T H) (h : ∀ q, H a ≠ some (CodeO a q)) (n : ∀ p ∈ T, p.1 ≠ a) : Tabs T (upd H a o) := fun p hp => by
  obtain ⟨ps, h1, h2, h3⟩ := t p hp
  refine ⟨ps, by rw [upd_ne (n p hp)]; exact h1, h2, fun pos cv hc => ?_⟩
  obtain ⟨c, e1, e2⟩ := h3 pos cv hc
  refine ⟨c, e1, ?_⟩
  rw [upd_ne fun z => ?_]
  · exact e2
  · subst z
    exact h _ e2
theorem Rl.wrO (l : Rl G r S) {n : Nat} {a : Addr} (ha : r.mu[n]? = some a) {k : Kd} (hk : r.kd[n]? = some k) {o : HO} (ho : NoX o) {xs : List D} (q : ObR G (r.wrO a o) a xs k) : Rl G (r.wrO a o) (S.set n xs) := by
  have am : a ∈ r.mu := List.mem_of_getElem? ha
  have e := Ext.wrO l am o
  have hn : n < S.length := by rw [← l.len]; exact (List.getElem?_eq_some_iff.mp ha).1
  have old : ∀ q, r.H a ≠ some (CodeO a q) := fun q => by
    obtain ⟨a', k', k1, k2, k3⟩ := l.obj n S[n] (List.getElem?_eq_getElem hn)
    rw [ha] at k1
    cases k1
    exact ObR.not_code (k := k') k3
  refine ⟨by simpa [RS.wrO] using l.len, by simpa [RS.wrO] using l.klen, l.nd, l.inZ, fun b z => ?_, fun m ys h => ?_, tabs_wrO l.tabs old fun p hp w => (l.tabN p hp).2 (by rw [w]; exact am), l.tabN, fun b z => ?_⟩
  · show upd r.H a _ b ≠ none
    by_cases hb : b = a
    · subst hb; rw [upd_same]; intro q; cases q
    · rw [upd_ne hb]; exact l.zH b z
  · by_cases hm : n = m
    · subst hm
      rw [List.getElem?_set_self hn] at h
      have : xs = ys := by simpa using h
      subst this
      exact ⟨a, k, ha, hk, q⟩
    · rw [List.getElem?_set_ne hm] at h
      obtain ⟨b, k', h1, h2, h3⟩ := l.obj m ys h
      have hb : b ≠ a := fun z => by
        subst z
        obtain ⟨hn', e1⟩ := List.getElem?_eq_some_iff.mp ha
        obtain ⟨hm', e2⟩ := List.getElem?_eq_some_iff.mp h1
        exact hm ((List.getElem_inj l.nd).mp (e1.trans e2.symm))
      refine ⟨b, k', h1, h2, h3.grow e.toGrow fun u hu => ?_⟩
      show upd r.H a _ b = _
      rw [upd_ne hb]; exact hu
  · by_cases hb : b = a
    · refine .inl ⟨o, ?_, ho⟩
      show upd r.H a _ b = _
      rw [hb, upd_same]
    · refine (l.zT b z).imp (fun ⟨u, w, t⟩ => ⟨u, ?_, t⟩) id
      show upd r.H a _ b = _
      rw [upd_ne hb]
      exact w
theorem Rl.wr (l : Rl G r S) {n : Nat} {a : Addr} (ha : r.mu[n]? = some a) (hk : r.kd[n]? = some .lst) {xs : List D} {vs : List V} (q : Reps G r xs vs) : Rl G (r.wr a vs) (S.set n xs) :=
  l.wrO ha hk nx_lst ⟨vs, upd_same, q.ext (Ext.wr l (List.mem_of_getElem? ha) vs)⟩
end

/-! ### what is wanted behind a step -/
/-- o's end is good: Q holds of what it gives, wherever that stands -/
def Post {α β : Type} (G : Glob) (rel : RS → α → β → Prop) (W : WX) (σV : L2.St) (r : RS) (o : Out α) (Q : β → Hp → Prop) : Prop := match o with
  | .ok a S => ∀ b r', Ext r r' → Rl G r' S → rel r' a b → Q b r'.H
  | .exc x S => ∀ cls dd r', Ext r r' → Rl G r' S → RepX G r' x cls dd → W cls dd σV r'.H
  | .bad => False
theorem Post.mono {α β : Type} {G : Glob} {rel : RS → α → β → Prop} {W : WX} {σV : L2.St} {r : RS} {o : Out α} {Q Q' : β → Hp → Prop} (h : Post G rel W σV r o Q) (q : ∀ b H, Q b H → Q' b H) : Post G rel W σV r o Q' := by
  cases o with
  | ok a S => exact fun b r' e l z => q b _ (h b r' e l z)
  | exc x S => exact h
  | bad => exact h
theorem Post.from {α β : Type} {G : Glob} {rel : RS → α → β → Prop} {W : WX} {σV : L2.St} {r r1 : RS} {o : Out α} {Q : β → Hp → Prop} (e : Ext r r1) (h : Post G rel W σV r o Q) : Post G rel W σV r1 o Q := by
  cases o with
  | ok a S => exact fun b r' e' l z => h b r' (e.trans e') l z
  | exc x S => exact fun c d r' e' l z => h c d r' (e.trans e') l z
  | bad => exact h
theorem Post.bind {α β γ δ : Type} {G : Glob} {rel : RS → α → β → Prop} {rel2 : RS → γ → δ → Prop} {W : WX} {σV : L2.St} {r : RS} {o : Out α} {f : α → Store → Out γ} {Q : δ → Hp → Prop} (h : Post G rel2 W σV r (o.bind f) Q) :
    Post G rel W σV r o fun b H1 => ∃ a S r1, r1.H = H1 ∧ Ext r r1 ∧ Rl G r1 S ∧ rel r1 a b ∧ Post G rel2 W σV r1 (f a S) Q := by
  cases o with
  | ok a S => exact fun b r' e l z => ⟨a, S, r', rfl, e, l, z, Post.from e h⟩
  | exc x S => exact h
  | bad => exact h
/-- the answer at hand -/
theorem Post.here {α β : Type} {G : Glob} {rel : RS → α → β → Prop} {W : WX} {σV : L2.St} {r : RS} {a : α} {S : Store} {Q : β → Hp → Prop} (h : Post G rel W σV r (.ok a S) Q) (l : Rl G r S) {b : β} (z : rel r a b) : Q b r.H := h b r (Ext.refl r) l z

/-! ### readings -/
def RT (_ : RS) (a b : Bool) : Prop := a = b
section
variable (G : Glob) (W : WX)
def tX {α β : Type} (rel : RS → α → β → Prop) (f : Env → Store → Out α) : L2.St → Hp → (β → Hp → Prop) → Prop := fun σV H Q =>
  ∃ σ S r, r.H = H ∧ Rl G r S ∧ RSt G r σ σV ∧ Post G rel W σV r (f σ S) Q
def tD (f : Env → Store → Out D) : TE := tX G W (Rep G) f
def tT (f : Env → Store → Out Bool) : TT := tX G W RT f
def tDs (f : Env → Store → Out (List D)) : TA := tX G W (Reps G) f
end
theorem PE.mono {X : Cx} {e : Expr} {t t' : TE} (h : PE X e t) (q : ∀ σ H Q, t' σ H Q → t σ H Q) : PE X e t' := ⟨fun pins s σ H Q I z => h.run pins s σ H Q I (q σ H Q z)⟩
theorem PT.mono {X : Cx} {e : Expr} {t t' : TT} (h : PT X e t) (q : ∀ σ H Q, t' σ H Q → t σ H Q) : PT X e t' := ⟨fun pins s σ H Q I z => h.run pins s σ H Q I (q σ H Q z)⟩
theorem PW.mono {X : Cx} {e : Expr} {t t' : TT} (h : PW X e t) (q : ∀ σ H Q, t' σ H Q → t σ H Q) : PW X e t' := ⟨fun wh pins s σ H Q I z => h.run wh pins s σ H Q I (q σ H Q z)⟩
theorem PA.mono {X : Cx} {es : List Expr} {t t' : TA} (h : PA X es t) (q : ∀ σ H Q, t' σ H Q → t σ H Q) : PA X es t' := ⟨fun pos pins s σ H Q I z => h.run pos pins s σ H Q I (q σ H Q z)⟩
theorem PS.mono {X : Cx} {st : Stmt} {t t' : TS} (h : PS X st t) (q : ∀ D σ H, t' D σ H → t D σ H) : PS X st t' := ⟨fun pins s σ H D I z => h.run pins s σ H D I (q D σ H z)⟩
theorem PSs.mono {X : Cx} {st : List Stmt} {t t' : TS} (h : PSs X st t) (q : ∀ D σ H, t' D σ H → t D σ H) : PSs X st t' := ⟨fun pins s σ H D I z => h.run pins s σ H D I (q D σ H z)⟩

/-- behind a first step: the second one's reading, and what is known -/
theorem tX.step {α β γ δ : Type} {G : Glob} {W : WX} {rel : RS → α → β → Prop} {rel2 : RS → γ → δ → Prop} {f : Env → Store → Out α} {g : Env → α → Store → Out γ} {σV : L2.St} {H : Hp} {Q : δ → Hp → Prop}
    (h : tX G W rel2 (fun σ S => (f σ S).bind (g σ)) σV H Q) {R : β → Hp → Prop}
    (k : ∀ b σ a S r, Rl G r S → RSt G r σ σV → rel r a b → Post G rel2 W σV r (g σ a S) Q → R b r.H) : tX G W rel f σV H R := by
  obtain ⟨σ, S, r, e, l, s, p⟩ := h
  refine ⟨σ, S, r, e, l, s, (Post.bind p).mono fun b H1 ⟨a, S1, r1, e1, x, l1, z, p1⟩ => ?_⟩
  subst e1
  exact k b σ a S1 r1 l1 (s.ext x) z p1
end DL
end
section
set_option Elab.async false
set_option autoImplicit false
set_option linter.all false
set_option maxRecDepth 100000
set_option maxHeartbeats 2000000
/-! DLc: operators. -/
namespace DL
open PySem PySem.Spec PyProof.Rows L2

theorem fits_of {n : Nat} (h : fits n = true) : n ≤ sizeLine := by
  rw [sizeLine_eq]; exact Nat.le_of_ble_eq_true h
theorem txt_length (x : List Nat) : (txt x).length = x.length := by simp [txt, Str.length]
theorem txt_append (x y : List Nat) : txt x ++ txt y = txt (x ++ y) := by
  show Str.append (txt x) (txt y) = txt (x ++ y)
  unfold Str.append txt
  simp
theorem txt_inj {x y : List Nat} (h : txt x = txt y) : x = y := by
  unfold txt at h
  have : x.toArray = y.toArray := congrArg Str.cps h
  simpa using this
section
variable {G : Glob} {r : RS} {S : Store} {X : Cx} {pins : List (Addr × Obj)} {σ : L2.St} {s : Shared} {H : Hp}
theorem lOf_rep (l : Rl G r S) {d : D} {v : V} {xs : List D} (h : Rep G r d v) (e : lOf d S = some xs) : ∃ a vs, v = .ref a ∧ Rd r.H a (.lst vs) ∧ Reps G r xs vs := by
  cases h with
  | lst h z hs =>
    have : some _ = some xs := e
    cases this
    exact ⟨_, _, rfl, h, hs⟩
  | ref h hk =>
    obtain ⟨a, vs, h1, h2, h3⟩ := l.lst hk e
    rw [h] at h1; cases h1
    exact ⟨_, vs, rfl, .inl h2, h3⟩
  | _ => cases e
theorem seqOf_rep (l : Rl G r S) {d : D} {v : V} {xs : List D} (h : Rep G r d v) (e : seqOf d S = some xs) : ∃ a vs, v = .ref a ∧ ((Rd r.H a (.lst vs) ∧ lOf d S = some xs) ∨ (Ft G r a vs ∧ d = .tup xs)) ∧ Reps G r xs vs := by
  cases h with
  | tup h hs =>
    have : some _ = some xs := e
    cases this
    exact ⟨_, _, rfl, .inr ⟨h, rfl⟩, hs⟩
  | lst h z hs =>
    obtain ⟨a, vs, h1, h2, h3⟩ := lOf_rep l (.lst h z hs) (show lOf _ S = some xs from e)
    exact ⟨a, vs, h1, .inl ⟨h2, e⟩, h3⟩
  | ref h hk =>
    obtain ⟨a, vs, h1, h2, h3⟩ := lOf_rep l (.ref h hk) (show lOf _ S = some xs from e)
    exact ⟨a, vs, h1, .inl ⟨h2, e⟩, h3⟩
  | _ => cases e
theorem Inv.lstR {p : Addr} {xs : List V} (I : Inv X pins σ H s) (h : Rd H p (.lst xs)) :
    xs.length ≤ sizeLine ∧ ∃ (its : List Value) (n : Nat), Vals xs its ∧ xs.length = its.length ∧ s.heap.get? p = some { cls := .type "list", data := .seq its.toArray n } := by
  obtain ⟨z, its, n, r, e⟩ := h.ok I.hok
  exact ⟨z, its, n, r, r.length, e⟩
end
theorem Post.newTup {G : Glob} {r : RS} {S : Store} {W : WX} {σV : L2.St} {Q : VK} {ds : List D} {vs : List V} (p : Post G (Rep G) W σV r (.ok (.tup ds) S) Q) (l : Rl G r S) (hs : Reps G r ds vs) {q : Addr} (hq : r.H q = none) : Q (.ref q) (upd r.H q (.tup vs)) := by
  have e := Ext.put l hq (.tup vs)
  exact p (.ref q) (r.put q (.tup vs)) e (Rl.put l hq _) (.tup (.inl ⟨.inl put_at, Rl.noZ l hq⟩) (hs.ext e))
theorem Post.newLst {G : Glob} {r : RS} {S : Store} {W : WX} {σV : L2.St} {Q : VK} {ds : List D} {vs : List V} (p : Post G (Rep G) W σV r (.ok (.lst ds) S) Q) (l : Rl G r S) (hs : Reps G r ds vs) {q : Addr} (hq : r.H q = none) : Q (.ref q) (upd r.H q (.lst vs)) := by
  have e := Ext.put l hq (.lst vs)
  exact p (.ref q) (r.put q (.lst vs)) e (Rl.put l hq _) (.lst (.inl put_at) (Rl.noZ l hq) (hs.ext e))
/-- a rule of two values tells what op tells -/
def R2S (G : Glob) (X : Cx) (f : Value → Value → Sem Value) (op : D → D → Store → Out D) : Prop :=
  ∃ rr : R2, OpR X f rr ∧ ∀ (W : WX) (σV : L2.St) (x y : D) (S : Store) (r : RS) (vx vy : V) (Q : VK), Rl G r S → Rep G r x vx → Rep G r y vy → Post G (Rep G) W σV r (op x y S) Q → rr vx vy r.H Q
section
variable {X : Cx} {G : Glob}
/-- xs + ys of lists -/
def rCatR : R2 := fun x y H Q => ∃ l b xs zs, x = .ref l ∧ y = .ref b ∧ Rd H l (.lst xs) ∧ Rd H b (.lst zs) ∧ xs.length + zs.length ≤ sizeLine ∧ ∀ p, H p = none → Q (.ref p) (upd H p (.lst (xs ++ zs)))
theorem op_catR : OpR X (binaryOp .Add) rCatR := by
  intro pins s σ H x y v u Q I rx ry h
  obtain ⟨l, b, xs, zs, rfl, rfl, hH, hB, hz, q⟩ := h
  cases rx
  cases ry
  obtain ⟨z, its, n, r, hl, e⟩ := Inv.lstR I hH
  obtain ⟨z2, its2, n2, r2, hl2, e2⟩ := Inv.lstR I hB
  refine PySem.P.add_list e e2 ?_ (by rw [List.size_toArray, List.size_toArray]; omega)
  have ea : its.toArray ++ its2.toArray = (its ++ its2).toArray := by simp
  rw [ea]
  exact ⟨.ref _, _, I.lnew (t' := s.toks) (r.append r2) (by rw [List.length_append]; omega), rfl, q _ I.fresh⟩
def rRepR : R2 := fun x y H Q => ∃ l k xs, x = .ref l ∧ y = .int k ∧ Rd H l (.lst xs) ∧ -(2 ^ 63) ≤ k ∧ k < 2 ^ 63 ∧ xs.length * k.toNat ≤ sizeLine ∧
  ∀ p, H p = none → Q (.ref p) (upd H p (.lst (List.replicate k.toNat xs).flatten))
theorem op_repR : OpR X (binaryOp .Mult) rRepR := by
  intro pins s σ H x y v u Q I rx ry h
  obtain ⟨l, k, xs, rfl, rfl, hH, h1, h2, hz, q⟩ := h
  cases rx
  obtain ⟨t, rfl⟩ := ry
  obtain ⟨z, its, n, r, hl, e⟩ := Inv.lstR I hH
  have hlen : its.toArray.size * k.toNat ≤ sizeLine := by rw [List.size_toArray, ← hl]; exact hz
  have hcap : ¬ its.toArray.size * k.toNat > (2 ^ 63 - 1) / 8 := by
    have : (sizeLine : Nat) ≤ (2 ^ 63 - 1) / 8 := by decide
    omega
  have hfit : ¬ (!Builtin.List.listFitsIndex k) = true := by
    rw [fitsIndex_both h1 h2]
    exact Bool.false_ne_true
  have hlong : ¬ Builtin.List.listTooLong (its.toArray.size * k.toNat) = true := by
    rw [notLongL hlen]
    exact Bool.false_ne_true
  have hnew : List.foldl (fun x1 x2 => x1 ++ x2) #[] (List.replicate (if its.toArray.isEmpty = true then 0 else k.toNat) its.toArray) = (List.replicate k.toNat its).flatten.toArray := by
    have f0 : ∀ m : Nat, List.foldl (fun x1 x2 => x1 ++ x2) #[] (List.replicate m its.toArray) = (List.replicate m its).flatten.toArray := fun m => by
      have := foldl_rep its m []
      rw [List.nil_append] at this
      exact this
    rw [f0]
    cases its with
    | nil => simp
    | cons a r' => rw [if_neg (by simp)]
  refine wpAny_binaryOp_repeat_ref (T := "list") (U := "int") (by decide) ⟨_, e, rfl⟩ (fun s' => typeIs_int s' k t) noFill_list_mul F.fills_int_mul F.slot_int_rmul repeat_list F.slot_int_index.lookup
    (call_meets F.slot_int_rmul (typeIs_int s k t) F.entry_int_rmul (F.args_int_rmul_2 _ _) (int___rmul___int_list k t l its.toArray n)
      ⟨e, rfl, ⟨_, e, rfl⟩, call_meets F.slot_list_mul ⟨_, e, rfl⟩ F.entry_list_mul (F.args_list_mul_2 _ _) (AutoListH.list___mul___list_int_3 l its.toArray n k t hfit hcap hlong) ⟨e, ?_⟩⟩)
  rw [hnew]
  exact ⟨.ref _, _, I.lnew (t' := s.toks) (r.rep k.toNat) (by rw [PyProof.Rows.lm_len_rep_flat, Nat.mul_comm]; exact hz), rfl, q _ I.fresh⟩
/-! t * k: the same tuple for 1 or an empty one, the empty one for 0 or less -/
open PySem.AutoSeq1 (wpAny_loadPart')
theorem tuple_mul_same (l : Addr) (items : Array Value) (n : Nat) (dd : Option Addr) (sl : Array (Option Value)) (x : Int) (u : Tok) (c0 : (decide (x < -(2 ^ 63)) || decide (x ≥ 2 ^ 63)) = false) (c1 : (items.isEmpty || x == 1) = true) :
    Meets (Builtin.«tuple.__mul__» ⟨[.ref l, .int x u], []⟩) (fun _ R s => s.heap.get? l = some { cls := .type "tuple", dict := dd, data := .seq items n, slots := sl } ∧ R (.ok (.ret (Value.ref l))) s) :=
  .of_wp fun prog w A R s h => by
    obtain ⟨hp, g, d, tk, os⟩ := s
    obtain ⟨hl, h⟩ := h
    have f1 := AutoSeq1.idx_int
    wp_walk using wpAny_loadPart' hl
    repeat (first
      | (refine wpAny_ite_false (decide_eq_false (by rw [c0]; exact Bool.false_ne_true)) ?_; wp_walk using wpAny_loadPart' hl)
      | (refine wpAny_ite_true (decide_eq_true c1) ?_; wp_walk using wpAny_loadPart' hl))
    exact ⟨_, rfl, h⟩
theorem tuple_mul_none (l : Addr) (items : Array Value) (n : Nat) (dd : Option Addr) (sl : Array (Option Value)) (x : Int) (u : Tok) (c0 : (decide (x < -(2 ^ 63)) || decide (x ≥ 2 ^ 63)) = false) (c1 : (items.isEmpty || x == 1) = false) (c2 : (decide (x ≤ 0) || items.isEmpty) = true) :
    Meets (Builtin.«tuple.__mul__» ⟨[.ref l, .int x u], []⟩) (fun _ R s => s.heap.get? l = some { cls := .type "tuple", dict := dd, data := .seq items n, slots := sl } ∧
      R (.ok (.ret (Value.ref s.heap.objs.size))) { s with heap := s.heap.push { cls := Value.type "tuple", data := Data.seq #[] }, toks := s.toks }) :=
  .of_wp fun prog w A R s h => by
    obtain ⟨hp, g, d, tk, os⟩ := s
    obtain ⟨hl, h⟩ := h
    have f1 := AutoSeq1.idx_int
    wp_walk using wpAny_loadPart' hl
    repeat (first
      | (refine wpAny_ite_false (decide_eq_false (by rw [c0]; exact Bool.false_ne_true)) ?_; wp_walk using wpAny_loadPart' hl)
      | (refine wpAny_ite_false (decide_eq_false (by rw [c1]; exact Bool.false_ne_true)) ?_; wp_walk using wpAny_loadPart' hl)
      | (refine wpAny_ite_true (decide_eq_true c2) ?_; wp_walk using wpAny_loadPart' hl))
    all_goals exact ⟨_, rfl, h⟩
end
end DL
end
section
set_option Elab.async false
set_option autoImplicit false
set_option linter.all false
set_option maxRecDepth 100000
set_option maxHeartbeats 2000000
/-! DLd: binary operators. -/
namespace DL
open PySem PySem.Spec PyProof.Rows L2
section
variable {X : Cx} {G : Glob}
def rRepA (K : PySem.W.Frag) : R2 := fun x y H Q => ∃ l k xs, x = .ref l ∧ y = .int k ∧ SqT K H l xs ∧ -1000 ≤ k ∧ k ≤ 1000 ∧ xs.length ≤ 1000 ∧ (∀ p, H p = none → Q (.ref p) (upd H p (.tup (List.replicate k.toNat xs).flatten))) ∧ ((xs = [] ∨ k = 1) → Q (.ref l) H)
theorem op_repA : OpR X (binaryOp .Mult) (rRepA X.K) := by
  intro pins s σ H x y v u Q I rx ry h
  obtain ⟨l, k, xs, rfl, rfl, hT, h1, h2, hz, q, q1⟩ := h
  by_cases hs : xs = [] ∨ k = 1
  · cases rx
    obtain ⟨t, rfl⟩ := ry
    obtain ⟨its, r, ⟨⟨cls, dd, data, sl⟩, ho, hc, n, hd⟩, _⟩ := I.tuple hT
    simp only at hc hd
    subst hc hd
    have c0 : (decide (k < -(2 ^ 63)) || decide (k ≥ 2 ^ 63)) = false := by
      rw [decide_eq_false (by omega), decide_eq_false (by omega)] <;> rfl
    have c1 : (its.toArray.isEmpty || k == 1) = true := by
      rcases hs with hs | hs
      · subst hs; cases r; rfl
      · subst hs; simp
    exact wpAny_binaryOp_repeat_ref (T := "tuple") (U := "int") (by decide) ⟨_, ho, rfl⟩ (fun s' => typeIs_int s' k t) noFill_tuple_mul F.fills_int_mul F.slot_int_rmul repeat_tuple F.slot_int_index.lookup
      (call_meets F.slot_int_rmul (typeIs_int s k t) F.entry_int_rmul (F.args_int_rmul_2 _ _) (int_rmul_tuple k t l its.toArray n dd sl)
        ⟨ho, rfl, ⟨_, ho, rfl⟩, call_meets F.slot_tuple_mul ⟨_, ho, rfl⟩ F.entry_tuple_mul (F.args_tuple_mul_2 _ _) (tuple_mul_same l its.toArray n dd sl k t c0 c1) ⟨ho, ⟨.ref l, H, I, rfl, q1 hs⟩⟩⟩)
  · have hne : xs ≠ [] := fun e => hs (.inl e)
    by_cases h3 : 2 ≤ k
    · exact op_repT pins s σ H _ _ v u Q I rx ry ⟨l, k, xs, rfl, rfl, hT, hne, h3, h2, hz, q⟩
    · have hk : k ≤ 0 := by
        have : k ≠ 1 := fun e => hs (.inr e)
        omega
      cases rx
      obtain ⟨t, rfl⟩ := ry
      obtain ⟨its, r, ⟨⟨cls, dd, data, sl⟩, ho, hc, n, hd⟩, _⟩ := I.tuple hT
      simp only at hc hd
      subst hc hd
      have c0 : (decide (k < -(2 ^ 63)) || decide (k ≥ 2 ^ 63)) = false := by
        rw [decide_eq_false (by omega), decide_eq_false (by omega)] <;> rfl
      have c1 : (its.toArray.isEmpty || k == 1) = false := by
        have e1 : its.toArray.isEmpty = false := by
          cases its with
          | nil => cases r; exact absurd rfl hne
          | cons a b => rfl
        rw [e1, Bool.false_or]
        exact beq_eq_false_iff_ne.mpr (by omega)
      have c2 : (decide (k ≤ 0) || its.toArray.isEmpty) = true := by rw [decide_eq_true hk] <;> rfl
      have e0 : k.toNat = 0 := by omega
      have qq := q s.heap.objs.size (I.hok.fresh (Nat.le_refl _))
      rw [e0] at qq
      have qq : Q (.ref s.heap.objs.size) (upd H s.heap.objs.size (.tup [])) := qq
      refine wpAny_binaryOp_repeat_ref (T := "tuple") (U := "int") (by decide) ⟨_, ho, rfl⟩ (fun s' => typeIs_int s' k t) noFill_tuple_mul F.fills_int_mul F.slot_int_rmul repeat_tuple F.slot_int_index.lookup
        (call_meets F.slot_int_rmul (typeIs_int s k t) F.entry_int_rmul (F.args_int_rmul_2 _ _) (int_rmul_tuple k t l its.toArray n dd sl)
          ⟨ho, rfl, ⟨_, ho, rfl⟩, call_meets F.slot_tuple_mul ⟨_, ho, rfl⟩ F.entry_tuple_mul (F.args_tuple_mul_2 _ _) (tuple_mul_none l its.toArray n dd sl k t c0 c1 c2) ⟨ho, ?_⟩⟩)
      refine ⟨.ref s.heap.objs.size, _, I.laid (t' := s.toks) (o := .tup []) (fun b ob q => Heap.get?_push_of_some _ q) (Nat.le_refl _) ?_, rfl, qq⟩
      exact ⟨Nat.zero_le _, [], .nil, IsTup.new _ _⟩
theorem rep_eq (xs : List D) : ∀ n, rep xs n = (List.replicate n xs).flatten
  | 0 => rfl
  | n + 1 => by rw [rep, rep_eq xs n, List.replicate_succ, List.flatten_cons]
theorem Reps.rep {r : RS} {ds : List D} {vs : List V} (h : Reps G r ds vs) : ∀ n, Reps G r (rep ds n) (List.replicate n vs).flatten
  | 0 => .nil
  | n + 1 => by
    rw [List.replicate_succ, List.flatten_cons]
    exact h.append (Reps.rep h n)
/-- s * k -/
theorem op_repS : OpR X (binaryOp .Mult) (fun x y H Q => ∃ (z : List Nat) (k : Int), x = .str (txt z) ∧ y = .int k ∧ 0 ≤ k ∧ k ≤ 10000 ∧ z.length ≤ 1 ∧ Q (.str (txt (repN z k.toNat))) H) := by
  intro pins s σ H x y v u Q I rx ry h
  obtain ⟨z, k, rfl, rfl, h0, h1, hz, q⟩ := h
  obtain ⟨t, rfl⟩ := rx
  obtain ⟨t', rfl⟩ := ry
  have hl := txt_length z
  refine SB.mul ⟨?_, fun a b => ?_, fun a b => ?_⟩ fun t2 kk => ?_
  · rw [decide_eq_false (by omega), decide_eq_false (by omega)] <;> rfl
  · rw [hl]
    intro c
    have h3 : (1 : Int) ≤ (2 ^ 63 - 1) / k := Int.le_ediv_of_mul_le (by omega) (by omega)
    omega
  · rw [hl]
    unfold Builtin.Str.tooLong
    have : z.length * k.toNat ≤ 1 * 10000 := Nat.mul_le_mul hz (by omega)
    have e := sizeLine_eq
    exact decide_eq_false (by omega)
  · have e : Txt.mul (txt z) k = txt (repN z k.toNat) := by
      unfold Txt.mul
      by_cases a : k < 1
      · rw [if_pos a]
        have : k.toNat = 0 := by omega
        rw [this]; rfl
      · rw [if_neg a]
        by_cases b : (k == 1 || (txt z).length == 0) = true
        · rw [if_pos b]
          rw [Bool.or_eq_true] at b
          rcases b with b | b
          · have : k = 1 := beq_iff_eq.mp b
            subst this
            show txt z = txt (repN z 1)
            simp [repN]
          · have : z.length = 0 := by rw [← hl]; exact beq_iff_eq.mp b
            have ez : z = [] := List.eq_nil_of_length_eq_zero this
            subst ez
            have : ∀ n, repN [] n = [] := fun n => by induction n with
              | zero => rfl
              | succ n ih => simp [repN, ih]
            rw [this]
        · rw [if_neg b]
          unfold txt
          congr 1
          have f0 : ∀ (m : Nat) (acc : List Nat), List.foldl (fun (x1 x2 : Array Nat) => x1 ++ x2) acc.toArray (List.replicate m z.toArray) = (acc ++ repN z m).toArray := by
            intro m
            induction m with
            | zero => intro acc; simp [repN]
            | succ m ih =>
              intro acc
              rw [List.replicate_succ, List.foldl_cons]
              have : acc.toArray ++ z.toArray = (acc ++ z).toArray := by simp
              rw [this, ih (acc ++ z), repN, List.append_assoc]
          have := f0 k.toNat []
          simpa using this
    rw [e]
    exact ⟨.str _, H, I.tok _, ⟨_, rfl⟩, q⟩
def CDivX (_ j : Int) : Prop := j ≠ 0 ∧ j.natAbs.log2 < 9000
theorem op_fdivX : OpR X (binaryOp .FloorDiv) (rI CDivX fun i j => .int (i.fdiv j)) := opI fun _ _ _ _ _ _ _ hc q => floordiv_int hc.1 q (.inl (PyProof.noPylong_of_log2 hc.2))
def CPowX (i j : Int) : Prop := 0 ≤ j ∧ j ≤ 1000 ∧ i.natAbs.log2 < 1000
theorem op_powX : OpR X (binaryOp .Pow) (rI CPowX fun i j => .int (i ^ j.toNat)) := opI fun i j _ _ _ _ _ hc q => by
  refine pow_int hc.1 ?_ q
  have b : Builtin.Int.intBits i ≤ i.natAbs.log2 + 1 := by
    unfold Builtin.Int.intBits
    split <;> omega
  have h1 := hc.2.2
  have h2 : ((Builtin.Int.intBits i : Nat) : Int) ≤ 1000 := by omega
  have h3 : ((Builtin.Int.intBits i : Nat) : Int) * j ≤ 1000 * 1000 := Int.mul_le_mul h2 hc.2.1 hc.1 (by omega)
  omega

theorem isOk {n m : Nat} (h : Nat.ble n m = true) : n ≤ m := Nat.le_of_ble_eq_true h

theorem r2_add (hK : X.K = G.K) : R2S G X (binaryOp .Add) opAdd := by
  refine ⟨_, op_add.or (op_add_str.or (op_catA.or op_catR)), fun W σV x y S r vx vy Q l hx hy p => ?_⟩
  rw [hK]
  have lists : ∀ {xs ys : List D}, lOf x S = some xs → lOf y S = some ys → Post G (Rep G) W σV r (if fits (xs.length + ys.length) then .ok (.lst (xs ++ ys)) S else .bad) Q → rCatR vx vy r.H Q := fun {xs ys} ex ey p => by
    obtain ⟨a, vs, rfl, ra, sa⟩ := lOf_rep l hx ex
    obtain ⟨b, ws, rfl, rb, sb⟩ := lOf_rep l hy ey
    split at p
    · rename_i hz
      refine ⟨a, b, vs, ws, rfl, rfl, ra, rb, by rw [← sa.length, ← sb.length]; exact fits_of hz, fun q hq => ?_⟩
      exact Post.newLst p l (sa.append sb) hq
    · exact False.elim p
  unfold opAdd at p
  split at p
  · cases hx; cases hy
    exact .inl ⟨_, _, rfl, rfl, Post.here p l (.int _)⟩
  · cases hx; cases hy
    split at p
    · rename_i hz
      refine .inr (.inl ⟨_, _, rfl, rfl, by rw [txt_length, txt_length]; exact fits_of hz, ?_⟩)
      rw [txt_append]
      exact Post.here p l (.str _)
    · exact False.elim p
  · cases hx with
    | tup ta sa =>
      cases hy with
      | tup tb sb =>
        split at p
        · rename_i hz
          refine .inr (.inr (.inl ⟨_, _, _, _, rfl, rfl, ta.sq, tb.sq, by rw [← sa.length, ← sb.length]; exact fits_of hz, fun e => ?_, fun e e' => ?_, fun e e' q hq => ?_⟩))
          · subst e; cases sa
            exact Post.here p l (.tup tb sb)
          · subst e'; cases sb
            rw [List.append_nil] at p
            exact Post.here p l (.tup ta sa)
          · exact Post.newTup p l (sa.append sb) hq
        · exact False.elim p
  · split at p
    · rename_i ex ey
      exact .inr (.inr (.inr (lists ex ey p)))
    · exact False.elim p
theorem r2_sub : R2S G X (binaryOp .Sub) opSub := by
  refine ⟨_, op_sub, fun W σV x y S r vx vy Q l hx hy p => ?_⟩
  unfold opSub at p
  split at p
  · cases hx; cases hy
    exact ⟨_, _, rfl, rfl, Post.here p l (.int _)⟩
  · exact False.elim p
theorem r2_mul (hK : X.K = G.K) : R2S G X (binaryOp .Mult) opMul := by
  refine ⟨_, op_mulW.or (op_repA.or (op_repS.or op_repR)), fun W σV x y S r vx vy Q l hx hy p => ?_⟩
  rw [hK]
  unfold opMul at p
  split at p
  · cases hx; cases hy
    split at p
    · rename_i hz
      exact .inl ⟨_, _, rfl, rfl, Nat.lt_succ_of_le (isOk hz), Post.here p l (.int _)⟩
    · exact False.elim p
  · cases hx with
    | tup ta sa =>
      cases hy
      split at p
      · rename_i hz
        rw [Bool.and_eq_true, Bool.and_eq_true, decide_eq_true_eq, decide_eq_true_eq] at hz
        refine .inr (.inl ⟨_, _, _, rfl, rfl, ta.sq, hz.1.1, hz.1.2, by rw [← sa.length]; exact isOk hz.2, fun q hq => ?_, fun e => ?_⟩)
        · exact Post.newTup p l (sa.rep _) hq
        · rcases e with e | e
          · subst e; cases sa
            have : ∀ n, rep [] n = [] := fun n => by induction n with
              | zero => rfl
              | succ n ih => simp [rep, ih]
            rw [this] at p
            exact Post.here p l (.tup ta .nil)
          · subst e
            have : ∀ xs : List D, rep xs (Int.toNat 1) = xs := fun xs => by
              show xs ++ [] = xs
              simp
            rw [this] at p
            exact Post.here p l (.tup ta sa)
      · exact False.elim p
  · cases hx; cases hy
    split at p
    · rename_i hz
      rw [Bool.and_eq_true, Bool.and_eq_true, decide_eq_true_eq, decide_eq_true_eq] at hz
      exact .inr (.inr (.inl ⟨_, _, rfl, rfl, hz.1.1, hz.1.2, isOk hz.2, Post.here p l (.str _)⟩))
    · exact False.elim p
  · cases hy
    split at p
    · rename_i ex
      obtain ⟨a, vs, rfl, ra, sa⟩ := lOf_rep l hx ex
      split at p
      · rename_i hz
        rw [Bool.and_eq_true, Bool.and_eq_true, decide_eq_true_eq, decide_eq_true_eq] at hz
        refine .inr (.inr (.inr ⟨a, _, vs, rfl, rfl, ra, by omega, by omega, ?_, fun q hq => ?_⟩))
        · rw [sizeLine_eq, ← sa.length]
          have h1 := isOk hz.2
          have h2 : ∀ k : Int, k ≤ 1000 → k.toNat ≤ 1000 := fun k h => by omega
          have h3 : ∀ n m : Nat, n ≤ 1000 → m ≤ 1000 → n * m ≤ 16777216 := fun n m a b => Nat.le_trans (Nat.mul_le_mul a b) (by decide)
          exact h3 _ _ h1 (h2 _ hz.1.2)
        · exact Post.newLst p l (sa.rep _) hq
      · exact False.elim p
    · exact False.elim p
  · exact False.elim p
theorem r2_div : R2S G X (binaryOp .FloorDiv) opDiv := by
  refine ⟨_, op_fdivX, fun W σV x y S r vx vy Q l hx hy p => ?_⟩
  unfold opDiv at p
  split at p
  · cases hx; cases hy
    split at p
    · rename_i hz
      rw [Bool.and_eq_true, decide_eq_true_eq] at hz
      exact ⟨_, _, rfl, rfl, ⟨hz.1, Nat.lt_succ_of_le (isOk hz.2)⟩, Post.here p l (.int _)⟩
    · exact False.elim p
  · exact False.elim p
theorem r2_mod : R2S G X (binaryOp .Mod) opMod := by
  refine ⟨_, op_modN, fun W σV x y S r vx vy Q l hx hy p => ?_⟩
  unfold opMod at p
  split at p
  · cases hx; cases hy
    split at p
    · rename_i hz
      exact ⟨_, _, rfl, rfl, of_decide_eq_true hz, Post.here p l (.int _)⟩
    · exact False.elim p
  · exact False.elim p
theorem r2_pow : R2S G X (binaryOp .Pow) opPow := by
  refine ⟨_, op_powX, fun W σV x y S r vx vy Q l hx hy p => ?_⟩
  unfold opPow at p
  split at p
  · cases hx; cases hy
    split at p
    · rename_i hz
      rw [Bool.and_eq_true, Bool.and_eq_true, decide_eq_true_eq, decide_eq_true_eq] at hz
      exact ⟨_, _, rfl, rfl, ⟨hz.1.1, hz.1.2, Nat.lt_succ_of_le (isOk hz.2)⟩, Post.here p l (.int _)⟩
    · exact False.elim p
  · exact False.elim p
def opA : Op → Operator
  | .add => .Add
  | .sub => .Sub
  | .mul => .Mult
  | .fdiv => .FloorDiv
  | .mod => .Mod
  | .pow => .Pow
theorem r2_op (hK : X.K = G.K) (o : Op) : R2S G X (binaryOp (opA o)) (op2 o) := by
  cases o
  · exact r2_add hK
  · exact r2_sub
  · exact r2_mul hK
  · exact r2_div
  · exact r2_mod
  · exact r2_pow
end
end DL
end
section
set_option Elab.async false
set_option autoImplicit false
set_option linter.all false
set_option maxRecDepth 100000
set_option maxHeartbeats 2000000
/-! DLe: comparisons, truth. -/
namespace DL
open PySem PySem.Spec PyProof.Rows L2
mutual
def toPy : D → PyData
  | .non => .none
  | .bl b => .bool b
  | .int i => .int i
  | .str x => .str (txt x)
  | .tup xs => .tuple (toPys xs)
  | .lst xs => .list (toPys xs)
  | .ref _ => .none
  | .fn _ => .none
  | .exn _ _ => .none
  | .scr _ => .none
  | .map _ _ => .none
  | .lams _ => .none
  | .lam _ => .none
  | .obj _ _ => .none
  | .dct _ => .none
def toPys : List D → List PyData
  | [] => []
  | x :: xs => toPy x :: toPys xs
end
section
variable {G : Glob} {r : RS} {S : Store} {X : Cx}
mutual
theorem dp_of : ∀ (n : Nat) (d : D) (v : V), plain n d = true → Rep G r d v → Dp G.K r.H v (toPy d)
  | _, .non, _, _, h => by cases h; rw [toPy]; exact .non
  | _, .bl b, _, _, h => by cases h; rw [toPy]; exact .bl b
  | _, .int i, _, _, h => by cases h; rw [toPy]; exact .int i
  | _, .str x, _, _, h => by cases h; rw [toPy]; exact .str _
  | 0, .tup _, _, p, _ => by rw [plain] at p; cases p
  | n + 1, .tup xs, _, p, h => by
    cases h with
    | tup t s =>
      rw [toPy]
      exact .tup t.sq (dps_of n xs _ (by rw [plain] at p; exact p) s)
  | 0, .lst _, _, p, _ => by rw [plain] at p; cases p
  | n + 1, .lst xs, _, p, h => by
    cases h with
    | lst t z s =>
      rw [toPy]
      exact .lst (.inl t) (dps_of n xs _ (by rw [plain] at p; exact p) s)
  | _, .ref _, _, p, _ => by simp [plain] at p
  | _, .fn _, _, p, _ => by simp [plain] at p
  | _, .exn _ _, _, p, _ => by simp [plain] at p
  | _, .scr _, _, p, _ => by simp [plain] at p
  | _, .map _ _, _, p, _ => by simp [plain] at p
  | _, .lams _, _, p, _ => by simp [plain] at p
  | _, .lam _, _, p, _ => by simp [plain] at p
  | _, .obj _ _, _, p, _ => by simp [plain] at p
  | _, .dct _, _, p, _ => by simp [plain] at p
theorem dps_of : ∀ (n : Nat) (ds : List D) (vs : List V), plains n ds = true → Reps G r ds vs → DpAll G.K r.H vs (toPys ds)
  | _, [], _, _, h => by cases h; rw [toPys]; exact .nil
  | n, d :: ds, _, p, h => by
    cases h with
    | cons h1 h2 =>
      rw [plains, Bool.and_eq_true] at p
      rw [toPys]
      exact .cons (dp_of n d _ p.1 h1) (dps_of n ds _ p.2 h2)
end
mutual
theorem shaped_aux : ∀ (n : Nat) (d : D), plain n d = true → (toPy d).canLay0 = true ∧ (toPy d).depth ≤ n
  | _, .non, _ => by simp [toPy, PyData.canLay0, PyData.depth]
  | _, .bl b, _ => by simp [toPy, PyData.canLay0, PyData.depth]
  | _, .int i, _ => by simp [toPy, PyData.canLay0, PyData.depth]
  | _, .str x, p => by
    rw [plain] at p
    simp only [toPy, PyData.canLay0, PyData.depth, PyData.strOk]
    refine ⟨?_, Nat.zero_le _⟩
    rw [Array.all_eq_true']
    intro c hc
    have hc' : c ∈ x := by simpa [txt] using hc
    have := List.all_eq_true.mp p c hc'
    have := Nat.le_of_ble_eq_true this
    exact decide_eq_true (by omega)
  | 0, .tup _, p => by rw [plain] at p; cases p
  | n + 1, .tup xs, p => by
    obtain ⟨a, b⟩ := shapeds_aux n xs (by rw [plain] at p; exact p)
    simp only [toPy, PyData.canLay0, PyData.depth]
    exact ⟨a, Nat.succ_le_succ b⟩
  | 0, .lst _, p => by rw [plain] at p; cases p
  | n + 1, .lst xs, p => by
    obtain ⟨a, b⟩ := shapeds_aux n xs (by rw [plain] at p; exact p)
    simp only [toPy, PyData.canLay0, PyData.depth]
    exact ⟨a, Nat.succ_le_succ b⟩
  | _, .ref _, p => by simp [plain] at p
  | _, .fn _, p => by simp [plain] at p
  | _, .exn _ _, p => by simp [plain] at p
  | _, .scr _, p => by simp [plain] at p
  | _, .map _ _, p => by simp [plain] at p
  | _, .lams _, p => by simp [plain] at p
  | _, .lam _, p => by simp [plain] at p
  | _, .obj _ _, p => by simp [plain] at p
  | _, .dct _, p => by simp [plain] at p
theorem shapeds_aux : ∀ (n : Nat) (ds : List D), plains n ds = true → PyData.canLayAll0 (toPys ds) = true ∧ PyData.depthAll (toPys ds) ≤ n
  | _, [], _ => by simp [toPys, PyData.canLayAll0, PyData.depthAll]
  | n, d :: ds, p => by
    rw [plains, Bool.and_eq_true] at p
    obtain ⟨a, b⟩ := shaped_aux n d p.1
    obtain ⟨a', b'⟩ := shapeds_aux n ds p.2
    simp only [toPys, PyData.canLayAll0, PyData.depthAll, a, a', Bool.and_self, true_and]
    exact Nat.max_le.mpr ⟨b, b'⟩
end
theorem shaped_of {n : Nat} {d : D} (h : n ≤ 64) (p : plain n d = true) : SeqAt.shaped (toPy d) = true := by
  obtain ⟨a, b⟩ := shaped_aux n d p
  unfold SeqAt.shaped
  rw [a, Bool.true_and]
  exact decide_eq_true (Nat.le_trans b h)
theorem str_beq (x y : List Nat) : ((txt x == txt y) : Bool) = decide (x = y) := by
  by_cases h : x = y
  · subst h; simp
  · rw [decide_eq_false h]
    exact beq_eq_false_iff_ne.mpr fun e => h (txt_inj e)
mutual
theorem eqv_of : ∀ (n m : Nat) (d e : D), plain n d = true → plain m e = true → eqv d e = PyData.eqv (toPy d) (toPy e)
  | n, m, d, e, p, q => by
    cases d with
    | ref _ => simp [plain] at p
    | fn _ => simp [plain] at p
    | exn _ _ => simp [plain] at p
    | scr _ => simp [plain] at p
    | map _ _ => simp [plain] at p
    | lam _ => simp [plain] at p
    | obj _ _ => simp [plain] at p
    | dct _ => simp [plain] at p
    | lams _ => simp [plain] at p
    | tup xs =>
      cases n with
      | zero => rw [plain] at p; cases p
      | succ n =>
        cases e with
        | ref _ => simp [plain] at q
        | fn _ => simp [plain] at q
        | exn _ _ => simp [plain] at q
        | scr _ => simp [plain] at q
        | map _ _ => simp [plain] at q
        | lam _ => simp [plain] at q
        | obj _ _ => simp [plain] at q
        | dct _ => simp [plain] at q
        | lams _ => simp [plain] at q
        | tup ys =>
          cases m with
          | zero => rw [plain] at q; cases q
          | succ m =>
            rw [plain] at p q
            simp only [eqv, toPy, PyData.eqv]
            exact eqvs_of n m xs ys p q
        | _ => simp [eqv, toPy, PyData.eqv]
    | lst xs =>
      cases n with
      | zero => rw [plain] at p; cases p
      | succ n =>
        cases e with
        | ref _ => simp [plain] at q
        | fn _ => simp [plain] at q
        | exn _ _ => simp [plain] at q
        | scr _ => simp [plain] at q
        | map _ _ => simp [plain] at q
        | lam _ => simp [plain] at q
        | obj _ _ => simp [plain] at q
        | dct _ => simp [plain] at q
        | lams _ => simp [plain] at q
        | lst ys =>
          cases m with
          | zero => rw [plain] at q; cases q
          | succ m =>
            rw [plain] at p q
            simp only [eqv, toPy, PyData.eqv]
            exact eqvs_of n m xs ys p q
        | _ => simp [eqv, toPy, PyData.eqv]
    | str x =>
      cases e with
      | ref _ => simp [plain] at q
      | fn _ => simp [plain] at q
      | exn _ _ => simp [plain] at q
      | scr _ => simp [plain] at q
      | map _ _ => simp [plain] at q
      | lam _ => simp [plain] at q
      | obj _ _ => simp [plain] at q
      | dct _ => simp [plain] at q
      | lams _ => simp [plain] at q
      | str y => simp only [eqv, toPy, PyData.eqv]; exact (str_beq x y).symm
      | _ => simp [eqv, toPy, PyData.eqv]
    | _ =>
      cases e with
      | ref _ => simp [plain] at q
      | fn _ => simp [plain] at q
      | exn _ _ => simp [plain] at q
      | scr _ => simp [plain] at q
      | map _ _ => simp [plain] at q
      | lam _ => simp [plain] at q
      | obj _ _ => simp [plain] at q
      | dct _ => simp [plain] at q
      | lams _ => simp [plain] at q
      | _ => simp [eqv, toPy, PyData.eqv]
theorem eqvs_of : ∀ (n m : Nat) (ds es : List D), plains n ds = true → plains m es = true → eqvs ds es = PyData.eqvAll (toPys ds) (toPys es)
  | _, _, [], [], _, _ => by simp [eqvs, toPys, PyData.eqvAll]
  | _, _, [], _ :: _, _, _ => by simp [eqvs, toPys, PyData.eqvAll]
  | _, _, _ :: _, [], _, _ => by simp [eqvs, toPys, PyData.eqvAll]
  | n, m, d :: ds, e :: es, p, q => by
    rw [plains, Bool.and_eq_true] at p q
    simp only [eqvs, toPys, PyData.eqvAll, eqv_of n m d e p.1 q.1, eqvs_of n m ds es p.2 q.2]
end
theorem dp_deref (l : Rl G r S) {d : D} {v : V} (h : Rep G r d v) (p : plain 60 (deref S d) = true) : Dp G.K r.H v (toPy (deref S d)) := by
  cases h with
  | ref hm hk =>
    rename_i n a
    unfold deref at p ⊢
    cases e : S[n]? with
    | none =>
      simp only [e] at p
      simp [plain] at p
    | some xs =>
      simp only [e] at p ⊢
      obtain ⟨b, vs, h1, h2, h3⟩ := l.lst hk e
      rw [hm] at h1; cases h1
      rw [toPy]
      exact .lst (.inl (.inl h2)) (dps_of 59 xs vs (by rw [plain] at p; exact p) h3)
  | non => exact dp_of 60 _ _ p .non
  | bl b => exact dp_of 60 _ _ p (.bl b)
  | int i => exact dp_of 60 _ _ p (.int i)
  | str x => exact dp_of 60 _ _ p (.str x)
  | tup t s => exact dp_of 60 _ _ p (.tup t s)
  | lst t z s => exact dp_of 60 _ _ p (.lst t z s)
  | fn g => simp [deref, plain] at p
  | scr _ => simp [deref, plain] at p
  | dic _ _ => simp [deref, plain] at p
  | obj _ _ => simp [deref, plain] at p
  | exn0 _ _ => simp [deref, plain] at p
  | exn1 _ _ _ _ _ => simp [deref, plain] at p
/-- a comparison's rule tells what op tells -/
def C2S (G : Glob) (X : Cx) (f : Value → Value → Sem Value) (op : D → D → Store → Out Bool) : Prop :=
  ∃ rr : R2, OpR X f rr ∧ ∀ (W : WX) (σV : L2.St) (x y : D) (S : Store) (r : RS) (vx vy : V) (Q : Bool → Hp → Prop), Rl G r S → Rep G r x vx → Rep G r y vy → Post G RT W σV r (op x y S) Q → rr vx vy r.H (fun z H => ∃ k, z = .bl k ∧ Q k H)
def cpA : Cp → CmpOp
  | .eq => .Eq
  | .ne => .NotEq
  | .lt => .Lt
  | .le => .LtE
  | .gt => .Gt
  | .ge => .GtE
  | .is => .Is
  | .isn => .IsNot
  | .inn => .In
  | .nin => .NotIn
theorem hereB {W : WX} {σV : L2.St} {b : Bool} {Q : Bool → Hp → Prop} (p : Post G RT W σV r (.ok b S) Q) (l : Rl G r S) : ∃ k, V.bl b = .bl k ∧ Q k r.H := ⟨b, rfl, Post.here p l rfl⟩
theorem c2_int {cop : CmpOp} {f : Int → Int → Bool} (h : OpR X (compareOp cop) (rI0 fun i j => .bl (f i j))) : C2S G X (compareOp cop) (cpInt f) := by
  refine ⟨_, h, fun W σV x y S r vx vy Q l hx hy p => ?_⟩
  unfold cpInt at p
  split at p
  · cases hx; cases hy
    exact ⟨_, _, rfl, rfl, hereB p l⟩
  · exact False.elim p
theorem c2_eq (hK : X.K = G.K) (hu : X.A.units + 64 < cLine) : C2S G X (compareOp .Eq) cpEq := by
  refine ⟨_, op_eqD hu, fun W σV x y S r vx vy Q l hx hy p => ?_⟩
  rw [hK]
  unfold cpEq at p
  simp only at p
  split at p
  · rename_i hp
    rw [Bool.and_eq_true] at hp
    rw [eqv_of 60 60 _ _ hp.1 hp.2] at p
    exact ⟨_, _, dp_deref l hx hp.1, dp_deref l hy hp.2, shaped_of (by omega) hp.1, shaped_of (by omega) hp.2, hereB p l⟩
  · exact False.elim p
theorem c2_ne (hK : X.K = G.K) (hu : X.A.units + 64 < cLine) : C2S G X (compareOp .NotEq) (cmp2 .ne) := by
  refine ⟨_, op_neD hu, fun W σV x y S r vx vy Q l hx hy p => ?_⟩
  rw [hK]
  have p : Post G RT W σV r ((cpEq x y S).bind fun b S => .ok (!b) S) Q := p
  unfold cpEq at p
  simp only at p
  split at p
  · rename_i hp
    rw [Bool.and_eq_true] at hp
    have p : Post G RT W σV r (.ok (!(eqv (deref S x) (deref S y))) S) Q := p
    rw [eqv_of 60 60 _ _ hp.1 hp.2] at p
    exact ⟨_, _, dp_deref l hx hp.1, dp_deref l hy hp.2, shaped_of (by omega) hp.1, shaped_of (by omega) hp.2, hereB p l⟩
  · exact False.elim p
theorem cpIs_ok {d e : D} {k : Bool} {v w : V} (hd : Rep G r d v) (he : Rep G r e w) (h : cpIs d e = some k) : (w = .non ∧ k = decide (v = .non)) ∨ ∃ a b, v = .bl a ∧ w = .bl b ∧ k = decide (a = b) := by
  unfold cpIs at h
  split at h
  all_goals first
    | (cases h; done)
    | (cases hd; cases he; cases h; exact .inl ⟨rfl, rfl⟩)
    | (cases hd <;> cases he <;> cases h <;> exact .inl ⟨rfl, rfl⟩)
    | (cases hd; cases he; cases h; refine .inr ⟨_, _, rfl, rfl, ?_⟩; rename_i a b; cases a <;> cases b <;> rfl)
theorem c2_is : C2S G X (compareOp .Is) (cmp2 .is) := by
  refine ⟨_, op_isN.or op_isBl, fun W σV x y S r vx vy Q l hx hy p => ?_⟩
  have p : Post G RT W σV r (ofOpt (cpIs x y) S) Q := p
  cases e : cpIs x y with
  | none => rw [e] at p; exact False.elim p
  | some k =>
    rw [e] at p
    rcases cpIs_ok hx hy e with ⟨rfl, h⟩ | ⟨a, b, rfl, rfl, h⟩
    · subst h
      exact .inl ⟨rfl, hereB p l⟩
    · subst h
      exact .inr ⟨a, b, rfl, rfl, hereB p l⟩
theorem c2_isn : C2S G X (compareOp .IsNot) (cmp2 .isn) := by
  refine ⟨_, op_notN.or op_notBl, fun W σV x y S r vx vy Q l hx hy p => ?_⟩
  have p : Post G RT W σV r (ofOpt ((cpIs x y).map (!·)) S) Q := p
  cases e : cpIs x y with
  | none => rw [e] at p; exact False.elim p
  | some k =>
    rw [e] at p
    rcases cpIs_ok hx hy e with ⟨rfl, h⟩ | ⟨a, b, rfl, rfl, h⟩
    · subst h
      exact .inl ⟨rfl, hereB p l⟩
    · subst h
      exact .inr ⟨a, b, rfl, rfl, hereB p l⟩
theorem flat_ok {d : D} {v : V} (h : Rep G r d v) (f : isFlat d = true) : flatV v = true := by
  cases h <;> first | rfl | (simp [isFlat] at f)
theorem eqV_ok {d e : D} {v w : V} (h : Rep G r d v) (h' : Rep G r e w) (f : isFlat d = true) (f' : isFlat e = true) : eqV v w = eqv d e := by
  cases h <;> cases h' <;> first
    | (simp [isFlat] at f; done) | (simp [isFlat] at f'; done)
    | (simp only [eqV, eqv]; exact str_beq _ _)
    | simp [eqV, eqv]
theorem flats_ok : ∀ {ds : List D} {vs : List V}, Reps G r ds vs → ds.all isFlat = true → vs.all flatV = true
  | _, _, .nil, _ => rfl
  | _, _, .cons h t, f => by
    rw [List.all_cons, Bool.and_eq_true] at f ⊢
    exact ⟨flat_ok h f.1, flats_ok t f.2⟩
theorem elem_ok {d : D} {v : V} (h : Rep G r d v) (f : isFlat d = true) : ∀ {ds : List D} {vs : List V}, Reps G r ds vs → ds.all isFlat = true → inV v vs = elemD d ds
  | _, _, .nil, _ => rfl
  | _, _, .cons h' t, g => by
    rw [List.all_cons, Bool.and_eq_true] at g
    unfold inV
    rw [List.any_cons, eqV_ok h' h g.1 f]
    have := elem_ok h f t g.2
    unfold inV at this
    rw [this]; rfl
theorem cpIn_ok (hK : X.K = G.K) (l : Rl G r S) {d e : D} {k : Bool} {v w : V} (hd : Rep G r d v) (he : Rep G r e w) (h : cpIn d e S = some k) :
    (∃ (c : Nat) (z : Str), v = .str ⟨#[c]⟩ ∧ w = .str z ∧ k = decide (c ∈ z.cps.toList)) ∨ ∃ p xs, w = .ref p ∧ (SqL X.K r.H p xs ∨ SqT X.K r.H p xs) ∧ flatV v = true ∧ xs.all flatV = true ∧ k = inV v xs := by
  unfold cpIn at h
  split at h
  · cases hd; cases he
    cases h
    refine .inl ⟨_, _, rfl, rfl, ?_⟩
    rw [decide_eq_decide]
    exact Iff.rfl
  · split at h
    · rename_i xs ex
      split at h
      · rename_i hf
        rw [Bool.and_eq_true] at hf
        cases h
        obtain ⟨a, vs, rfl, q, sa⟩ := seqOf_rep l he ex
        refine .inr ⟨a, vs, rfl, ?_, flat_ok hd hf.1, flats_ok sa hf.2, (elem_ok hd hf.1 sa hf.2).symm⟩
        rw [hK]
        rcases q with ⟨q, _⟩ | ⟨q, _⟩
        · exact .inl (.inl q)
        · exact .inr q.sq
      · cases h
    · cases h
theorem c2_in (hK : X.K = G.K) : C2S G X (compareOp .In) (cmp2 .inn) := by
  refine ⟨_, op_in_sign.or op_in_seq, fun W σV x y S r vx vy Q l hx hy p => ?_⟩
  have p : Post G RT W σV r (ofOpt (cpIn x y S) S) Q := p
  cases e : cpIn x y S with
  | none => rw [e] at p; exact False.elim p
  | some k =>
    rw [e] at p
    rcases cpIn_ok hK l hx hy e with ⟨c, z, rfl, rfl, h⟩ | ⟨q, xs, rfl, h1, h2, h3, h⟩
    · subst h
      exact .inl ⟨c, z, rfl, rfl, hereB p l⟩
    · subst h
      exact .inr ⟨q, xs, rfl, h1, h2, h3, hereB p l⟩
theorem c2_nin (hK : X.K = G.K) : C2S G X (compareOp .NotIn) (cmp2 .nin) := by
  refine ⟨_, op_notIn_sign.or op_notIn_seq, fun W σV x y S r vx vy Q l hx hy p => ?_⟩
  have p : Post G RT W σV r (ofOpt ((cpIn x y S).map (!·)) S) Q := p
  cases e : cpIn x y S with
  | none => rw [e] at p; exact False.elim p
  | some k =>
    rw [e] at p
    rcases cpIn_ok hK l hx hy e with ⟨c, z, rfl, rfl, h⟩ | ⟨q, xs, rfl, h1, h2, h3, h⟩
    · subst h
      exact .inl ⟨c, z, rfl, rfl, hereB p l⟩
    · subst h
      exact .inr ⟨q, xs, rfl, h1, h2, h3, hereB p l⟩
theorem c2_cmp (hK : X.K = G.K) (hu : X.A.units + 64 < cLine) (o : Cp) : C2S G X (compareOp (cpA o)) (cmp2 o) := by
  cases o
  · exact c2_eq hK hu
  · exact c2_ne hK hu
  · exact c2_int op_lt
  · exact c2_int op_le
  · exact c2_int op_gt
  · exact c2_int op_ge
  · exact c2_is
  · exact c2_isn
  · exact c2_in hK
  · exact c2_nin hK
/-! ### truth -/
theorem truth_ok (hK : X.K = G.K) {W : WX} {σV : L2.St} {d : D} {v : V} {Q : Bool → Hp → Prop} (l : Rl G r S) (h : Rep G r d v) (p : Post G RT W σV r (truth d S) Q) : ∃ k, TruV X.K v r.H k ∧ Q k r.H := by
  rw [hK]
  unfold truth at p
  split at p
  · cases h; exact ⟨false, rfl, Post.here p l rfl⟩
  · cases h; exact ⟨_, rfl, Post.here p l rfl⟩
  · cases h; exact ⟨_, rfl, Post.here p l rfl⟩
  · cases h
    split at p
    · rename_i hz
      refine ⟨_, ⟨by rw [txt_length]; exact fits_of hz, rfl⟩, ?_⟩
      have q := Post.here p l (b := !_) rfl
      rename_i x
      have e : (((txt x).length : Int) != 0) = !x.isEmpty := by
        rw [txt_length]
        cases x with
        | nil => rfl
        | cons a b => simp; omega
      rw [e]
      exact q
    · exact False.elim p
  · cases h with
    | tup t s =>
      refine ⟨_, .inr (.inl ⟨_, t.sq, rfl⟩), ?_⟩
      have q := Post.here p l (b := !_) rfl
      cases s <;> exact q
  · split at p
    · rename_i ex
      obtain ⟨a, vs, rfl, ra, sa⟩ := lOf_rep l h ex
      refine ⟨_, .inl ⟨vs, .inl ra, rfl⟩, ?_⟩
      have q := Post.here p l (b := !_) rfl
      cases sa <;> exact q
    · exact False.elim p
end
end DL
end
section
set_option Elab.async false
set_option autoImplicit false
set_option linter.all false
set_option maxRecDepth 100000
set_option maxHeartbeats 2000000
/-! DLf: items, slices. -/
namespace DL
open PySem PySem.Spec PyProof.Rows L2
section
variable {prog : Program} {w : World} {A : Around} {E : Value → Shared → Prop} {s : Shared}
theorem adjust_rev (n : Nat) : Builtin.Slice.sliceAdjust none none (-1) (n : Int) = ((n : Int) - 1, -1) := by
  unfold Builtin.Slice.sliceAdjust
  have h1 : (-1 : Int) < 0 := by omega
  simp only [h1, if_true]
theorem places_rev (n : Nat) : Builtin.Slice.slicePlaces ((n : Int) - 1) (-1) (-1) = n := by
  unfold Builtin.Slice.slicePlaces
  have h1 : ¬ ((-1 : Int) > 0) := by omega
  simp only [h1, if_false, Int.neg_neg, Int.ediv_one]
  split <;> omega
theorem filterMap_some {α β : Type} {f : α → Option β} {g : α → β} : ∀ {l : List α}, (∀ m ∈ l, f m = some (g m)) → l.filterMap f = l.map g
  | [], _ => rfl
  | a :: l, h => by
    rw [List.filterMap_cons, h a List.mem_cons_self, List.map_cons, filterMap_some fun m hm => h m (List.mem_cons_of_mem _ hm)]
theorem pick_rev (xs : Array Value) : ((List.range xs.size).filterMap fun (m : Nat) => xs[((xs.size : Int) - 1 + (m : Int) * (-1)).toNat]?).toArray = xs.toList.reverse.toArray := by
  congr 1
  have e : ∀ m ∈ List.range xs.size, (fun (m : Nat) => xs[((xs.size : Int) - 1 + (m : Int) * (-1)).toNat]?) m = some ((fun m => xs.toList.getD (xs.size - 1 - m) default) m) := by
    intro m hm
    have hm' : m < xs.size := List.mem_range.mp hm
    have h1 : ((xs.size : Int) - 1 + (m : Int) * (-1)).toNat = xs.size - 1 - m := by omega
    have h2 : xs.size - 1 - m < xs.size := by omega
    show xs[((xs.size : Int) - 1 + (m : Int) * (-1)).toNat]? = some (xs.toList.getD (xs.size - 1 - m) default)
    rw [h1, Array.getElem?_eq_getElem h2]
    simp [List.getD, h2]
  rw [filterMap_some e]
  apply List.ext_getElem?
  intro i
  by_cases hi : i < xs.size
  · have h2 : xs.size - 1 - i < xs.size := by omega
    rw [List.getElem?_map, List.getElem?_range hi, List.getElem?_reverse (by simpa using hi)]
    simp [List.getD, h2]
  · rw [List.getElem?_eq_none (by simpa using hi), List.getElem?_eq_none (by simpa using hi)]
theorem sliceApplied_rev {sl : Addr} {vs : Value} {n : Nat} {Q : Int × Int × Nat → Shared → Prop} (hs : s.heap.IsSliceOf sl .none .none vs) (ps : IsPart vs (some (-1)))
    (h : Q ((n : Int) - 1, -1, n) s) : wpAny (model prog w) A (Builtin.Slice.sliceApplied (.ref sl) (pure (n : Int))) Q E s := by
  obtain ⟨os, hos, hcs, hds⟩ := id hs
  unfold Builtin.Slice.sliceApplied Builtin.Slice.sliceFields
  refine wpAny_bind (wpAny_bind (wpAny_field hos hds (x := .none) rfl (wpAny_bind (wpAny_field hos hds (x := .none) rfl (wpAny_bind (wpAny_field hos hds (x := vs) rfl (wpAny_pure ?_)))))))
  refine wpAny_bind (HT.slicePart_ ps ?_)
  show wpAny _ _ (if ((-1 : Int) == 0) = true then _ else _) _ _ s
  rw [if_neg (by decide)]
  refine wpAny_bind (HT.slicePart_ .none (wpAny_bind (HT.slicePart_ .none (wpAny_bind (wpAny_pure ?_)))))
  show wpAny _ _ (match Builtin.Slice.sliceAdjust none none (-1) (n : Int) with | (lo, hi) => pure (lo, (-1 : Int), Builtin.Slice.slicePlaces lo hi (-1))) _ _ s
  rw [adjust_rev n]
  show wpAny _ _ (pure ((n : Int) - 1, (-1 : Int), Builtin.Slice.slicePlaces ((n : Int) - 1) (-1) (-1))) _ _ s
  rw [places_rev]
  exact wpAny_pure h
theorem getItem_tuple_rev {t sl : Addr} {items : Array Value} {vs : Value} {Q : Value → Shared → Prop} (ht : IsTup s.heap t items) (hs : s.heap.IsSliceOf sl .none .none vs) (ps : IsPart vs (some (-1)))
    (h : Q (.ref s.heap.objs.size) { s with heap := s.heap.push { cls := .type "tuple", data := .seq items.toList.reverse.toArray } })
    (hsz : items.size ≤ sizeLine) : wpAny (model prog w) A (getItem (.ref t) (.ref sl)) Q E s := by
  have htake : sizeOk (.seq items.toList.reverse.toArray) := by
    show items.toList.reverse.toArray.size ≤ sizeLine
    simpa using hsz
  obtain ⟨os, hos, hcs, hds⟩ := id hs
  have hTs : s.TypeIs (.ref sl) "slice" := ⟨os, hos, hcs⟩
  unfold getItem
  try with_reducible refine wpAny_holding ?_
  first | refine wpAny_bind (wpAny_pure ?_) | skip
  refine wpAny_bind (wpAny_sequenceKey ht.typeIs (by decide) ?_)
  refine wpAny_bind (wpAny_callSpecial?_slot (name := Str.ofString "__getitem__") ht.typeIs PyProof.Rows.slot_tuple_getitem
    (wpAny_call_entry PyProof.Rows.slot_tuple_getitem ht.typeIs entry_tuple_getitem ?_ (args_tuple_getitem _ _)))
  show wpAny _ _ (Builtin.Tuple.tupleItemsOf (.ref t) >>= _) _ _ s
  refine wpAny_bind (tupleItemsOf_ ht ?_)
  refine wpAny_bind (wpAny_typeOf hTs ?_)
  rw [if_pos (by decide)]
  refine wpAny_bind (sliceApplied_rev hs ps ?_)
  have hno : ¬ ((((items.size : Int) - 1) == 0 && (-1 : Int) == 1 && items.size == items.size) = true) := by
    intro q
    rw [Bool.and_eq_true, Bool.and_eq_true] at q
    exact absurd q.1.2 (by decide)
  show wpAny _ _ (if (((items.size : Int) - 1) == 0 && (-1 : Int) == 1 && items.size == items.size) = true then _ else _) _ _ s
  rw [if_neg hno, pick_rev]
  first
    | exact wpAny_bind (m := Builtin.Tuple.tupleExact _) (wpAny_newObj_type (wpAny_pure ⟨_, rfl, wpAny_pure h⟩) htake)
    | exact wpAny_bind (m := Builtin.Tuple.tupleExact _) (wpAny_newObj_type (wpAny_bind (wpAny_pure (wpAny_pure ⟨_, rfl, wpAny_pure h⟩))) htake)
    | exact wpAny_bind (wpAny_bind (m := Builtin.Tuple.tupleExact _) (wpAny_newObj_type (wpAny_pure (wpAny_pure ⟨_, rfl, wpAny_pure h⟩)) htake))
    | exact wpAny_bind (wpAny_bind (m := Builtin.Tuple.tupleExact _) (wpAny_newObj_type (wpAny_pure ⟨_, rfl, wpAny_pure h⟩) htake))
end
section
variable {X : Cx} {G : Glob} {r : RS} {S : Store}
/-- x[::-1] of a list, a tuple -/
def tRevA (K : PySem.W.Frag) (te : TE) : TE := fun σ H Q => te σ H fun x H1 => ∃ a xs, x = .ref a ∧ ((SqL K H1 a xs ∧ ∀ p, H1 p = none → Q (.ref p) (upd H1 p (.lst xs.reverse))) ∨ (SqT K H1 a xs ∧ ∀ p, H1 p = none → Q (.ref p) (upd H1 p (.tup xs.reverse))))
theorem pe_revA {e : Expr} {te : TE} {k : Nat} {p1 p2 p3 pos : Pos} (he : PE X e te) : PE X (.Subscript e (.Slice none none (some (.UnaryOp .USub (.Constant (.int 1) k p1) p2)) p3) pos) (tRevA X.K te) := by
  refine ⟨fun pins s σ H Q I h => ?_⟩
  refine Subscript_ (thn (he.run pins s σ H _ I h) fun v s1 ⟨x, H1, I1, r1, q1⟩ => ?_)
  obtain ⟨a, xs, ex, hx⟩ := q1
  subst ex
  cases r1
  have hst : PO X (some (.UnaryOp .USub (.Constant (.int 1) k p1) p2)) (tPart (tUn (rU fun i => .int (-i)) (tC (.int 1)))) := po_some (pe_un un_neg pe_int)
  refine wpAny_Slice (thn (po_none.run pins s1 σ H1 (fun o H2 => o = none ∧ H2 = H1) I1 ⟨rfl, rfl⟩) fun vl s2 ⟨l, H2, I2, pl, el, e2⟩ => ?_)
  subst el e2
  refine thn (po_none.run pins s2 σ H2 (fun o H3 => o = none ∧ H3 = H2) I2 ⟨rfl, rfl⟩) fun vu s3 ⟨u, H3, I3, pu, eu, e3⟩ => ?_
  subst eu e3
  refine thn (hst.run pins s3 σ H3 (fun o H4 => o = some (-1) ∧ H4 = H3) I3 ⟨1, rfl, -1, rfl, rfl, rfl⟩) fun vs s4 ⟨o, H4, I4, ps, eo, e4⟩ => ?_
  subst eo e4
  have I5 : Inv X pins σ H4 { s4 with heap := s4.heap.push { cls := .type "slice", data := .fields #[vl, vu, vs] } } := I4.kept (t' := s4.toks) fun b o q => Heap.get?_push_of_some _ q
  rcases hx with ⟨hx, q⟩ | ⟨hx, q⟩
  · obtain ⟨its, r, ht, hz⟩ := I5.list hx
    have hlen := r.length
    show wpAny (model X.prog X.w) X.A (subscriptTail e (.Slice none none (some (.UnaryOp .USub (.Constant (.int 1) k p1) p2)) p3) (.ref a) (.ref s4.heap.objs.size)) (EP X pins σ Q) X.xe { s4 with heap := s4.heap.push { cls := .type "slice", data := .fields #[vl, vu, vs] } }
    refine tail_any (ops := [.ref a, .ref s4.heap.objs.size]) ht.isList.typeIs (PySem.slot_list_getitem.lookup) ?_ (by with_unfolding_all rfl)
    refine wpAny_getItem_list_slice ht.isList (Heap.IsSliceOf.new _ vl vu vs) pl pu ps (by decide) ?_ (by rw [List.size_toArray]; omega)
    rw [PySem.W.krv_pick]
    refine ⟨.ref _, _, I5.laid (t' := s4.toks) (o := .lst xs.reverse) (fun b ob q => Heap.get?_push_of_some _ q) (Nat.le_refl _) ?_, rfl, q _ (I5.hok.fresh (Nat.le_refl _))⟩
    exact ⟨by rw [List.length_reverse]; exact hz, _, 0, r.reverse, Heap.get?_push_size _ rfl⟩
  · obtain ⟨its, r, ht, hz⟩ := I5.tuple hx
    have hlen := r.length
    cases pl
    cases pu
    show wpAny (model X.prog X.w) X.A (subscriptTail e (.Slice none none (some (.UnaryOp .USub (.Constant (.int 1) k p1) p2)) p3) (.ref a) (.ref s4.heap.objs.size)) (EP X pins σ Q) X.xe { s4 with heap := s4.heap.push { cls := .type "slice", data := .fields #[.none, .none, vs] } }
    refine tail_any (ops := [.ref a, .ref s4.heap.objs.size]) ht.typeIs (PyProof.Rows.slot_tuple_getitem.lookup) ?_ (by with_unfolding_all rfl)
    refine getItem_tuple_rev ht (Heap.IsSliceOf.new _ .none .none vs) ps ?_ (by rw [List.size_toArray]; omega)
    refine ⟨.ref _, _, I5.laid (t' := s4.toks) (o := .tup xs.reverse) (fun b ob q => Heap.get?_push_of_some _ q) (Nat.le_refl _) ?_, rfl, q _ (I5.hok.fresh (Nat.le_refl _))⟩
    exact ⟨by rw [List.length_reverse]; exact hz, _, r.reverse, IsTup.new _ _⟩
theorem ixAt_eq : ixAt = ixN := rfl
theorem getAt_ok {xs : List D} {vs : List V} {i : Int} {d : D} (h : Reps G r xs vs) (e : getAt xs i = some d) : ∃ v, atI vs i = some v ∧ Rep G r d v := by
  unfold getAt at e
  rw [ixAt_eq] at e
  cases q : ixN xs.length i with
  | none => rw [q] at e; cases e
  | some j =>
    rw [q] at e
    have e : xs[j]? = some d := e
    obtain ⟨v, h1, h2⟩ := h.get e
    refine ⟨v, ?_, h2⟩
    unfold atI
    rw [← h.length, q]; exact h1
/-- a rule of x[i] tells what item tells -/
theorem ix_ok (hK : X.K = G.K) {W : WX} {σV : L2.St} {x y : D} {vx vy : V} {Q : VK} (l : Rl G r S) (hx : Rep G r x vx) (hy : Rep G r y vy) (p : Post G (Rep G) W σV r (item x y S) Q) : rIx X.K vx vy r.H Q := by
  rw [hK]
  unfold item at p
  split at p
  · cases hx with
    | tup t s =>
      cases hy
      split at p
      · rename_i e
        obtain ⟨v, h1, h2⟩ := getAt_ok s e
        exact .inr (.inl ⟨_, _, _, v, rfl, rfl, t.sq, h1, Post.here p l h2⟩)
      · exact False.elim p
  · rename_i ns i
    cases hx with
    | scr f =>
      cases hy
      split at p
      · rename_i k e
        refine .inl ⟨_, _, _, .int k, rfl, rfl, f.sq, ?_, Post.here p l (.int _)⟩
        unfold atI
        rw [List.length_map]
        have q : ∀ o : Option Nat, ixN ns.length i = o → ixAt ns.length i = o := fun o h => h
        cases h : ixN ns.length i with
        | none => rw [q _ h] at e; cases e
        | some j =>
          rw [q _ h] at e
          have e : ns[j]? = some k := e
          show (ns.map V.int)[j]? = some (.int k)
          rw [List.getElem?_map, e]; rfl
      · exact False.elim p
  · cases hx; cases hy
    split at p
    · rename_i hz
      split at p
      · rename_i c e
        refine .inr (.inr ⟨_, _, c, rfl, rfl, by rw [txt_length]; exact fits_of hz, ?_, ?_⟩)
        · exact e
        · exact Post.here p l (.str [c])
      · exact False.elim p
    · exact False.elim p
  · cases hy
    split at p
    · rename_i d e
      cases ex : lOf x S with
      | none => rw [ex] at e; cases e
      | some xs =>
        rw [ex] at e
        obtain ⟨a, vs, rfl, ra, sa⟩ := lOf_rep l hx ex
        obtain ⟨v, h1, h2⟩ := getAt_ok sa e
        exact .inl ⟨_, _, _, v, rfl, rfl, .inl ra, h1, Post.here p l h2⟩
    · exact False.elim p
  · exact False.elim p
theorem clip_ok : clip = HT.sIx := by
  funext n d o
  cases o <;> rfl
theorem cut_ok {xs : List D} {vs : List V} (h : Reps G r xs vs) (lo hi : Option Int) : Reps G r (cut xs lo hi) (cutV vs lo hi) := by
  unfold cut cutV
  rw [clip_ok, ← h.length]
  exact (h.drop _).take _
def rSlX (K : PySem.W.Frag) : V → Option Int → Option Int → Hp → VK → Prop := fun x lo hi H Q => rSlL K x lo hi H Q ∨ rSlA K x lo hi H Q ∨ rSlS x lo hi H Q
theorem sl_X : SlR X (rSlX X.K) := sl_list.or (sl_tupA.or sl_str)
theorem sl_ok (hK : X.K = G.K) {W : WX} {σV : L2.St} {x : D} {vx : V} {lo hi : Option Int} {Q : VK} (l : Rl G r S) (hx : Rep G r x vx) (p : Post G (Rep G) W σV r (slice x lo hi S) Q) : rSlX X.K vx lo hi r.H Q := by
  rw [hK]
  unfold slice at p
  split at p
  · cases hx with
    | tup t s =>
      refine .inr (.inl ⟨_, _, rfl, t.sq, fun hw => ?_, fun hw q hq => ?_⟩)
      · have e : ∀ xs : List D, HT.sIx xs.length 0 lo = 0 ∧ HT.sIx xs.length xs.length hi = xs.length → cut xs lo hi = xs := fun xs ⟨h1, h2⟩ => by
          unfold cut
          rw [clip_ok, h1, h2]
          simp
        rw [← s.length] at hw
        rw [e _ hw] at p
        exact Post.here p l (.tup t s)
      · exact Post.newTup p l (cut_ok s lo hi) hq
  · cases hx
    split at p
    · rename_i hz
      refine .inr (.inr ⟨_, rfl, by rw [txt_length]; exact fits_of hz, ?_⟩)
      rename_i y
      have e : cutS (txt y) lo hi = txt (cut y lo hi) := by
        unfold cutS cut txt
        rw [clip_ok]
        simp [Str.length]
      rw [e]
      exact Post.here p l (.str _)
    · exact False.elim p
  · split at p
    · rename_i ex
      obtain ⟨a, vs, rfl, ra, sa⟩ := lOf_rep l hx ex
      exact .inl ⟨_, _, rfl, .inl ra, fun q hq => Post.newLst p l (cut_ok sa lo hi) hq⟩
    · exact False.elim p
theorem rev_ok (hK : X.K = G.K) {W : WX} {σV : L2.St} {x : D} {vx : V} {Q : VK} (l : Rl G r S) (hx : Rep G r x vx) (p : Post G (Rep G) W σV r (revd x S) Q) :
    ∃ a xs, vx = .ref a ∧ ((SqL X.K r.H a xs ∧ ∀ p, r.H p = none → Q (.ref p) (upd r.H p (.lst xs.reverse))) ∨ (SqT X.K r.H a xs ∧ ∀ p, r.H p = none → Q (.ref p) (upd r.H p (.tup xs.reverse)))) := by
  rw [hK]
  unfold revd at p
  split at p
  · cases hx with
    | tup t s => exact ⟨_, _, rfl, .inr ⟨t.sq, fun q hq => Post.newTup p l s.reverse hq⟩⟩
  · split at p
    · rename_i ex
      obtain ⟨a, vs, rfl, ra, sa⟩ := lOf_rep l hx ex
      exact ⟨_, _, rfl, .inl ⟨.inl ra, fun q hq => Post.newLst p l sa.reverse hq⟩⟩
    · exact False.elim p
end
end DL
end
section
set_option Elab.async false
set_option autoImplicit false
set_option linter.all false
set_option maxRecDepth 100000
set_option maxHeartbeats 2000000
/-! DLt0: int(text) of up to 4300 digits. -/
namespace DL
open PySem PySem.Calls PySem.NumText PySem.W PyProof.Rows
theorem limit_step {M : Model} {A : Around} {E : Value → Shared → Prop} {s : Shared} {Q : Nat → Shared → Prop} (hn : s.heap.NoDigits) (h : Q 4300 s) : wpAny M A Builtin.intMaxStrDigits Q E s := by
  obtain ⟨mc, hns, hnone⟩ := hn
  unfold Builtin.intMaxStrDigits
  refine wpAny_bind (wpAny_nsGet hns ?_)
  rw [hnone]
  exact wpAny_pure h
theorem wp_text2 {M : Model} {A : Around} {E : Value → Shared → Prop} {s : Shared} {Q : Value → Shared → Prop} {v : Value} {text : List Nat} {n : Int} (hn : s.heap.NoDigits)
    (hs : ¬ (text.takeWhile (· != 0)).length ≤ 640) (hr : (int_private% "readNumeral") 4300 10 (text.takeWhile (· != 0)) = (int_private% "Numeral.value") n)
    (ha : ((text.takeWhile (· != 0)).length == text.length) = true) (h : Q (.int n s.toks) { s with toks := s.toks + 1 }) :
    wpAny M A ((int_private% "intFromText") v text 10) Q E s := by
  obtain ⟨hp, g, d, tk, os⟩ := s
  repeat (any_goals (first
    | assumption
    | (with_reducible refine wpAny_ite_false (decide_eq_false hs) ?_)
    | (with_reducible refine wpAny_ite_true (decide_eq_true ha) ?_)
    | (with_reducible refine limit_step hn ?_)
    | wp_step))
  all_goals (try rw [hr])
  all_goals (try dsimp only)
  repeat (any_goals (first
    | assumption
    | (with_reducible refine wpAny_ite_true (decide_eq_true ha) ?_)
    | wp_step))
theorem wp_textA {M : Model} {A : Around} {E : Value → Shared → Prop} {s : Shared} {Q : Value → Shared → Prop} {v : Value} {x : PySem.Str} {n : Int} (hn : s.heap.NoDigits) (hx : x.length ≤ sizeLine) (ht : PySem.intText? x = some n)
    (h : Q (.int n s.toks) { s with toks := s.toks + 1 }) : wpAny M A ((int_private% "intFromText") v (numTextOf x) 10) Q E s := by
  rcases readAny x hx with ⟨m, h1, h2, h3⟩ | ⟨h1, _⟩
  · rw [ht] at h1
    cases h1
    by_cases hs : (numSeenOf x).length ≤ 640
    · refine KIN.wp_text hs ?_ h2 h
      have e : numLimitOf x = 0 := if_pos hs
      rw [e] at h3; exact h3
    · refine wp_text2 hn hs ?_ h2 h
      have e : numLimitOf x = 4300 := if_neg hs
      rw [e] at h3; exact h3
  · rw [ht] at h1; cases h1
structure Hid2 (p : Prop) : Prop where
  out : p
set_option maxHeartbeats 4000000 in
theorem meets_text2 {x : PySem.Str} {u : Tok} {n : Int} (hx : x.length ≤ sizeLine) (ht : PySem.intText? x = some n) :
    Meets (Builtin.«int.__new__» ⟨[.type "int", .str x u], []⟩) (fun _ R s => s.heap.NoDigits ∧ R (.ok (.ret (.int n s.toks))) { s with toks := s.toks + 1 }) := fun prog w A R s h => by
  obtain ⟨hn, h⟩ := h
  obtain ⟨hp, g, d, tk, os⟩ := s
  have f1 := F.conv_sub_int
  have f2 := F.madeHere_int
  have f3 := KIN.str_int
  have f4 := KIN.str_idx
  have f5 := KIN.str_trunc
  have f6 : typeOf (.str x u) = pure (.type "str") := rfl
  have hk := Hid2.mk (And.intro hx ht)
  clear hx ht
  repeat (any_goals (first
    | assumption
    | ((with_reducible show wpAny _ _ ((int_private% "intFromText") _ _ _) _ _ _); refine wp_textA hn hk.out.1 hk.out.2 ?_)
    | wp_step))
theorem call_text2 {prog : Program} {w : World} {A : Around} {E : Value → Shared → Prop} {s : Shared} {Q : Value → Shared → Prop} {x : PySem.Str} {t : Tok} {n : Int} (hd : s.heap.NoDigits) (hn : PySem.intText? x = some n) (hx : x.length ≤ sizeLine)
    (h : Q (.int n s.toks) { s with toks := s.toks + 1 }) : wpAny (model prog w) A (call (.type "int") [.str x t]) Q E s :=
  call_int_1 (meets_text2 hx hn) ⟨hd, ⟨typeIs_int _ _ _, h⟩⟩
end DL
end
section
set_option Elab.async false
set_option autoImplicit false
set_option linter.all false
set_option maxRecDepth 100000
set_option maxHeartbeats 2000000
/-! DLg: built-in functions. -/
namespace DL
open PySem PySem.Spec PyProof.Rows L2

/-! ### the text of an integer -/
theorem digitChar_nat : ∀ n : Nat, n < 10 → (Nat.digitChar n).toNat = 48 + n := by decide
theorem digits_core : ∀ (fuel n : Nat) (cs : List Char) (acc : List Nat) (f2 : Nat), acc = cs.map Char.toNat → n < fuel → n < 2 ^ f2 → 0 < f2 → (Nat.toDigitsCore 10 fuel n cs).map Char.toNat = digitsN f2 n acc := by
  intro fuel
  induction fuel with
  | zero => intro n cs acc f2 _ h; omega
  | succ fuel ih =>
    intro n cs acc f2 ha hf h2 h0
    unfold Nat.toDigitsCore
    cases f2 with
    | zero => omega
    | succ k =>
      unfold digitsN
      simp only
      have hd := digitChar_nat (n % 10) (Nat.mod_lt _ (by decide))
      by_cases hn : n / 10 = 0
      · rw [if_pos hn, if_pos hn, List.map_cons, hd, ha]
      · rw [if_neg hn, if_neg hn]
        have h3 : n / 10 < 2 ^ k := by
          rw [Nat.pow_succ] at h2
          omega
        refine ih (n / 10) _ _ k (by rw [List.map_cons, hd, ha]) (by omega) h3 ?_
        cases k with
        | zero => simp at h3; omega
        | succ k => omega
theorem repr_nat (n : Nat) : (Nat.toDigits 10 n).map Char.toNat = digitsN (n.log2 + 1) n [] := by
  unfold Nat.toDigits
  exact digits_core (n + 1) n [] [] _ rfl (Nat.lt_succ_self n) Nat.lt_log2_self (Nat.succ_pos _)
theorem toString_txt (i : Int) : (Str.ofString (toString i)) = txt (intText i) := by
  rw [Str.ofString_eq_toList]
  unfold txt intText
  congr 1
  cases i with
  | ofNat n =>
    have h : ¬ (Int.ofNat n < 0) := by simp
    rw [if_neg h]
    show (((Nat.repr n).toList.map Char.toNat)).toArray = _
    unfold Nat.repr
    rw [String.toList_ofList, repr_nat]
    rfl
  | negSucc n =>
    have h : Int.negSucc n < 0 := Int.negSucc_lt_zero n
    rw [if_pos h]
    show ((("-" ++ Nat.repr (Nat.succ n)).toList.map Char.toNat)).toArray = _
    unfold Nat.repr
    rw [String.toList_append, List.map_append, String.toList_ofList, String.toList_ofList, repr_nat]
    rfl
/-- a built-in's rule tells what bi tells -/
def BS (G : Glob) (X : Cx) (f : Value) (b : Bi) : Prop :=
  ∃ rr : List V → Hp → VK → Prop, CallR X f rr ∧ ∀ (W : WX) (σV : L2.St) (ds : List D) (S : Store) (r : RS) (vs : List V) (Q : VK), Rl G r S → Reps G r ds vs → Post G (Rep G) W σV r (bi b ds S) Q → rr vs r.H Q
section
variable {X : Cx} {G : Glob} {r : RS} {S : Store}
theorem bools_ok : ∀ {ds : List D} {vs : List V} {bs : List Bool}, Reps G r ds vs → boolsOf ds = some bs → vs = bs.map V.bl
  | [], _, _, h, e => by cases h; cases e; rfl
  | d :: ds, _, bs, h, e => by
    cases h with
    | cons h1 h2 =>
      cases d with
      | bl b =>
        cases h1
        unfold boolsOf at e
        cases q : boolsOf ds with
        | none => rw [q] at e; cases e
        | some cs =>
          rw [q] at e
          cases e
          rw [bools_ok h2 q]; rfl
      | _ => cases e
theorem bs1 {f : Value} {b : Bi} {op : D → Store → Out D} {rr : List V → Hp → VK → Prop} (hb : bi b = on1 op) (hr : CallR X f rr)
    (h : ∀ (W : WX) (σV : L2.St) (d : D) (S : Store) (r : RS) (v : V) (Q : VK), Rl G r S → Rep G r d v → Post G (Rep G) W σV r (op d S) Q → rr [v] r.H Q) : BS G X f b := by
  refine ⟨_, hr, fun W σV ds S r vs Q l q p => ?_⟩
  rw [hb] at p
  cases q with
  | nil => exact False.elim p
  | cons h1 h2 =>
    cases h2 with
    | nil => exact h W σV _ S r _ Q l h1 p
    | cons _ _ => exact False.elim p
theorem bs2 {f : Value} {b : Bi} {op : D → D → Store → Out D} {rr : List V → Hp → VK → Prop} (hb : bi b = on2 op) (hr : CallR X f rr)
    (h : ∀ (W : WX) (σV : L2.St) (d e : D) (S : Store) (r : RS) (v w : V) (Q : VK), Rl G r S → Rep G r d v → Rep G r e w → Post G (Rep G) W σV r (op d e S) Q → rr [v, w] r.H Q) : BS G X f b := by
  refine ⟨_, hr, fun W σV ds S r vs Q l q p => ?_⟩
  rw [hb] at p
  cases q with
  | nil => exact False.elim p
  | cons h1 h2 =>
    cases h2 with
    | nil => exact False.elim p
    | cons h2 h3 =>
      cases h3 with
      | nil => exact h W σV _ _ S r _ _ Q l h1 h2 p
      | cons _ _ => exact False.elim p
theorem bs_abs : BS G X (.builtin "abs") .abs := by
  refine bs1 rfl call_abs fun W σV d S r v Q l h p => ?_
  cases h <;> first | exact False.elim p | exact ⟨_, rfl, Post.here p l (.int _)⟩
theorem bs_all (hK : X.K = G.K) (hc : X.calm = true) : BS G X (.builtin "all") .all := by
  refine bs1 rfl (cr_all hc) fun W σV d S r v Q l h p => ?_
  unfold allD at p
  rw [hK]
  cases e : lOf d S with
  | none => rw [e] at p; exact False.elim p
  | some xs =>
    rw [e] at p
    obtain ⟨a, vs, rfl, ra, sa⟩ := lOf_rep l h e
    cases e2 : boolsOf xs with
    | none =>
      have p : Post G (Rep G) W σV r (match boolsOf xs with | some bs => Out.ok (.bl (bs.all id)) S | none => .bad) Q := p
      rw [e2] at p; exact False.elim p
    | some bs =>
      have p : Post G (Rep G) W σV r (match boolsOf xs with | some bs => Out.ok (.bl (bs.all id)) S | none => .bad) Q := p
      rw [e2] at p
      have eb := bools_ok sa e2
      subst eb
      exact ⟨a, bs, rfl, .inl ra, Post.here p l (.bl _)⟩
theorem bs_any (hK : X.K = G.K) (hc : X.calm = true) : BS G X (.builtin "any") .any := by
  refine bs1 rfl (cr_any hc) fun W σV d S r v Q l h p => ?_
  unfold anyD at p
  rw [hK]
  cases e : lOf d S with
  | none => rw [e] at p; exact False.elim p
  | some xs =>
    rw [e] at p
    obtain ⟨a, vs, rfl, ra, sa⟩ := lOf_rep l h e
    cases e2 : boolsOf xs with
    | none =>
      have p : Post G (Rep G) W σV r (match boolsOf xs with | some bs => Out.ok (.bl (bs.any id)) S | none => .bad) Q := p
      rw [e2] at p; exact False.elim p
    | some bs =>
      have p : Post G (Rep G) W σV r (match boolsOf xs with | some bs => Out.ok (.bl (bs.any id)) S | none => .bad) Q := p
      rw [e2] at p
      have eb := bools_ok sa e2
      subst eb
      exact ⟨a, bs, rfl, .inl ra, Post.here p l (.bl _)⟩
theorem bs_divmod : BS G X (.builtin "divmod") .divmod := by
  refine bs2 rfl call_divmod fun W σV d e S r v w Q l h h' p => ?_
  unfold divmodD at p
  split at p
  · cases h; cases h'
    split at p
    · rename_i hz
      rw [Bool.and_eq_true, decide_eq_true_eq, decide_eq_true_eq] at hz
      exact ⟨_, _, rfl, hz, fun q hq => Post.newTup p l (.cons (.int _) (.cons (.int _) .nil)) hq⟩
    · exact False.elim p
  · exact False.elim p
/-- a name that a written dict does not hold -/
theorem ns_none {K : PySem.W.Frag} {h : Heap} {a : Addr} {m : Str → Option Value} {n : Str} (kin : K.In h) (ns : h.Ns a m) (e : PySem.W.nsIn K a n = some none) : m n = none := by
  obtain ⟨o, es, ep, ho, hd, _, hf⟩ := ns
  unfold PySem.W.nsIn at e
  cases q : K.lookup a with
  | none => rw [q] at e; cases e
  | some o' =>
    have h1 := kin _ _ q
    rw [ho] at h1
    cases h1
    obtain ⟨c, d, dt, sl⟩ := o
    cases hd
    rw [q] at e
    dsimp only at e
    rw [← hf]
    unfold nsFind findBy
    rw [← Array.find?_toList]
    cases w : es.toList.find? (fun x => x.key.isStr n) with
    | some en => rw [w] at e; cases e
    | none => rfl
theorem Inv.noDigits {pins : List (Addr × Obj)} {σ : L2.St} {H : Hp} {s : Shared} (I : Inv X pins σ H s) (hd : PySem.W.nsIn X.K cStatics "sys.int_max_str_digits" = some none) : s.heap.NoDigits := by
  obtain ⟨mc, h1, _⟩ := I.ok.mod.nolimit
  have h2 : s.heap.Ns cStatics mc := h1.keeps I.bk
  exact ⟨mc, h2, ns_none I.kIn h2 hd⟩
theorem call_int_str2 (hd : PySem.W.nsIn X.K cStatics "sys.int_max_str_digits" = some none) : CallR X (.type "int") (fun xs H Q => ∃ a n, xs = [.str a] ∧ PySem.intText? a = some n ∧ a.length ≤ sizeLine ∧ Q (.int n) H) := by
  intro pins s σ H xs us Q I rs h
  obtain ⟨a, n, rfl, hn, hl, h⟩ := h
  cases rs with
  | cons r1 rs =>
    cases rs
    obtain ⟨t, rfl⟩ := r1
    exact call_text2 (Inv.noDigits I hd) hn hl ⟨.int n, H, I.tok _, ⟨_, rfl⟩, h⟩
theorem intOf_ok {x : List Nat} {n : Nat} (h : intOf x = some n) : PySem.intText? (txt x) = some (n : Int) ∧ (txt x).length ≤ sizeLine := by
  unfold intOf at h
  split at h
  · rename_i q
    simp only [Bool.and_eq_true, List.all_eq_true, Bool.not_eq_true', List.isEmpty_eq_false_iff] at q
    obtain ⟨⟨q1, q2⟩, q3⟩ := q
    cases h
    have e : (txt x).cps.toList = x := by simp [txt]
    refine ⟨?_, ?_⟩
    · rw [intText_digits (x := txt x) (by rw [e]; intro c hc; exact ⟨Nat.le_of_ble_eq_true (q1 c hc).1, Nat.le_of_ble_eq_true (q1 c hc).2⟩) (by rw [e]; exact q2) (by rw [txt_length]; exact isOk q3), e]
      rfl
    · rw [txt_length]
      exact Nat.le_trans (isOk q3) (by decide)
  · cases h
theorem bs_int (hd : PySem.W.nsIn X.K cStatics "sys.int_max_str_digits" = some none) : BS G X (.type "int") .int := by
  refine bs1 rfl (CallR.or call_int1 (call_int_str2 hd)) fun W σV d S r v Q l h p => ?_
  cases h with
  | int i => exact .inl (.inl ⟨_, rfl, Post.here p l (.int _)⟩)
  | bl b => exact .inl (.inr ⟨_, rfl, Post.here p l (.int _)⟩)
  | str x =>
    have p : Post G (Rep G) W σV r (match intOf x with | some n => .ok (.int n) S | none => .bad) Q := p
    split at p
    · rename_i n e
      obtain ⟨h1, h2⟩ := intOf_ok e
      exact .inr ⟨_, _, rfl, h1, h2, Post.here p l (.int _)⟩
    · exact False.elim p
  | _ => exact False.elim p
theorem bs_bool : BS G X (.type "bool") .bool := by
  refine bs1 rfl call_bool1 fun W σV d S r v Q l h p => ?_
  cases h <;> first | exact False.elim p | exact .inl ⟨_, rfl, Post.here p l (.bl _)⟩ | exact .inr ⟨_, rfl, Post.here p l (.bl _)⟩
theorem call_str_str : CallR X (.type "str") (fun xs H Q => ∃ a, xs = [.str a] ∧ Q (.str a) H) := by
  intro pins s σ H xs us Q I r h
  obtain ⟨a, rfl, q⟩ := h
  obtain ⟨u, rfl, t, rfl⟩ := vals1 r
  exact PySem.P.str_of_str ⟨.str a, H, I, ⟨t, rfl⟩, q⟩
theorem bs_str : BS G X (.type "str") .str := by
  refine bs1 rfl (call_str_int.or call_str_str) fun W σV d S r v Q l h p => ?_
  unfold strD at p
  split at p
  · cases h
    split at p
    · rename_i hz
      refine .inl ⟨_, rfl, Nat.lt_succ_of_le (isOk hz), ?_⟩
      show Q (.str (Str.ofString _)) r.H
      rw [toString_txt]
      exact Post.here p l (.str _)
    · exact False.elim p
  · cases h
    exact .inr ⟨_, rfl, Post.here p l (.str _)⟩
  · exact False.elim p
theorem bs_len (hK : X.K = G.K) : BS G X (.builtin "len") .len := by
  refine bs1 rfl call_len fun W σV d S r v Q l h p => ?_
  rw [hK]
  unfold lenD at p
  cases e : lenOf d S with
  | none => rw [e] at p; exact False.elim p
  | some n =>
    rw [e] at p
    refine ⟨v, n, rfl, ?_, Post.here p l (.int _)⟩
    unfold lenOf at e
    split at e
    · cases h with
      | tup t s => cases e; exact .inr ⟨_, t.sq, s.length⟩
    · cases h with
      | scr f => cases e; exact .inl ⟨_, f.sq, by rw [List.length_map]⟩
    · cases h
      split at e
      · rename_i hz
        cases e
        exact ⟨by rw [txt_length]; exact fits_of hz, (txt_length _).symm⟩
      · cases e
    · cases ex : lOf d S with
      | none => rw [ex] at e; cases e
      | some xs =>
        rw [ex] at e
        cases e
        obtain ⟨a, vs, rfl, ra, sa⟩ := lOf_rep l h ex
        exact .inl ⟨vs, .inl ra, sa.length⟩
theorem bs_list (hK : X.K = G.K) : BS G X (.type "list") .list := by
  refine bs1 rfl call_list_of fun W σV d S r v Q l h p => ?_
  rw [hK]
  unfold listD at p
  cases e : seqOf d S with
  | none => rw [e] at p; exact False.elim p
  | some xs =>
    rw [e] at p
    obtain ⟨a, vs, rfl, q, sa⟩ := seqOf_rep l h e
    refine ⟨a, vs, rfl, ?_, fun q hq => Post.newLst p l sa hq⟩
    rcases q with ⟨q, _⟩ | ⟨q, _⟩
    · exact .inl (.inl q)
    · exact .inr q.sq
theorem bs_tuple (hK : X.K = G.K) : BS G X (.type "tuple") .tuple := by
  refine bs1 rfl call_tuple_of fun W σV d S r v Q l h p => ?_
  rw [hK]
  unfold tupleD at p
  cases e : seqOf d S with
  | none => rw [e] at p; exact False.elim p
  | some xs =>
    rw [e] at p
    obtain ⟨a, vs, rfl, q, sa⟩ := seqOf_rep l h e
    refine ⟨a, vs, rfl, ?_⟩
    rcases q with ⟨q, _⟩ | ⟨q, ed⟩
    · exact .inl ⟨.inl q, fun q hq => Post.newTup p l sa hq⟩
    · exact .inr ⟨q.sq, Post.here p l (.tup q sa)⟩
theorem bs_max (hc : X.calm = true) : BS G X (.builtin "max") .max := by
  refine bs2 rfl (call_max2 hc) fun W σV d e S r v w Q l h h' p => ?_
  unfold maxD at p
  split at p
  · cases h; cases h'
    exact ⟨_, _, rfl, Post.here p l (.int _)⟩
  · exact False.elim p
theorem bs_min (hc : X.calm = true) : BS G X (.builtin "min") .min := by
  refine bs2 rfl (call_min2 hc) fun W σV d e S r v w Q l h h' p => ?_
  unfold minD at p
  split at p
  · cases h; cases h'
    exact ⟨_, _, rfl, Post.here p l (.int _)⟩
  · exact False.elim p
theorem ints_ok : ∀ {ds : List D} {vs : List V} {r : RS} {is : List Int}, Reps G r ds vs → intsOf ds = some is → vs = is.map V.int
  | [], _, _, _, .nil, h => by cases h; rfl
  | .int i :: ds, _, _, is, .cons h hs, e => by
    unfold intsOf at e
    cases q : intsOf ds with
    | none => rw [q] at e; cases e
    | some us =>
      rw [q] at e; cases e
      cases h
      rw [ints_ok hs q]; rfl
  | .non :: _, _, _, _, _, e => by cases e
  | .bl _ :: _, _, _, _, _, e => by cases e
  | .str _ :: _, _, _, _, _, e => by cases e
  | .tup _ :: _, _, _, _, _, e => by cases e
  | .lst _ :: _, _, _, _, _, e => by cases e
  | .ref _ :: _, _, _, _, _, e => by cases e
  | .fn _ :: _, _, _, _, _, e => by cases e
  | .exn _ _ :: _, _, _, _, _, e => by cases e
  | .scr _ :: _, _, _, _, _, e => by cases e
  | .map _ _ :: _, _, _, _, _, e => by cases e
  | .lams _ :: _, _, _, _, _, e => by cases e
  | .lam _ :: _, _, _, _, _, e => by cases e
  | .obj _ _ :: _, _, _, _, _, e => by cases e
  | .dct _ :: _, _, _, _, _, e => by cases e
theorem leastI_le : ∀ (m : Int) (is : List Int), leastI m is ≤ m ∧ (∀ i ∈ is, leastI m is ≤ i) ∧ (leastI m is = m ∨ leastI m is ∈ is)
  | m, [] => by simp [leastI]
  | m, i :: is => by
    obtain ⟨h1, h2, h3⟩ := leastI_le (if i < m then i else m) is
    unfold leastI
    by_cases hm : i < m
    · rw [if_pos hm] at h1 h2 h3 ⊢
      refine ⟨by omega, fun j hj => ?_, ?_⟩
      · rcases List.mem_cons.mp hj with rfl | hj
        · exact h1
        · exact h2 j hj
      · rcases h3 with h3 | h3
        · exact .inr (by rw [h3]; exact List.mem_cons_self)
        · exact .inr (List.mem_cons_of_mem _ h3)
    · rw [if_neg hm] at h1 h2 h3 ⊢
      refine ⟨h1, fun j hj => ?_, ?_⟩
      · rcases List.mem_cons.mp hj with rfl | hj
        · omega
        · exact h2 j hj
      · rcases h3 with h3 | h3
        · exact .inl h3
        · exact .inr (List.mem_cons_of_mem _ h3)
theorem bs_sum (hK : X.K = G.K) (hc : X.calm = true) : BS G X (.builtin "sum") .sum := by
  refine bs1 rfl (cr_sum hc) fun W σV d S r v Q l h p => ?_
  rw [hK]
  unfold sumD at p
  cases e : lOf d S with
  | none => rw [e] at p; exact False.elim p
  | some xs =>
    rw [e] at p
    dsimp only [Option.bind] at p
    split at p
    · rename_i is e2
      obtain ⟨a, vs, rfl, ra, sa⟩ := lOf_rep l h e
      have ev := ints_ok sa e2
      exact ⟨a, is, rfl, .inl (by rw [← ev]; exact ra), Post.here p l (.int _)⟩
    · exact False.elim p
theorem bs_minl (hK : X.K = G.K) (hc : X.calm = true) : BS G X (.builtin "min") .minl := by
  refine bs1 rfl (cr_min hc) fun W σV d S r v Q l h p => ?_
  rw [hK]
  unfold minlD at p
  cases e : lOf d S with
  | none => rw [e] at p; exact False.elim p
  | some xs =>
    rw [e] at p
    dsimp only [Option.bind] at p
    split at p
    · rename_i i is e2
      obtain ⟨a, vs, rfl, ra, sa⟩ := lOf_rep l h e
      obtain ⟨l1, l2, l3⟩ := leastI_le i is
      have ev := ints_ok sa e2
      refine ⟨a, i :: is, rfl, .inl (by rw [← ev]; exact ra), by simp, fun m hm hle => ?_⟩
      have : m = leastI i is := by
        have h1 : leastI i is ≤ m := by
          rcases List.mem_cons.mp hm with rfl | hm
          · exact l1
          · exact l2 m hm
        have h2 : m ≤ leastI i is := by
          rcases l3 with l3 | l3
          · rw [l3]; exact hle i List.mem_cons_self
          · exact hle _ (List.mem_cons_of_mem _ l3)
        omega
      rw [this]
      exact Post.here p l (.int _)
    · exact False.elim p
/-! ### isinstance -/
def tyN : Ty → String
  | .non => "NoneType"
  | .bool => "bool"
  | .int => "int"
  | .str => "str"
  | .tup => "tuple"
  | .lst => "list"
  | .dict => "dict"
def dTy : D → Option Ty
  | .non => some .non
  | .bl _ => some .bool
  | .int _ => some .int
  | .str _ => some .str
  | .tup _ => some .tup
  | .lst _ => some .lst
  | .ref _ => some .lst
  | .map _ _ => some .dict
  | _ => none
theorem tyx_ok (l : Rl G r S) (hS : ∀ n : Nat, r.mu[n]? ≠ none → S[n]? ≠ none) {d : D} {v : V} {t : Ty} (h : Rep G r d v) (e : dTy d = some t) : TyX G.K r.H v (.type (tyN t)) := by
  cases h with
  | non => cases e; exact .base .non
  | bl b => cases e; exact .base (.bl b)
  | int i => cases e; exact .base (.int i)
  | str x => cases e; exact .base (.str _)
  | tup q s =>
    cases e
    rcases q with ⟨q, _⟩ | ⟨o, its, n, a, b, _⟩
    · rcases q with q | ⟨o, q⟩
      · exact .base (.tup q)
      · exact .fTuple q
    · exact .kTuple a b
  | lst q _ _ =>
    cases e
    rcases q with q | ⟨o, q⟩
    · exact .base (.lst q)
    · exact .base (.frz q)
  | ref q qk =>
    cases e
    rename_i n a
    cases ex : S[n]? with
    | none => exact absurd ex (hS n (by rw [q]; exact Option.some_ne_none _))
    | some xs =>
      obtain ⟨b, vs, h1, h2, _⟩ := l.lst qk ex
      rw [q] at h1; cases h1
      exact .base (.lst h2)
  | dic h z => cases e; exact .base (.dK h)
  | _ => cases e
def tyLe : Ty → Ty → Bool
  | .bool, .int => true
  | a, b => decide (a = b)
theorem ty_kit : ∀ a b : Ty, kitB (tyN a) (tyN b) = some (tyLe a b) := by
  intro a b
  cases a <;> cases b <;> decide +kernel
theorem tyIs_eq {d : D} {t : Ty} (e : dTy d = some t) (u : Ty) (hu : u ≠ .non) : tyIs d u = tyLe t u := by
  cases d <;> cases e <;> cases u <;> first | rfl | exact absurd rfl hu
theorem mu_len (l : Rl G r S) : ∀ n : Nat, r.mu[n]? ≠ none → S[n]? ≠ none := fun n h q => by
  rw [List.getElem?_eq_none_iff] at q
  exact h (List.getElem?_eq_none_iff.mpr (by rw [l.len]; exact q))
theorem kitAny_tys {K : PySem.W.Frag} {d : D} {t : Ty} (e : dTy d = some t) : ∀ us : List Ty, (∀ u ∈ us, u ≠ .non) → PySem.W.kitAny K (.type (tyN t)) (us.map fun u => Value.type (tyN u)) = some (us.any fun u => tyIs d u)
  | [], _ => rfl
  | u :: us, h => by
    rw [List.map_cons, List.any_cons]
    refine kitAny_cons (b := tyIs d u) ?_ (fun hb => ?_) (fun hb => ?_)
    · rw [tyIs_eq e u (h u List.mem_cons_self)]
      exact kit_ty (ty_kit t u)
    · rw [hb, Bool.false_or]
      exact kitAny_tys e us fun w hw => h w (List.mem_cons_of_mem _ hw)
    · rw [hb, Bool.true_or]
theorem isD_ok {ts : List Ty} {d : D} {W : WX} {σV : L2.St} {v : V} {Q : VK} (h : Rep G r d v) (p : Post G (Rep G) W σV r (isD ts d S) Q) : ∃ t, dTy d = some t ∧ Post G (Rep G) W σV r (.ok (.bl (ts.any fun u => tyIs d u)) S) Q := by
  cases h <;> first | exact False.elim p | exact ⟨_, rfl, p⟩
end
end DL
end
section
set_option Elab.async false
set_option autoImplicit false
set_option linter.all false
set_option maxRecDepth 100000
set_option maxHeartbeats 2000000
/-! DLs: a text split at one sign. -/
namespace DL
open PySem PySem.Builtin PySem.Builtin.Str
def tx (x : List Nat) : Str := ⟨x.toArray⟩
theorem tx_len (x : List Nat) : (tx x).length = x.length := by simp [tx, Str.length]
theorem sub_one (x : List Nat) (c i : Nat) : subAt (tx x) (tx [c]) i = decide (x[i]? = some c) := by
  have e : (tx x).cps.extract i (i + (tx [c]).length) = ((x.drop i).take 1).toArray := by
    rw [tx_len]
    simp [tx, List.extract_toArray, List.extract_eq_drop_take]
  unfold subAt
  rw [e]
  cases h : x[i]? with
  | none =>
    have hl : x.length ≤ i := List.getElem?_eq_none_iff.mp h
    rw [List.drop_eq_nil_of_le hl]
    simp [tx]
  | some d =>
    obtain ⟨hl, rfl⟩ := List.getElem?_eq_some_iff.mp h
    have e2 : (x.drop i).take 1 = [x[i]] := by rw [List.drop_eq_getElem_cons hl]; rfl
    rw [e2]
    by_cases hd : x[i] = c <;> simp [tx, hd]
/-- where the sign stands -/
def occL (x : List Nat) (c k m : Nat) : List Nat := (List.range' k m).filter fun i => decide (x[i]? = some c)
theorem occ_go (x : List Nat) (c lim : Nat) : ∀ (m k free : Nat) (found : Array Nat), free ≤ k → found.size + m ≤ lim → k + m ≤ x.length + 1 →
    (forIn (m := Id) (List.range' k m) (found, free) (StrLaws.occBody (tx x) (tx [c]) (tx x).length lim)).run.fst.toList = found.toList ++ occL x c k m
  | 0, k, free, found, _, _, _ => by simp [occL]
  | m + 1, k, free, found, h1, h2, h3 => by
    rw [List.range'_succ, List.forIn_cons]
    unfold StrLaws.occBody
    rw [sub_one, tx_len, tx_len]
    by_cases hc : x[k]? = some c
    · have hl : k < x.length := (List.getElem?_eq_some_iff.mp hc).1
      rw [if_pos ⟨⟨⟨by show found.size < lim; omega, h1⟩, by simp; omega⟩, decide_eq_true hc⟩]
      show (forIn (m := Id) (List.range' (k + 1) m) (found.push k, k + 1) (StrLaws.occBody (tx x) (tx [c]) x.length lim)).run.fst.toList = _
      have := occ_go x c lim m (k + 1) (k + 1) (found.push k) (Nat.le_refl _) (by simp; omega) (by omega)
      rw [tx_len] at this
      rw [this]
      simp [occL, List.range'_succ, hc]
    · rw [if_neg (by rintro ⟨_, z⟩; exact hc (of_decide_eq_true z))]
      show (forIn (m := Id) (List.range' (k + 1) m) (found, free) (StrLaws.occBody (tx x) (tx [c]) x.length lim)).run.fst.toList = _
      have := occ_go x c lim m (k + 1) free found (by omega) (by omega) (by omega)
      rw [tx_len] at this
      rw [this]
      simp [occL, List.range'_succ, hc]
theorem occ_all (x : List Nat) (c : Nat) : occurrences (tx x) (tx [c]) 0 (tx x).length ((tx x).length + 1) = occL x c 0 (x.length + 1) := by
  rw [StrLaws.occ_eq]
  have := occ_go x c ((tx x).length + 1) (x.length + 1) 0 0 #[] (Nat.le_refl _) (by rw [tx_len]; simp) (by omega)
  rw [tx_len] at this ⊢
  simpa using this
theorem sub_cut (x : List Nat) (a k : Nat) (h : a ≤ k) : strSub (tx x) a k = tx ((x.drop a).take (k - a)) := by
  unfold strSub tx
  simp [List.extract_toArray, List.extract_eq_drop_take]
/-- the parts, from the left -/
theorem parts_go (x : List Nat) (c : Nat) : ∀ (m a k : Nat), a ≤ k → k + m = x.length →
    (((a :: (occL x c k m).map (· + 1)).zip (occL x c k m ++ [x.length])).map fun (p : Nat × Nat) => strSub (tx x) p.1 p.2) = (splitL c (x.drop k) ((x.drop a).take (k - a)).reverse).map tx
  | 0, a, k, h1, h2 => by
    have e : x.drop k = [] := List.drop_eq_nil_of_le (by omega)
    have hk : k = x.length := by omega
    rw [e]
    subst hk
    simp [occL, splitL, sub_cut x a _ h1]
  | m + 1, a, k, h1, h2 => by
    have hl : k < x.length := by omega
    rw [List.drop_eq_getElem_cons hl]
    have eo : occL x c k (m + 1) = (if x[k]? = some c then [k] else []) ++ occL x c (k + 1) m := by
      unfold occL
      rw [List.range'_succ, List.filter_cons]
      by_cases hc : x[k]? = some c <;> simp [hc]
    have ek : x[k]? = some x[k] := List.getElem?_eq_getElem hl
    rw [eo, ek]
    by_cases hc : x[k] = c
    · have := parts_go x c m (k + 1) (k + 1) (Nat.le_refl _) (by omega)
      rw [if_pos (by rw [hc])]
      simp only [List.singleton_append, List.map_cons, List.cons_append, List.zip_cons_cons, List.nil_append]
      rw [splitL, if_pos hc, List.map_cons, List.reverse_reverse, this, sub_cut x a k h1]
      simp
    · have := parts_go x c m a (k + 1) (by omega) (by omega)
      rw [if_neg (by intro z; exact hc (Option.some.inj z))]
      rw [List.nil_append, this, splitL, if_neg hc]
      congr 2
      have e2 : (x.drop a).take (k + 1 - a) = (x.drop a).take (k - a) ++ [x[k]] := by
        have : k + 1 - a = (k - a) + 1 := by omega
        rw [this, List.take_add_one]
        have hg : (x.drop a)[k - a]? = some x[k] := by
          rw [List.getElem?_drop]
          have : a + (k - a) = k := by omega
          rw [this, ek]
        rw [hg]; rfl
      rw [e2]
      simp
theorem occL_end (x : List Nat) (c : Nat) : occL x c 0 (x.length + 1) = occL x c 0 x.length := by
  unfold occL
  rw [List.range'_concat, List.filter_append]
  simp
theorem split_ok (x : List Nat) (c : Nat) : Txt.split (tx x) (tx [c]) = (splitL c x []).map tx := by
  have h1 : Txt.split (tx x) (tx [c]) = partsBetween (tx x) (occurrences (tx x) (tx [c]) 0 (tx x).length ((tx x).length + 1)) (tx [c]).length := by
    unfold Txt.split
    split
    · rename_i h
      rw [PySem.W.occ_nil_of_no (tx x) (tx [c]) _ fun i hi => ?_, PySem.W.parts_nil]
      rcases Bool.or_eq_true_iff.mp h with h | h
      · have := of_decide_eq_true h; omega
      · cases e : subAt (tx x) (tx [c]) i
        · rfl
        · have := PySem.W.kind_le (tx x) (tx [c]) e; have := of_decide_eq_true h; omega
    · split
      · rename_i h; rw [List.isEmpty_iff.mp h, PySem.W.parts_nil]
      · rfl
  rw [h1, occ_all, occL_end]
  have := parts_go x c x.length 0 0 (Nat.le_refl _) (by omega)
  unfold partsBetween
  rw [tx_len, tx_len]
  simp at this ⊢
  exact this
end DL
end
section
set_option Elab.async false
set_option autoImplicit false
set_option linter.all false
set_option maxRecDepth 100000
set_option maxHeartbeats 2000000
/-! DLh: the nodes of an expression. -/
namespace DL
open PySem PySem.Spec PyProof.Rows L2 LamX LX

/-- the law's word of errors -/
structure WdA where
  x : Str
  a : Str
  n : Str
  fine : List Nat
  hcs : List HC
  hds : List Hd
def HdOk (G : Glob) (cA : Str → Addr) : HC → Hd → Prop
  | .plain c w, h => h.m = none ∧ w = txt h.w ∧ ∀ j, j < G.nE → PySem.W.exmOne G.K (.ref (G.exA j)) (.ref (cA c)) = some (h.cs.elem j)
  | .kept c f w m, h => h.m = some m ∧ w = txt h.w ∧ (∀ j, j < G.nE → PySem.W.exmOne G.K (.ref (G.exA j)) (.ref (cA c)) = some (h.cs.elem j)) ∧ ∀ j, j < G.nE → h.cs.elem j = true → G.exA j = cA c ∧ G.exF j = some f
def HdsOk (G : Glob) (cA : Str → Addr) : List HC → List Hd → Prop
  | [], [] => True
  | c :: cs, h :: hs => HdOk G cA c h ∧ HdsOk G cA cs hs
  | _, _ => False
structure WordOk (G : Glob) (X : Cx) (wd : WdA) (g : Addr) (cdv : Value) (sg : Scope) (bg : List Stmt) (cA : Str → Addr) : Prop where
  mg : X.mg wd.x = some (.ref g)
  kp : PySem.W.keepIn X.K (.ref g) = true
  ww : WordW X wd.x wd.a wd.n g cdv sg bg
  gives : ∀ q, GivesTo X [wd.a, wd.n] wd.x sg g cdv bg wd.a q (TTw X.K cA wd.hcs (txt wd.fine))
  d1 : (wd.a == ("__debug__" : Str)) = false
  d2 : (wd.a == ("__classdict__" : Str)) = false
  hd : HdsOk G cA wd.hcs wd.hds
/-- an exception class that the text raises -/
structure ExOk (G : Glob) (X : Cx) (c : Nat) (x : Str) : Prop where
  mg : X.mg x = some (.ref (G.exA c))
  kp : PySem.W.keepIn X.K (.ref (G.exA c)) = true
  rs : Raises X (.ref (G.exA c))
  lt : c < G.nE
  how : (G.exF c = none ∧ ∃ (B newId initId : String) (bmB : List Value), ExcBaseFacts B newId initId bmB ∧ PySem.W.excIn X.K (G.exA c) bmB newId = true) ∨ (∃ f, G.exF c = some f ∧ X.mg "super" = none ∧ Nonempty (SupW X.prog X.K (G.exA c) f))
/-- a class of the text: its name, its __init__, its attributes in their order, its methods -/
structure ClsA where
  x : Str
  init : Nat
  fs : List Str
  ms : List (Str × Nat)
structure ClsK (G : Glob) (K : PySem.W.Frag) (mg : Str → Option Value) (c : Nat) (a : ClsA) : Prop where
  mgx : mg a.x = some (.ref (G.clA c))
  cls : Cls K (G.clA c)
  fs : G.clF c = a.fs
  nd : a.fs.Nodup
  few : a.fs.length ≤ 900
  no : ∀ f ∈ a.fs, NoAttr K (G.clA c) f
  mk0 : L2.Mk K (G.clA c) (G.fnA a.init)
  ms : ∀ p ∈ a.ms, Meth K (G.clA c) p.1 (G.fnA p.2) ∧ p.1 ∉ a.fs
/-- what is known of the place -/
structure Cenv where
  N : List Str
  sc : Scope
  so : Scope
  fns : List (Option Str)
  cons : List Str
  ls : List Nat
  lt : List (List LamA)
  mkl : Bool
  top : Bool
  wd : Option WdA
  exs : List Str
  exf : List (Option Str)
  lv : List LamA
  capok : Bool
  cls : List ClsA
def spD (G : Glob) (cl : Cl) (g : Nat) : Sp := fun vs H Q E => ∃ ds S r, r.H = H ∧ Rl G r S ∧ Reps G r ds vs ∧ Post G (Rep G) (fun c d _ H => E c d H) [] r (cl g ds S) Q
def bltNames : List Str := ["abs", "all", "any", "divmod", "int", "str", "isinstance", "len", "list", "max", "min", "tuple", "repr", "bool", "range", "zip", "enumerate", "dict", "sum"]
structure XOk (G : Glob) (Γ : Cenv) (X : Cx) (W : WX) (cl : Cl) (gc : List D) : Prop where
  hK : X.K = G.K
  hN : X.N = Γ.N
  nd : Γ.N.Nodup
  sc : X.env.scope = Γ.sc
  fn : ∀ x, Γ.so.names.lookup x = some .cell → X.fn x = true
  calm : X.calm = true
  un : X.A.units + 64 < cLine
  dig : PySem.W.nsIn X.K cStatics "sys.int_max_str_digits" = some none
  tk : Takes X W
  gd : X.A.guards = some []
  fns : ∃ n, Room (n + 1) X.A ∧ (Γ.capok = true → Room (n + 2) X.A) ∧ (Γ.mkl = true → Room (n + 4) X.A) ∧ ∀ (g : Nat), g < G.nF → PySem.W.keepIn X.K (.ref (G.fnA g)) = true ∧ ∃ fd ps, FnG X.prog X.w X.K X.mg X.base n (G.fnA g) fd ps (spD G cl g) ∧ Binds X.K fd ps []
  gn : ∀ (g : Nat) (x : Str), Γ.fns[g]? = some (some x) → X.mg x = some (.ref (G.fnA g))
  nF : G.nF = Γ.fns.length
  ls : Γ.ls = G.F.ls
  lam : Γ.top = true → Γ.lt = G.F.lt ∧ G.F.cells = X.env.cells ∧ G.F.qual = X.env.qual
  mkl : Γ.mkl = true → ∃ c P, Maker X G.T c P
  lv : Γ.lv = G.F.lv
  cap0 : G.F.cap = []
  cls : ∀ (c : Nat) (a : ClsA), Γ.cls[c]? = some a → ClsK G X.K X.mg c a
  wd : ∀ wd, Γ.wd = some wd → ∃ g cdv sg bg cA, WordOk G X wd g cdv sg bg cA
  ex : ∀ (c : Nat) (x : Str), Γ.exs[c]? = some x → ExOk G X c x
  exf : ∀ (c : Nat) (o : Option Str), Γ.exf[c]? = some o → G.exF c = o
  cons : ∀ (k : Nat) (x : Str) (d : D), Γ.cons[k]? = some x → gc[k]? = some d → ∃ u v, X.mg x = some u ∧ RelV v u ∧ ∀ r, Rep G r d v
  blt : ∀ x ∈ bltNames, X.mg x = none
theorem XOk.nc {G : Glob} {Γ : Cenv} {X : Cx} {W : WX} {cl : Cl} {gc : List D} (h : XOk G Γ X W cl gc) (i : Nat) : i ∉ G.cs := by
  unfold Glob.cs
  rw [h.cap0]
  simp
def visB (sc : Scope) (x : Str) : Bool := match sc.names.lookup x with
  | some .local | some .cell | some .free => true
  | _ => false
def glB (sc : Scope) (x : Str) : Bool := match sc.names.lookup x with
  | some .globalImplicit => true
  | _ => false
def okN (x : Str) : Bool := !(x == ("__debug__" : Str)) && !(x == ("__classdict__" : Str))
theorem vis_of {sc : Scope} {x : Str} (h : visB sc x = true) : Vis sc x := by
  unfold visB at h
  unfold Vis
  split at h
  · exact .inl (by assumption)
  · exact .inr (.inl (by assumption))
  · exact .inr (.inr (by assumption))
  · cases h
theorem gl_of {X : Cx} {x : Str} (h : glB X.env.scope x = true) : Gl X x := by
  unfold glB at h
  unfold Gl Env.kindOf
  split at h
  · assumption
  · cases h
theorem okN_d {x : Str} (h : okN x = true) : (x == ("__debug__" : Str)) = false := by
  unfold okN at h
  cases q : (x == ("__debug__" : Str)) with
  | false => rfl
  | true => rw [q] at h; simp at h
theorem okN_c {x : Str} (h : okN x = true) : (x == ("__classdict__" : Str)) = false := by
  unfold okN at h
  cases q : (x == ("__classdict__" : Str)) with
  | false => rfl
  | true => rw [q] at h; simp at h
/-- not starred -/
def noStar : Expr → Bool
  | .Starred _ _ => false
  | _ => true
theorem starEach_cons {e : Expr} {es : List Expr} {env : PySem.Env} (h : noStar e = true) : starEach (e :: es) env = (false, eval e env) :: starEach es env := by
  cases e <;> first | rfl | cases h
theorem any_cons {pos : Pos} {t : Sem Value} {es : List (Bool × Sem Value)} : (backTo pos ((false, t) :: es)).any (·.1) = (backTo pos es).any (·.1) := by
  cases es with
  | nil => rfl
  | cons a b => rfl
theorem any_star : ∀ {es : List Expr} {env : PySem.Env} {pos : Pos}, es.all noStar = true → (backTo pos (starEach es env)).any (·.1) = false
  | [], _, _, _ => rfl
  | e :: es, env, pos, h => by
    rw [List.all_cons, Bool.and_eq_true] at h
    rw [starEach_cons h.1, any_cons]
    exact any_star h.2

section
variable {X : Cx} {G : Glob} {W : WX}
theorem PI.mono {tg e : Expr} {t t' : TI} (h : PI X tg e t) (q : ∀ σ H Q, t' σ H Q → t σ H Q) : PI X tg e t' := ⟨fun pins s σ H Q I z => h.run pins s σ H Q I (q σ H Q z)⟩
/-- what is known already, as a reading -/
theorem tX.val {α β : Type} {rel : RS → α → β → Prop} {f : Env → Store → Out α} {σV : L2.St} {H : Hp} {Q : β → Hp → Prop} (h : tX G W rel f σV H Q) {P : Prop}
    (k : ∀ σ S r, r.H = H → Rl G r S → RSt G r σ σV → Post G rel W σV r (f σ S) Q → P) : P := by
  obtain ⟨σ, S, r, e, l, s, p⟩ := h
  exact k σ S r e l s p

theorem PE.post {e : Expr} {t : TE} (h : PE X e t) : PE X e (fun σ H Q => ∃ Q0 : VK, t σ H Q0 ∧ ∀ v H, Q0 v H → Q v H) :=
  ⟨fun pins s σ H Q I ⟨Q0, z, k⟩ => thn (h.run pins s σ H Q0 I z) fun u s1 ⟨v, H1, I1, r1, q1⟩ => ⟨v, H1, I1, r1, k v H1 q1⟩⟩
theorem PT.post {e : Expr} {t : TT} (h : PT X e t) : PT X e (fun σ H Q => ∃ Q0 : Bool → Hp → Prop, t σ H Q0 ∧ ∀ v H, Q0 v H → Q v H) :=
  ⟨fun pins s σ H Q I ⟨Q0, z, k⟩ => thn (h.run pins s σ H Q0 I z) fun u s1 ⟨H1, I1, q1⟩ => ⟨H1, I1, k u H1 q1⟩⟩

/-! ### leaves -/
theorem n_slot {i : Nat} {x : Str} {pos : Pos} (hi : i ∉ G.F.ls) (hN : X.N[i]? = some x) (hv : Vis X.env.scope x) (ho : okN x = true) (cl : Cl) (gc : List D) : PE X (.Name x pos) (tD G W (evE cl gc (.slot i))) := by
  refine PE.mono (pe_var hN hv (okN_d ho) (okN_c ho)) fun σV H Q ⟨σ, S, r, e, l, s, p⟩ => ?_
  subst e
  unfold evE at p
  split at p
  · rename_i d ed
    obtain ⟨v, h1, h2⟩ := s.get i d ed
    rcases h2 with ⟨_, h2⟩ | ⟨z, _⟩
    · exact ⟨v, h1, Post.here p l h2⟩
    · exact absurd z hi
  · exact False.elim p
theorem n_con {x : Expr} {v : V} {d : D} (h : PE X x (tC v)) (hr : ∀ r, Rep G r d v) : PE X x (tD G W (fun _ S => .ok d S)) := by
  refine PE.mono h fun σV H Q ⟨σ, S, r, e, l, s, p⟩ => ?_
  subst e
  exact Post.here p l (hr r)

/-! ### operators -/
variable {fa fb fc : Env → Store → Out D} {a b c : Expr}
theorem n_bin (hK : X.K = G.K) {o : Op} {pos : Pos} (ha : PE X a (tD G W fa)) (hb : PE X b (tD G W fb)) : PE X (.BinOp a (opA o) b pos) (tD G W (fun σ S => (fa σ S).bind fun x S => (fb σ S).bind fun y S => op2 o x y S)) := by
  obtain ⟨rr, h1, h2⟩ := r2_op (X := X) hK o
  refine PE.mono (pe_op h1 ha hb) fun σV H Q h => ?_
  refine tX.step (rel := Rep G) h fun vx σ x S r l s hx p => ?_
  refine ⟨σ, S, r, rfl, l, s, (Post.bind (rel := Rep G) p).mono fun vy H1 ⟨y, S1, r1, e1, x1, l1, hy, p1⟩ => ?_⟩
  subst e1
  exact h2 W σV x y S1 r1 vx vy Q l1 (hx.ext x1) hy p1
theorem n_neg {pos : Pos} (ha : PE X a (tD G W fa)) : PE X (.UnaryOp .USub a pos) (tD G W (fun σ S => (fa σ S).bind fun x S => match x with | .int i => .ok (.int (-i)) S | _ => .bad)) := by
  refine PE.mono (pe_un un_neg ha) fun σV H Q h => ?_
  refine tX.step (rel := Rep G) h fun vx σ x S r l s hx p => ?_
  split at p
  · cases hx; exact ⟨_, rfl, Post.here p l (.int _)⟩
  · exact False.elim p
/-- a bool at hand, as a value -/
theorem Post.blk {σV : L2.St} {r : RS} {o : Out Bool} {Q : VK} (p : Post G (Rep G) W σV r (o.bind fun k S => .ok (.bl k) S) Q) : Post G RT W σV r o (fun k H => Q (.bl k) H) :=
  (Post.bind (rel := RT) p).mono fun k H2 ⟨k', S2, r2, e2, x2, l2, hk, p2⟩ => by
    subst e2
    cases hk
    exact Post.here p2 l2 (.bl _)
theorem n_cmp (hK : X.K = G.K) (hu : X.A.units + 64 < cLine) {o : Cp} {pos : Pos} (ha : PE X a (tD G W fa)) (hb : PE X b (tD G W fb)) (hm : behindInMarks (cpA o) b = false) :
    PE X (.Compare a [cpA o] [b] pos) (tD G W (fun σ S => (fa σ S).bind fun x S => (fb σ S).bind fun y S => (cmp2 o x y S).bind fun k S => .ok (.bl k) S)) := by
  obtain ⟨rr, h1, h2⟩ := c2_cmp (X := X) hK hu o
  refine PE.mono (PE.post (pe_cmpR h1 ha hb hm)) fun σV H Q h => ?_
  refine ⟨fun z H => ∃ k, z = .bl k ∧ Q (.bl k) H, ?_, fun v H ⟨k, e, q⟩ => by rw [e]; exact q⟩
  refine tX.step (rel := Rep G) h fun vx σ x S r l s hx p => ?_
  refine ⟨σ, S, r, rfl, l, s, (Post.bind (rel := Rep G) p).mono fun vy H1 ⟨y, S1, r1, e1, x1, l1, hy, p1⟩ => ?_⟩
  subst e1
  exact h2 W σV x y S1 r1 vx vy (fun k H => Q (.bl k) H) l1 (hx.ext x1) hy (Post.blk p1)
theorem n_cmpT (hK : X.K = G.K) (hu : X.A.units + 64 < cLine) {o : Cp} {pos : Pos} (ha : PE X a (tD G W fa)) (hb : PE X b (tD G W fb)) (hm : behindInMarks (cpA o) b = false) :
    PT X (.Compare a [cpA o] [b] pos) (tT G W (fun σ S => (fa σ S).bind fun x S => (fb σ S).bind fun y S => cmp2 o x y S)) := by
  obtain ⟨rr, h1, h2⟩ := c2_cmp (X := X) hK hu o
  refine PT.mono (pt_cmpR h1 ha hb hm) fun σV H Q h => ?_
  refine tX.step (rel := Rep G) h fun vx σ x S r l s hx p => ?_
  refine ⟨σ, S, r, rfl, l, s, (Post.bind (rel := Rep G) p).mono fun vy H1 ⟨y, S1, r1, e1, x1, l1, hy, p1⟩ => ?_⟩
  subst e1
  exact h2 W σV x y S1 r1 vx vy Q l1 (hx.ext x1) hy p1
theorem chain_aux (hK : X.K = G.K) (hu : X.A.units + 64 < cLine) {o o' : Cp} {rr rr' : R2}
    (h2 : ∀ (W : WX) (σV : L2.St) (x y : D) (S : Store) (r : RS) (vx vy : V) (Q : Bool → Hp → Prop), Rl G r S → Rep G r x vx → Rep G r y vy → Post G RT W σV r (cmp2 o x y S) Q → rr vx vy r.H (fun z H => ∃ k, z = .bl k ∧ Q k H))
    (h2' : ∀ (W : WX) (σV : L2.St) (x y : D) (S : Store) (r : RS) (vx vy : V) (Q : Bool → Hp → Prop), Rl G r S → Rep G r x vx → Rep G r y vy → Post G RT W σV r (cmp2 o' x y S) Q → rr' vx vy r.H (fun z H => ∃ k, z = .bl k ∧ Q k H))
    {σV : L2.St} {H : Hp} {Q : Bool → Hp → Prop}
    (h : tT G W (fun σ S => (fa σ S).bind fun x S => (fb σ S).bind fun y S => (cmp2 o x y S).bind fun k S => match k with | true => (fc σ S).bind fun z S => cmp2 o' y z S | false => .ok false S) σV H Q) :
    tChain rr rr' (tD G W fa) (tD G W fb) (tD G W fc) σV H (fun z H => ∃ k, z = .bl k ∧ Q k H) := by
  refine tX.step (rel := Rep G) h fun vx σ x S r l s hx p => ?_
  refine ⟨σ, S, r, rfl, l, s, (Post.bind (rel := Rep G) p).mono fun vy H1 ⟨y, S1, r1, e1, x1, l1, hy, p1⟩ => ?_⟩
  subst e1
  refine h2 W σV x y S1 r1 vx vy _ l1 (hx.ext x1) hy ((Post.bind (rel := RT) p1).mono fun k H2 ⟨k', S2, r2, e2, x2, l2, hk, p2⟩ => ?_)
  subst e2
  cases hk
  cases k with
  | false =>
    simp only [Bool.false_eq_true, if_false]
    exact ⟨false, rfl, Post.here p2 l2 rfl⟩
  | true =>
    simp only [if_true]
    refine ⟨σ, S2, r2, rfl, l2, (s.ext x1).ext x2, (Post.bind (rel := Rep G) p2).mono fun vz H3 ⟨z, S3, r3, e3, x3, l3, hz, p3⟩ => ?_⟩
    subst e3
    exact h2' W σV y z S3 r3 vy vz Q l3 ((hy.ext x2).ext x3) hz p3
theorem n_chainT (hK : X.K = G.K) (hu : X.A.units + 64 < cLine) {o o' : Cp} {pos : Pos} (ha : PE X a (tD G W fa)) (hb : PE X b (tD G W fb)) (hc : PE X c (tD G W fc)) (hm : lastMarks [cpA o, cpA o'] [b, c] = false) :
    PT X (.Compare a [cpA o, cpA o'] [b, c] pos) (tT G W (fun σ S => (fa σ S).bind fun x S => (fb σ S).bind fun y S => (cmp2 o x y S).bind fun k S => match k with | true => (fc σ S).bind fun z S => cmp2 o' y z S | false => .ok false S)) := by
  obtain ⟨rr, h1, h2⟩ := c2_cmp (X := X) hK hu o
  obtain ⟨rr', h1', h2'⟩ := c2_cmp (X := X) hK hu o'
  exact PT.mono (pt_chain h1 h1' ha hb hc hm) fun σV H Q h => chain_aux hK hu h2 h2' h
theorem n_chain (hK : X.K = G.K) (hu : X.A.units + 64 < cLine) {o o' : Cp} {pos : Pos} (ha : PE X a (tD G W fa)) (hb : PE X b (tD G W fb)) (hc : PE X c (tD G W fc)) (hm : lastMarks [cpA o, cpA o'] [b, c] = false) :
    PE X (.Compare a [cpA o, cpA o'] [b, c] pos) (tD G W (fun σ S => (fa σ S).bind fun x S => (fb σ S).bind fun y S => (cmp2 o x y S).bind fun k S => match k with | true => (fc σ S).bind fun z S => (cmp2 o' y z S).bind fun k S => .ok (.bl k) S | false => .ok (.bl false) S)) := by
  obtain ⟨rr, h1, h2⟩ := c2_cmp (X := X) hK hu o
  obtain ⟨rr', h1', h2'⟩ := c2_cmp (X := X) hK hu o'
  refine PE.mono (PE.post (pe_chain h1 h1' ha hb hc hm)) fun σV H Q h => ?_
  refine ⟨fun z H => ∃ k, z = .bl k ∧ Q (.bl k) H, chain_aux (W := W) (Q := fun k H => Q (.bl k) H) hK hu h2 h2' ?_, fun v H ⟨k, e, q⟩ => by rw [e]; exact q⟩
  obtain ⟨σ, S, r, e, l, s, p⟩ := h
  refine ⟨σ, S, r, e, l, s, Post.blk ?_⟩
  have e : ((fa σ S).bind fun x S => (fb σ S).bind fun y S => (cmp2 o x y S).bind fun k S => match k with | true => (fc σ S).bind fun z S => (cmp2 o' y z S).bind fun k S => .ok (.bl k) S | false => .ok (.bl false) S) =
      (((fa σ S).bind fun x S => (fb σ S).bind fun y S => (cmp2 o x y S).bind fun k S => match k with | true => (fc σ S).bind fun z S => cmp2 o' y z S | false => .ok false S).bind fun k S => (.ok (D.bl k) S : Out D)) := by
    cases (fa σ S) <;> simp only [Out.bind]
    rename_i x S
    cases (fb σ S) <;> simp only [Out.bind]
    rename_i y S
    cases (cmp2 o x y S) <;> simp only [Out.bind]
    rename_i k S
    cases k <;> simp only [Out.bind]
    cases (fc σ S) <;> simp only [Out.bind]
  rw [← e]
  exact p
/-! ### truth, and, or, not, if -/
theorem n_val (hK : X.K = G.K) (ha : PE X a (tD G W fa)) (he : ∀ whole, isTrue a X.env whole = (do let v ← whole; standAt a.pos; holding [v] (truthy v))) : PT X a (tT G W (fun σ S => (fa σ S).bind fun x S => truth x S)) := by
  refine PT.mono (pt_truth ha he) fun σV H Q h => ?_
  exact tX.step (rel := Rep G) h fun vx σ x S r l s hx p => truth_ok hK l hx p
theorem n_notE (hK : X.K = G.K) {pos : Pos} (ha : PE X a (tD G W fa)) : PE X (.UnaryOp .Not a pos) (tD G W (fun σ S => (fa σ S).bind fun x S => (truth x S).bind fun b S => .ok (.bl (!b)) S)) := by
  refine PE.mono (pe_notT ha) fun σV H Q h => ?_
  refine tX.step (rel := Rep G) h fun vx σ x S r l s hx p => ?_
  refine truth_ok (W := W) (σV := σV) (Q := fun k H => Q (.bl (!k)) H) hK l hx ((Post.bind (rel := RT) p).mono fun k H2 ⟨k', S2, r2, e2, x2, l2, hk, p2⟩ => ?_)
  subst e2
  cases hk
  exact Post.here p2 l2 (.bl _)
theorem n_and (hK : X.K = G.K) {rest : List Expr} {pos : Pos} (ha : PE X a (tD G W fa)) (hb : PE X (.BoolOp .And (b :: rest) pos) (tD G W fb)) :
    PE X (.BoolOp .And (a :: b :: rest) pos) (tD G W (fun σ S => (fa σ S).bind fun x S => (truth x S).bind fun c S => match c with | true => fb σ S | false => .ok x S)) := by
  refine PE.mono (pe_andT ha hb) fun σV H Q h => ?_
  refine tX.step (rel := Rep G) h fun vx σ x S r l s hx p => ?_
  refine truth_ok (W := W) (σV := σV) (Q := fun k H => if k = true then tD G W fb σV H Q else Q vx H) hK l hx ((Post.bind (rel := RT) p).mono fun k H2 ⟨k', S2, r2, e2, x2, l2, hk, p2⟩ => ?_)
  subst e2
  cases hk
  cases k with
  | true => exact ⟨σ, S2, r2, rfl, l2, s.ext x2, p2⟩
  | false => exact Post.here p2 l2 (hx.ext x2)
theorem n_or (hK : X.K = G.K) {rest : List Expr} {pos : Pos} (ha : PE X a (tD G W fa)) (hb : PE X (.BoolOp .Or (b :: rest) pos) (tD G W fb)) :
    PE X (.BoolOp .Or (a :: b :: rest) pos) (tD G W (fun σ S => (fa σ S).bind fun x S => (truth x S).bind fun c S => match c with | true => .ok x S | false => fb σ S)) := by
  refine PE.mono (pe_orT ha hb) fun σV H Q h => ?_
  refine tX.step (rel := Rep G) h fun vx σ x S r l s hx p => ?_
  refine truth_ok (W := W) (σV := σV) (Q := fun k H => if k = true then Q vx H else tD G W fb σV H Q) hK l hx ((Post.bind (rel := RT) p).mono fun k H2 ⟨k', S2, r2, e2, x2, l2, hk, p2⟩ => ?_)
  subst e2
  cases hk
  cases k with
  | false => exact ⟨σ, S2, r2, rfl, l2, s.ext x2, p2⟩
  | true => exact Post.here p2 l2 (hx.ext x2)
variable {ft fu : Env → Store → Out Bool}
theorem n_not {pos : Pos} (ha : PT X a (tT G W ft)) : PT X (.UnaryOp .Not a pos) (tT G W (fun σ S => (ft σ S).bind fun b S => .ok (!b) S)) := by
  refine PT.mono (pt_not ha) fun σV H Q h => ?_
  refine tX.step (rel := RT) h fun k σ k' S r l s hk p => ?_
  cases hk
  exact Post.here p l rfl
theorem n_andT {rest : List Expr} {pos : Pos} (ha : PT X a (tT G W ft)) (hb : PW X (.BoolOp .And (b :: rest) pos) (tT G W fu)) :
    PW X (.BoolOp .And (a :: b :: rest) pos) (tT G W (fun σ S => (ft σ S).bind fun c S => match c with | true => fu σ S | false => .ok false S)) := by
  refine PW.mono (pw_and ha hb) fun σV H Q h => ?_
  refine tX.step (rel := RT) h fun k σ k' S r l s hk p => ?_
  cases hk
  cases k with
  | true => exact ⟨σ, S, r, rfl, l, s, p⟩
  | false => exact Post.here p l rfl
theorem n_orT {rest : List Expr} {pos : Pos} (ha : PT X a (tT G W ft)) (hb : PW X (.BoolOp .Or (b :: rest) pos) (tT G W fu)) :
    PW X (.BoolOp .Or (a :: b :: rest) pos) (tT G W (fun σ S => (ft σ S).bind fun c S => match c with | true => .ok true S | false => fu σ S)) := by
  refine PW.mono (pw_or ha hb) fun σV H Q h => ?_
  refine tX.step (rel := RT) h fun k σ k' S r l s hk p => ?_
  cases hk
  cases k with
  | false => exact ⟨σ, S, r, rfl, l, s, p⟩
  | true => exact Post.here p l rfl
theorem n_ite {pos : Pos} (hc : PT X c (tT G W ft)) (ha : PE X a (tD G W fa)) (hb : PE X b (tD G W fb)) : PE X (.IfExp c a b pos) (tD G W (fun σ S => (ft σ S).bind fun k S => match k with | true => fa σ S | false => fb σ S)) := by
  refine PE.mono (pe_ifExp hc ha hb) fun σV H Q h => ?_
  refine tX.step (rel := RT) h fun k σ k' S r l s hk p => ?_
  cases hk
  cases k with
  | false => exact ⟨σ, S, r, rfl, l, s, p⟩
  | true => exact ⟨σ, S, r, rfl, l, s, p⟩
/-- the whole of and/or is not looked at -/
theorem pw_bool {op : BoolOp} {vs : List Expr} {pos : Pos} {t : TT} (h : PT X (.BoolOp op vs pos) t) : PW X (.BoolOp op vs pos) t := ⟨fun whole pins s σ H Q I z => h.run pins s σ H Q I z⟩

/-! ### indices and slices -/
theorem n_idx (hK : X.K = G.K) {pos : Pos} (ha : PE X a (tD G W fa)) (hb : PE X b (tD G W fb)) (hs : PlainIx b) : PE X (.Subscript a b pos) (tD G W (fun σ S => (fa σ S).bind fun x S => (fb σ S).bind fun y S => item x y S)) := by
  refine PE.mono (pe_ix ix_seq ha hb hs) fun σV H Q h => ?_
  refine tX.step (rel := Rep G) h fun vx σ x S r l s hx p => ?_
  refine ⟨σ, S, r, rfl, l, s, (Post.bind (rel := Rep G) p).mono fun vy H1 ⟨y, S1, r1, e1, x1, l1, hy, p1⟩ => ?_⟩
  subst e1
  exact ix_ok hK l1 (hx.ext x1) hy p1
def RO (_ : RS) (a b : Option Int) : Prop := a = b
def tO (G : Glob) (W : WX) (f : Env → Store → Out (Option Int)) : TO := tX G W RO f
theorem PO.mono {e : Option Expr} {t t' : TO} (h : PO X e t) (q : ∀ σ H Q, t' σ H Q → t σ H Q) : PO X e t' := ⟨fun pins s σ H Q I z => h.run pins s σ H Q I (q σ H Q z)⟩
theorem n_onone : PO X none (tO G W (fun _ S => .ok none S)) := by
  refine PO.mono po_none fun σV H Q ⟨σ, S, r, e, l, s, p⟩ => ?_
  subst e
  exact Post.here p l rfl
theorem n_osome (ha : PE X a (tD G W fa)) : PO X (some a) (tO G W (fun σ S => (fa σ S).bind fun x S => match x with | .int i => .ok (some i) S | _ => .bad)) := by
  refine PO.mono (po_some ha) fun σV H Q h => ?_
  refine tX.step (rel := Rep G) h fun vx σ x S r l s hx p => ?_
  split at p
  · cases hx; exact ⟨_, rfl, Post.here p l rfl⟩
  · exact False.elim p
theorem n_slc (hK : X.K = G.K) {lo hi : Option Expr} {fl fh : Env → Store → Out (Option Int)} {p2 pos : Pos} (ha : PE X a (tD G W fa)) (hl : PO X lo (tO G W fl)) (hh : PO X hi (tO G W fh)) :
    PE X (.Subscript a (.Slice lo hi none p2) pos) (tD G W (fun σ S => (fa σ S).bind fun x S => (fl σ S).bind fun l S => (fh σ S).bind fun h S => slice x l h S)) := by
  refine PE.mono (pe_slice sl_X ha hl hh) fun σV H Q h => ?_
  refine tX.step (rel := Rep G) h fun vx σ x S r l s hx p => ?_
  refine ⟨σ, S, r, rfl, l, s, (Post.bind (rel := RO) p).mono fun vy H1 ⟨y, S1, r1, e1, x1, l1, hy, p1⟩ => ?_⟩
  subst e1
  cases hy
  refine ⟨σ, S1, r1, rfl, l1, s.ext x1, (Post.bind (rel := RO) p1).mono fun vz H2 ⟨z, S2, r2, e2, x2, l2, hz, p2⟩ => ?_⟩
  subst e2
  cases hz
  exact sl_ok hK l2 ((hx.ext x1).ext x2) p2
theorem n_rev (hK : X.K = G.K) {k : Nat} {p1 p2 p3 pos : Pos} (ha : PE X a (tD G W fa)) : PE X (.Subscript a (.Slice none none (some (.UnaryOp .USub (.Constant (.int 1) k p1) p2)) p3) pos) (tD G W (fun σ S => (fa σ S).bind fun x S => revd x S)) := by
  refine PE.mono (pe_revA ha) fun σV H Q h => ?_
  exact tX.step (rel := Rep G) h fun vx σ x S r l s hx p => rev_ok hK l hx p

/-! ### lists of arguments, displays -/
variable {fs : Env → Store → Out (List D)} {es : List Expr}
theorem n_nil : PA X [] (tDs G W (fun _ S => .ok [] S)) := by
  refine PA.mono pa_nil fun σV H Q ⟨σ, S, r, e, l, s, p⟩ => ?_
  subst e
  exact Post.here p l .nil
theorem n_cons (ha : PE X a (tD G W fa)) (hs : PA X es (tDs G W fs)) (hn : noStar a = true) : PA X (a :: es) (tDs G W (fun σ S => (fa σ S).bind fun d S => (fs σ S).bind fun ds S => .ok (d :: ds) S)) := by
  refine PA.mono (pa_cons ha hs (starEach_cons hn)) fun σV H Q h => ?_
  refine tX.step (rel := Rep G) h fun vx σ x S r l s hx p => ?_
  refine ⟨σ, S, r, rfl, l, s, (Post.bind (rel := Reps G) p).mono fun vy H1 ⟨y, S1, r1, e1, x1, l1, hy, p1⟩ => ?_⟩
  subst e1
  exact Post.here p1 l1 (.cons (hx.ext x1) hy)
theorem n_tup {k : Nat} {pos : Pos} (hs : PA X es (tDs G W fs)) : PE X (.Tuple es k pos) (tD G W (fun σ S => (fs σ S).bind fun ds S => if fits ds.length then .ok (.tup ds) S else .bad)) := by
  refine PE.mono (pe_tup hs) fun σV H Q h => ?_
  refine tX.step (rel := Reps G) h fun vs σ ds S r l s hx p => ?_
  split at p
  · rename_i hf
    exact ⟨by rw [← hx.length]; exact fits_of hf, fun q hq => Post.newTup p l hx hq⟩
  · exact False.elim p
theorem n_lst {pos : Pos} (hs : PA X es (tDs G W fs)) : PE X (.List es pos) (tD G W (fun σ S => (fs σ S).bind fun ds S => if fits ds.length then .ok (.lst ds) S else .bad)) := by
  refine PE.mono (pe_lst hs) fun σV H Q h => ?_
  refine tX.step (rel := Reps G) h fun vs σ ds S r l s hx p => ?_
  split at p
  · rename_i hf
    exact ⟨by rw [← hx.length]; exact fits_of hf, fun q hq => Post.newLst p l hx hq⟩
  · exact False.elim p
/-! ### calls -/
theorem n_call {cl : Cl} {g n : Nat} {fd : FuncData} {ps : List Str} {x : Str} {p pos : Pos} (hgd : X.A.guards = some []) (hm : X.mg x = some (.ref (G.fnA g))) (hk : PySem.W.keepIn X.K (.ref (G.fnA g)) = true) (hr : Room n X.A)
    (F : FnG X.prog X.w X.K X.mg X.base n (G.fnA g) fd ps (spD G cl g)) (hb : Binds X.K fd ps []) (tk : Takes X W) (hg : Gl X x) (ho : okN x = true) (hs : PA X es (tDs G W fs)) (hn : es.all noStar = true) (hne : es ≠ []) :
    PE X (.Call (.Name x p) es [] pos) (tD G W (fun σ S => (fs σ S).bind fun ds S => cl g ds S)) := by
  cases es with
  | nil => exact absurd rfl hne
  | cons e es =>
    rw [List.all_cons, Bool.and_eq_true] at hn
    refine PE.mono (pe_callG F hgd hr hg hm hk hb (fun σ => passAt tk σ) hs (okN_d ho) (starEach_cons hn.1) (any_star hn.2)) fun σV H Q h => ?_
    refine tX.step (rel := Reps G) h fun vs σ ds S r l s hx p => ?_
    refine ⟨ds, S, r, rfl, l, hx, ?_⟩
    revert p
    cases cl g ds S with
    | ok a S => exact fun p => p
    | exc x S => exact fun p => p
    | bad => exact fun p => p
theorem n_biB {b : Bi} {id : String} {x : Str} {p pos : Pos} (hb : BS G X (.builtin id) b) (hg : Gl X x) (hm : X.mg x = none) (hv : bootBuiltins x = some (.builtin id)) (ho : okN x = true) (hnm : x ≠ "__name__") (hs : PA X es (tDs G W fs)) (hn : es.all noStar = true) (hne : es ≠ []) :
    PE X (.Call (.Name x p) es [] pos) (tD G W (fun σ S => (fs σ S).bind fun ds S => bi b ds S)) := by
  cases es with
  | nil => exact absurd rfl hne
  | cons e es =>
    rw [List.all_cons, Bool.and_eq_true] at hn
    obtain ⟨rr, h1, h2⟩ := hb
    refine PE.mono (pe_callB h1 hg hm hv hs hnm (okN_d ho) (starEach_cons hn.1) (any_star hn.2)) fun σV H Q h => ?_
    exact tX.step (rel := Reps G) h fun vs σ ds S r l s hx p => h2 W σV ds S r vs Q l hx p
theorem n_biT {b : Bi} {id : String} {x : Str} {p pos : Pos} (hb : BS G X (.type id) b) (hg : Gl X x) (hm : X.mg x = none) (hv : bootBuiltins x = some (.type id)) (ho : okN x = true) (hnm : x ≠ "__name__") (hs : PA X es (tDs G W fs)) (hn : es.all noStar = true) (hne : es ≠ []) :
    PE X (.Call (.Name x p) es [] pos) (tD G W (fun σ S => (fs σ S).bind fun ds S => bi b ds S)) := by
  cases es with
  | nil => exact absurd rfl hne
  | cons e es =>
    rw [List.all_cons, Bool.and_eq_true] at hn
    obtain ⟨rr, h1, h2⟩ := hb
    refine PE.mono (pe_callTy h1 hg hm hv hs hnm (okN_d ho) (starEach_cons hn.1) (any_star hn.2)) fun σV H Q h => ?_
    exact tX.step (rel := Reps G) h fun vs σ ds S r l s hx p => h2 W σV ds S r vs Q l hx p
/-- f() -/
theorem n_call0 {cl : Cl} {g n : Nat} {fd : FuncData} {ps : List Str} {x : Str} {p pos : Pos} (hgd : X.A.guards = some []) (hm : X.mg x = some (.ref (G.fnA g))) (hk : PySem.W.keepIn X.K (.ref (G.fnA g)) = true) (hr : Room n X.A)
    (F : FnG X.prog X.w X.K X.mg X.base n (G.fnA g) fd ps (spD G cl g)) (hb : Binds X.K fd ps []) (tk : Takes X W) (hg : Gl X x) (ho : okN x = true) :
    PE X (.Call (.Name x p) [] [] pos) (tD G W (fun σ S => cl g [] S)) := by
  refine PE.mono (pe_callG0 F hgd hr hg hm hk hb (fun σ => passAt tk σ) (okN_d ho)) fun σV H Q ⟨σ, S, r, e, l, s1, p⟩ => ?_
  subst e
  refine ⟨[], S, r, rfl, l, .nil, ?_⟩
  dsimp only at p
  revert p
  cases cl g [] S with
  | ok a S => exact fun p => p
  | exc x S => exact fun p => p
  | bad => exact fun p => p
/-! stars, {}, join -/
theorem n_star (hK : X.K = G.K) {sp : Pos} (ha : PE X a (tD G W fa)) (hs : PA X es (tDs G W fs)) : PA X (.Starred a sp :: es) (tDs G W (fun σ S => (fa σ S).bind fun d S => (match seqOf d S with | some xs => (fs σ S).bind fun ds S => .ok (xs ++ ds) S | none => .bad))) := by
  refine PA.mono (StX.pa_star ha hs) fun σV H Q h => ?_
  refine tX.step (rel := Rep G) h fun vx σ x S r l s hx p => ?_
  split at p
  · rename_i xs e
    obtain ⟨q, vs, rfl, k, sa⟩ := seqOf_rep l hx e
    refine ⟨q, vs, rfl, ?_, σ, S, r, rfl, l, s, (Post.bind (rel := Reps G) p).mono fun vy H1 ⟨y, S1, r1, e1, x1, l1, hy, p1⟩ => ?_⟩
    · rw [hK]
      rcases k with ⟨k, _⟩ | ⟨k, _⟩
      · exact .inr (.inl k)
      · exact .inl k.sq
    · subst e1
      exact Post.here p1 l1 ((sa.ext x1).append hy)
  · exact False.elim p
theorem n_dict0 {pos : Pos} : PE X (.Dict [] [] pos) (tD G W (fun _ S => .ok .dic S)) := by
  refine PE.mono pe_dnewK fun σV H Q ⟨σ, S, r, e, l, s, p⟩ => ?_
  subst e
  intro q hq
  exact p (.ref q) (r.put q (.dK [])) (Ext.put l hq _) (Rl.put l hq _) (.dic put_at (Rl.noZ l hq))
theorem strs_ok : ∀ {ds : List D} {vs : List V} {r : RS} {ts : List (List Nat)}, Reps G r ds vs → strsOf ds = some ts → vs = (ts.map txt).map V.str
  | [], _, _, _, .nil, h => by cases h; rfl
  | .str x :: ds, _, _, ts, .cons h hs, e => by
    unfold strsOf at e
    cases q : strsOf ds with
    | none => rw [q] at e; cases e
    | some us =>
      rw [q] at e; cases e
      cases h
      rw [strs_ok hs q]; rfl
  | .non :: _, _, _, _, _, e => by cases e
  | .bl _ :: _, _, _, _, _, e => by cases e
  | .int _ :: _, _, _, _, _, e => by cases e
  | .tup _ :: _, _, _, _, _, e => by cases e
  | .lst _ :: _, _, _, _, _, e => by cases e
  | .ref _ :: _, _, _, _, _, e => by cases e
  | .fn _ :: _, _, _, _, _, e => by cases e
  | .exn _ _ :: _, _, _, _, _, e => by cases e
  | .scr _ :: _, _, _, _, _, e => by cases e
  | .map _ _ :: _, _, _, _, _, e => by cases e
  | .lams _ :: _, _, _, _, _, e => by cases e
  | .lam _ :: _, _, _, _, _, e => by cases e
  | .obj _ _ :: _, _, _, _, _, e => by cases e
  | .dct _ :: _, _, _, _, _, e => by cases e
theorem glue_fold (sep : List Nat) : ∀ (ts : List (List Nat)) (acc : List Nat), (ts.map txt).foldl (fun acc p => acc ++ (txt sep).cps ++ p.cps) acc.toArray = (acc ++ (ts.map (sep ++ ·)).flatten).toArray
  | [], acc => by simp
  | t :: ts, acc => by
    rw [List.map_cons, List.foldl_cons]
    have e : acc.toArray ++ (txt sep).cps ++ (txt t).cps = (acc ++ sep ++ t).toArray := by simp [txt]
    rw [e, glue_fold sep ts]
    simp
theorem joinL_eq (sep : List Nat) : ∀ (t : List Nat) (ts : List (List Nat)), joinL sep (t :: ts) = t ++ (ts.map (sep ++ ·)).flatten
  | t, [] => by simp [joinL]
  | t, u :: ts => by
    rw [joinL, joinL_eq sep u ts]
    · simp
    · simp
theorem join_ok (sep : List Nat) (ts : List (List Nat)) : Txt.join (txt sep) (ts.map txt) = txt (joinL sep ts) := by
  cases ts with
  | nil => rfl
  | cons t ts =>
    rw [joinL_eq]
    show Builtin.Str.glued (txt sep) ((t :: ts).map txt) = _
    unfold Builtin.Str.glued
    have := glue_fold sep ts t
    have e2 : (((t :: ts).map txt).headD Str.empty).cps = t.toArray := rfl
    have e3 : ((t :: ts).map txt).drop 1 = ts.map txt := rfl
    rw [e2, e3, this]; rfl
theorem sumLen_ok (sep : List Nat) (hs : sep.length ≤ 1) : ∀ ts : List (List Nat), ((ts.map txt).map (·.length)).sum + (ts.map txt).length * (txt sep).length ≤ sumLen ts
  | [] => by simp [sumLen]
  | t :: ts => by
    have ih := sumLen_ok sep hs ts
    rw [txt_length] at ih ⊢
    simp only [List.map_cons, List.sum_cons, List.length_cons, sumLen, Nat.add_mul, txt_length] at ih ⊢
    omega
theorem n_join (hK : X.K = G.K) {apos pos : Pos} (ha : PE X a (tD G W fa)) (hb : PE X b (tD G W fb)) (hn : noStar b = true) (hbase : attributeBase a "join" X.env (eval a X.env) = eval a X.env) (hline : (apos.endLine == pos.line) = true) :
    PE X (.Call (.Attribute a "join" apos) [b] [] pos) (tD G W (fun σ S => (fa σ S).bind fun x S => match x with | .str sep => (fb σ S).bind fun d S => mth .join (.str sep) [d] S | _ => .bad)) := by
  refine PE.mono (pe_join ha hb (starEach_cons hn) hbase hline) fun σV H Q h => ?_
  refine tX.step (rel := Rep G) h fun vx σ x S r l s hx p => ?_
  cases x with
  | str sep =>
    have p : Post G (Rep G) W σV r ((fb σ S).bind fun d S => mth .join (.str sep) [d] S) Q := p
    cases hx
    refine ⟨⟨_, rfl⟩, σ, S, r, rfl, l, s, (Post.bind (rel := Rep G) p).mono fun vy H1 ⟨y, S1, r1, e1, x1, l1, hy, p1⟩ => ?_⟩
    subst e1
    unfold mth at p1
    dsimp only at p1
    cases e : seqOf y S1 with
    | none => rw [e] at p1; exact False.elim p1
    | some xs =>
      rw [e] at p1
      dsimp only [Option.bind] at p1
      split at p1
      · rename_i ts e2
        split at p1
        · rename_i hz
          rw [Bool.and_eq_true] at hz
          obtain ⟨q, vs, rfl, k, sa⟩ := seqOf_rep l1 hy e
          have ev := strs_ok sa e2
          refine ⟨txt sep, q, ts.map txt, rfl, rfl, ?_, ?_, ?_⟩
          · rw [hK, ← ev]
            rcases k with ⟨k, _⟩ | ⟨k, _⟩
            · exact .inl (.inl k)
            · exact .inr k.sq
          · exact Nat.le_trans (sumLen_ok sep (isOk hz.1) ts) (Nat.le_trans (isOk hz.2) (by decide))
          · rw [join_ok]
            exact Post.here p1 l1 (.str _)
        · exact False.elim p1
      · exact False.elim p1
  | _ => exact False.elim p
theorem n_split (hK : X.K = G.K) {apos pos : Pos} (ha : PE X a (tD G W fa)) (hb : PE X b (tD G W fb)) (hn : noStar b = true) (hbase : attributeBase a "split" X.env (eval a X.env) = eval a X.env) (hline : (apos.endLine == pos.line) = true) :
    PE X (.Call (.Attribute a "split" apos) [b] [] pos) (tD G W (fun σ S => (fa σ S).bind fun x S => match x with | .str z => (fb σ S).bind fun y S => mth .split (.str z) [y] S | _ => .bad)) := by
  refine PE.mono (pe_split ha hb (starEach_cons hn) hbase hline) fun σV H Q h => ?_
  refine tX.step (rel := Rep G) h fun vx σ x S r l s hx p => ?_
  cases x with
  | str z =>
    have p : Post G (Rep G) W σV r ((fb σ S).bind fun y S => mth .split (.str z) [y] S) Q := p
    cases hx
    refine ⟨⟨_, rfl⟩, σ, S, r, rfl, l, s, (Post.bind (rel := Rep G) p).mono fun vy H1 ⟨y, S1, r1, e1, x1, l1, hy, p1⟩ => ?_⟩
    subst e1
    have fin : ∀ (c : Nat), y = .str [c] → Post G (Rep G) W σV r1 (if Nat.ble (z.length + 2) bigN then .ok (.lst ((splitL c z []).map .str)) S1 else .bad) Q := fun c e => by
      subst e
      exact p1
    have sh : ∃ c, y = .str [c] := by
      cases y with
      | str w =>
        match w, p1 with
        | [c], _ => exact ⟨c, rfl⟩
        | [], p1 => exact False.elim p1
        | _ :: _ :: _, p1 => exact False.elim p1
      | _ => exact False.elim p1
    obtain ⟨c, rfl⟩ := sh
    have p1 := fin c rfl
    cases hy
    split at p1
    · rename_i hz
      refine ⟨txt z, txt [c], rfl, rfl, rfl, ?_, fun q hq => ?_⟩
      · rw [txt_length]; exact isOk hz
      · have es : Txt.split (txt z) (txt [c]) = (splitL c z []).map txt := split_ok z c
        rw [es]
        have hr : ∀ (r : RS) (ts : List (List Nat)), Reps G r (ts.map D.str) ((ts.map txt).map V.str) := by
          intro r ts
          induction ts with
          | nil => exact .nil
          | cons t ts ih => exact .cons (.str t) ih
        exact Post.newLst p1 l1 (hr r1 _) hq
    · exact False.elim p1
  | _ => exact False.elim p
end
end DL
end
section
set_option Elab.async false
set_option autoImplicit false
set_option linter.all false
set_option maxRecDepth 100000
set_option maxHeartbeats 2000000
/-! LXj: enumerate over a tuple. -/
namespace LX
open PySem PySem.Spec PyProof.Rows L2 LamX
/-- the tuple at a, each item in a new pair -/
def IteT (K : PySem.W.Frag) (a : Addr) : It :=
  ⟨fun i H => ∃ (xs : List V) (x : V), SqT K H a xs ∧ xs[i]? = some x, fun i H v H' => ∃ T x, v = .ref T ∧ H T = none ∧ H' = upd H T (.tup [.int (i : Nat), x]) ∧ ∀ xs, SqT K H a xs → xs[i]? = some x, fun i H => ∃ xs : List V, SqT K H a xs ∧ xs.length ≤ i⟩
theorem turn_enumT {P : Program} {w : World} {K : PySem.W.Frag} {elts : List Expr} {kk : Nat} {tpos : Pos} (a e it : Addr) :
    Turn P w K (.Tuple elts kk tpos) (IteT K a) [e, it] e (fun i h => (∃ old, IsEnum h e it ((i : Nat) : Int) old) ∧ h.IsTupleIter it a i ∧ e ≠ it) where
  mem := by simp
  obj := fun i h ⟨⟨old, he⟩, ⟨o, ho, hc, hd⟩, _⟩ b hb => by
    have hb : b = e ∨ b = it := by simpa using hb
    rcases hb with rfl | rfl
    · exact ⟨_, he, fun v q => by cases q⟩
    · exact ⟨o, ho, fun v q => by rw [hd] at q; cases q⟩
  keep := fun i h h' ⟨⟨old, he⟩, hi, hne⟩ k => ⟨⟨old, k e (by simp) _ he⟩, hi.at fun o q => k it (by simp) o q, hne⟩
  item := by
    intro X hP hw hK hc i pins s σ H E I hf ⟨⟨old, he⟩, hit, hne⟩ ⟨xs, x, hq, hx⟩
    subst hP hw hK
    obtain ⟨its, rv, p, hz⟩ := I.tuple hq
    obtain ⟨u, hu, ru⟩ := rv.get hx
    have hp : s.heap.IsTuple a its.toArray := p
    have lte : e < s.heap.objs.size := Heap.lt_size he
    have lti : it < s.heap.objs.size := by obtain ⟨_, q, _⟩ := hit; exact Heap.lt_size q
    have nea : e ≠ a := fun z => by
      obtain ⟨o, ho, hcl, _⟩ := hp
      rw [← z, he] at ho
      cases ho
      exact absurd (show Value.type "enumerate" = Value.type "tuple" from hcl) (by decide)
    have nia : a ≠ it := fun z => by
      obtain ⟨o, ho, hcl, _⟩ := hp
      obtain ⟨o2, ho2, hcl2, _⟩ := hit
      rw [z, ho2] at ho
      cases ho
      rw [hcl] at hcl2
      exact absurd hcl2 (by decide)
    have hun : X.A.in1.handled = none := I.ok.hd hc
    have hlt : i < its.toArray.size := by
      have := (List.getElem?_eq_some_iff.mp hu).1
      simpa using this
    refine wpAny_pyNext_enum_itemC (Draws.tuple hun it a nia its.toArray) he ⟨hit, hp⟩ hlt hne (by simp [hne, nea]) fun y h' tk hy ho st' hT hsz hk => ?_
    have ey : y = u := by
      have hy : its.toArray[i]? = some y := hy
      simp only [List.getElem?_toArray] at hy
      rw [hu] at hy
      exact (Option.some.inj hy).symm
    subst ey
    refine ⟨_, rfl, wpAny_letOwnedTupleGo_enum (s := { s with heap := h', toks := tk + 1 }) ho fun h'' he' sb => ?_⟩
    have hT2 : h''.get? s.heap.objs.size = some { cls := .type "tuple", data := .seq #[.int i tk, y] } := (sb.2 _ (Nat.ne_of_gt lte)).trans hT
    have I1 : Inv X pins σ (upd H s.heap.objs.size (.tup [.int (i : Nat), x])) { s with heap := h'', toks := tk + 1 } := by
      refine I.turnedNew (ch := [e, it]) (fun b ob hb q => ?_) hf (Nat.le_refl _) ⟨by show 2 ≤ sizeLine; decide, [.int i tk, y], .cons ⟨_, rfl⟩ (.cons ru .nil), ⟨_, hT2, rfl, _, rfl⟩⟩
      have h1 : b ≠ e := fun z => hb (by simp [z])
      have h2 : b ≠ it := fun z => hb (by simp [z])
      exact (sb.2 b h1).trans (hk b ob h1 h2 q)
    refine ⟨.ref s.heap.objs.size, _, I1, rfl, ⟨_, x, rfl, I.hok.fresh (Nat.le_refl _), rfl, fun ys hy => by rw [I.tuple_inj hy hq]; exact hx⟩, ⟨⟨y, ?_⟩, st'.1.at fun o q => (sb.2 it (Ne.symm hne)).trans q, hne⟩, fun b hb => ?_⟩
    · rw [show ((i + 1 : Nat) : Int) = (i : Int) + 1 by omega]
      exact he'
    · have hlb : b < s.heap.objs.size := by
        have hb : b = e ∨ b = it := by simpa using hb
        rcases hb with rfl | rfl
        · exact lte
        · exact lti
      rw [upd_ne (Nat.ne_of_lt hlb)]
      exact (hf b hb).1
  done := by
    intro X hP hw hK hc i pins s σ H E I hf ⟨⟨old, he⟩, hit, hne⟩ ⟨xs, hq, hx⟩
    subst hP hw hK
    obtain ⟨its, rv, p, hz⟩ := I.tuple hq
    have hp : s.heap.IsTuple a its.toArray := p
    have hl := rv.length
    have nia : a ≠ it := fun z => by
      obtain ⟨o, ho, hcl, _⟩ := hp
      obtain ⟨o2, ho2, hcl2, _⟩ := hit
      rw [z, ho2] at ho
      cases ho
      rw [hcl] at hcl2
      exact absurd hcl2 (by decide)
    obtain ⟨f0, f1, f2, f3, f4, f5⟩ := hf it (by simp)
    have hun : X.A.in1.handled = none := I.ok.hd hc
    have none_ : its.toArray[i]? = none := by
      rw [List.getElem?_toArray, List.getElem?_eq_none_iff]
      omega
    have ty : s.TypeIs (.ref e) "enumerate" := ⟨_, he, rfl⟩
    unfold pyNext
    refine wpAny_bind (wpAny_attempt (wpAny_callSpecial?_slot (name := Str.ofString "__next__") ty F.slot_enumerate_next (wpAny_call_entry F.slot_enumerate_next ty F.entry_enumerate_next ?_ (F.args_enumerate_next_1 _))))
    show wpAny _ _ (field (.ref e) 2 >>= _) _ _ _
    refine wpAny_bind (wpAny_field he rfl (x := .ref it) rfl (wpAny_bind (wpAny_nextOf_tuple_end hun hit hp none_ fun h' x he' ⟨o, ho, hcl⟩ => ?_)))
    exact wpAny_bind (wpAny_isInstance (T := "StopIteration") (b := true) ⟨o, ho, hcl⟩ isSubtype_stop (wpAny_pure ⟨rfl, I.turned (t' := s.toks) (fun b o hb q => he' b o hb q) f0 f1 f3 f4 f5⟩))
  self := fun A i s Q E ⟨⟨_, he⟩, _⟩ h => wpAny_pyIter_enum he h
/-- v's iterator comes: at it, the heap then f h -/
structure Comes (v : Value) (it : Heap → Addr) (f : Heap → Heap) (P : Heap → Prop) : Prop where
  iter : ∀ (prog : Program) (w : World) (A : Around) (E : Value → Shared → Prop) (s : Shared) (Q : Value → Shared → Prop), P s.heap → Q (.ref (it s.heap)) { s with heap := f s.heap } → wpAny (model prog w) A (pyIter v) Q E s
def enumO (it : Addr) : Obj := { cls := .type "enumerate", data := .fields #[.none, .bool false, .ref it, rawInt 0, .none, .none] }
set_option maxHeartbeats 1000000 in
theorem meets_enum1 {v : Value} {it : Heap → Addr} {f : Heap → Heap} {P : Heap → Prop} (C : Comes v it f P) : Meets (Builtin.«enumerate.__new__» ⟨[.type "enumerate", v], []⟩) (fun _ R s => P s.heap ∧ R (.ok (.ret (.ref (f s.heap).objs.size))) { s with heap := (f s.heap).push (enumO (it s.heap)) }) :=
  .of_wp fun prog w A R s ⟨h1, h⟩ => by
    obtain ⟨hp, g, d, tk, os⟩ := s
    have hsub := sub_enumerate
    have q1 : ∀ {A' : Around} {E : Value → Shared → Prop} {Q : Value → Shared → Prop}, Q (.ref (it hp)) ⟨f hp, g, d, tk, os⟩ → wpAny (model prog w) A' (pyIter v) Q E ⟨hp, g, d, tk, os⟩ := fun q => C.iter prog w _ _ ⟨hp, g, d, tk, os⟩ _ h1 q
    wp_walk using q1
    refine wpAny_stack_any fun st => wpAny_pure ?_
    split
    · rename_i c _ _ _ _ _
      cases (c == Value.type "enumerate") <;> (wp_walk using q1; exact ⟨_, rfl, h⟩)
    · wp_walk using q1
      exact ⟨_, rfl, h⟩
theorem call_enum1 {prog : Program} {w : World} {A : Around} {E : Value → Shared → Prop} {s : Shared} {v : Value} {it : Heap → Addr} {f : Heap → Heap} {P : Heap → Prop} {Q : Value → Shared → Prop} (C : Comes v it f P) (hP : P s.heap)
    (h : Q (.ref (f s.heap).objs.size) { s with heap := (f s.heap).push (enumO (it s.heap)) }) : wpAny (model prog w) A (call (.type "enumerate") [v]) Q E s :=
  callType_new F.called_enumerate (by decide) (F.typeCall_enumerate_1 _) (F.newCall_enumerate_1 _) (fun obj => F.args_object_init_2 obj _) F.entry_enumerate_new (meets_enum1 C) ⟨hP, ⟨_, Heap.get?_push_size _ rfl, rfl⟩, h⟩
def tupIt (t : Addr) : Obj := { cls := .type "tuple_iterator", data := .fields #[.ref t, .int 0 0] }
theorem comes_tuple (t : Addr) (items : Array Value) : Comes (.ref t) (fun h => h.objs.size) (fun h => h.push (tupIt t)) fun h => h.IsTuple t items := ⟨fun prog w A E s Q ht h => wpAny_pyIter_tuple ht h⟩
def iEnumA (K : PySem.W.Frag) (ta : TA) : TI := fun σ H R => ta σ H fun vs H1 => ∃ a xs, vs = [.ref a] ∧ ((SqL K H1 a xs ∧ R (Ite K a) H1) ∨ (SqT K H1 a xs ∧ R (IteT K a) H1))
theorem pi_enumA {X : Cx} {e : Expr} {ta : TA} {p pos tpos : Pos} {elts : List Expr} {kk : Nat} (hg : Gl X "enumerate") (hm : X.mg "enumerate" = none) (ha : PA X [e] ta) (hs : starEach [e] X.env = [(false, eval e X.env)]) :
    PI X (.Tuple elts kk tpos) (.Call (.Name "enumerate" p) [e] [] pos) (iEnumA X.K ta) := by
  refine ⟨fun pins s σ H R I h => Call_ (ld_blt I hg hm boot_enumerate (PyProof.Rows.callWith_type1 (thn (ha.run pos pins s σ H _ I h) fun us s1 ⟨vs, H1, I1, r1, a, xs, ex, q1⟩ => ?_) hs rfl))⟩
  subst ex
  cases r1 with
  | cons r rr =>
    cases rr
    cases r
    have young : ∀ b, (b = s1.heap.objs.size + 1 ∨ b = s1.heap.objs.size) → FpOk X pins H1 b := fun b hb => by
      have hle : s1.heap.objs.size ≤ b := by omega
      exact I1.fpOk hle (I1.hok.fresh hle)
    rcases q1 with ⟨hq, q⟩ | ⟨hq, q⟩
    · obtain ⟨its, rv, p', hz⟩ := I1.list hq
      refine call_enumerate_list p'.isList fun h' he hit hsz hk => wpAny_pyIter_enum he ?_
      exact ⟨s1.heap.objs.size + 1, [s1.heap.objs.size + 1, s1.heap.objs.size], _, _, H1, rfl, I1.kept (t' := s1.toks) hk, turn_enum a (s1.heap.objs.size + 1) s1.heap.objs.size, ⟨⟨.none, he⟩, hit, Nat.succ_ne_self _⟩, fun b hb => young b (by simpa using hb), q⟩
    · obtain ⟨its, rv, p', hz⟩ := I1.tuple hq
      have hp : s1.heap.IsTuple a its.toArray := p'
      have hz1 : (s1.heap.push (tupIt a)).objs.size = s1.heap.objs.size + 1 := Heap.size_push ..
      refine call_enum1 (comes_tuple a its.toArray) hp ?_
      have he : IsEnum ((s1.heap.push (tupIt a)).push (enumO s1.heap.objs.size)) (s1.heap.objs.size + 1) s1.heap.objs.size 0 .none := by
        have := Heap.get?_push_size (s1.heap.push (tupIt a)) (o := enumO s1.heap.objs.size) rfl
        rw [hz1] at this
        exact this
      have hit : ((s1.heap.push (tupIt a)).push (enumO s1.heap.objs.size)).IsTupleIter s1.heap.objs.size a 0 := ⟨_, Heap.get?_push_of_some _ (Heap.get?_push_size _ rfl), rfl, rfl⟩
      show wpAny _ _ (pyIter (.ref (s1.heap.push (tupIt a)).objs.size)) _ _ _
      rw [hz1]
      refine wpAny_pyIter_enum he ?_
      exact ⟨s1.heap.objs.size + 1, [s1.heap.objs.size + 1, s1.heap.objs.size], _, _, H1, rfl, I1.kept (t' := s1.toks) fun b o q => Heap.get?_push_of_some _ (Heap.get?_push_of_some _ q), turn_enumT a (s1.heap.objs.size + 1) s1.heap.objs.size, ⟨⟨.none, he⟩, hit, Nat.succ_ne_self _⟩, fun b hb => young b (by simpa using hb), q⟩
end LX
end
section
set_option Elab.async false
set_option autoImplicit false
set_option linter.all false
set_option maxRecDepth 100000
set_option maxHeartbeats 2000000
/-! LXk: enumerate over zip of two tuples. -/
namespace LX
open PySem PySem.Spec PyProof.Rows L2 LamX
/-- a zip; f0: its own tuple's state -/
def zO (f0 : Value) (f1 : Bool) (TI TO : Addr) : Obj := { cls := .type "zip", dict := none, data := .fields #[f0, .bool f1, .bool false, .ref TI, .ref TO], slots := #[] }
def outOk (f0 : Value) : Prop := f0 = .none ∨ ∃ T : Nat, f0 = rawInt (T : Int)
abbrev Pr (h : Heap) (T : Addr) (a b : Value) : Prop := h.get? T = some { cls := .type "tuple", data := .seq #[a, b] }
/-- a zip over the tuples at l1, l2 after k turns -/
structure ZS (h : Heap) (z TI TO i1 i2 l1 l2 : Addr) (k : Nat) : Prop where
  z : ∃ f0 f1, h.get? z = some (zO f0 f1 TI TO) ∧ outOk f0
  ti : Pr h TI (.ref i1) (.ref i2)
  to : ∃ a b, Pr h TO a b
  a : h.IsTupleIter i1 l1 k
  b : h.IsTupleIter i2 l2 k
section
variable {prog : Program} {w : World} {A : Around} {E : Value → Shared → Prop} {s : Shared} {z TI TO i1 i2 l1 l2 : Addr} {k : Nat}
theorem look_if {a : Addr} {Q : Option Obj → Shared → Prop} (h : Q (s.heap.get? a) s) : wpAny (model prog w) A (loadIfAlive a) Q E s := fun _ _ _ => h
theorem own_free {f0 : Value} {f1 : Bool} {Q : Bool → Shared → Prop} (hz : s.heap.get? z = some (zO f0 f1 TI TO)) (h0 : outOk f0)
    (h : ∀ b h' f, h'.get? z = some (zO f0 f TI TO) → Heap.SameBut z s.heap h' → Q b { s with heap := h' }) : wpAny (model prog w) A (Builtin.SmallTypes.ownedTupleIsFree (.ref z)) Q E s := by
  unfold Builtin.SmallTypes.ownedTupleIsFree
  rcases h0 with rfl | ⟨T, rfl⟩
  · exact wpAny_bind (wpAny_field hz rfl (x := .none) rfl (wpAny_pure (h true s.heap f1 hz (Heap.SameBut.refl _ _))))
  · refine wpAny_bind (wpAny_field hz rfl (x := rawInt (T : Int)) rfl ?_)
    show wpAny _ _ (loadIfAlive ((T : Int).toNat) >>= _) _ _ _
    refine wpAny_bind (look_if (a := (T : Int).toNat) ?_)
    cases s.heap.get? ((T : Int).toNat) with
    | none => exact wpAny_pure (h true s.heap f1 hz (Heap.SameBut.refl _ _))
    | some o =>
      simp only [Option.isNone_some, Bool.false_eq_true, if_false]
      refine wpAny_bind (wpAny_field hz rfl (x := .bool f1) rfl ?_)
      cases f1 with
      | true => exact wpAny_pure (h false s.heap true hz (Heap.SameBut.refl _ _))
      | false => exact wpAny_bind (wpAny_setField_rec hz (by simp) fun h₁ hz₁ hs₁ => wpAny_pure (h false h₁ true hz₁ hs₁))
theorem z_item {xs ys : Array Value} {x y : Value} {Q : Value → Shared → Prop} (D : ZipApart z TI TO i1 i2 l1 l2) (Z : ZS s.heap z TI TO i1 i2 l1 l2 k) (t1 : s.heap.IsTuple l1 xs) (t2 : s.heap.IsTuple l2 ys) (hx : xs[k]? = some x) (hy : ys[k]? = some y)
    (hQ : ∀ h', ZS h' z TI TO i1 i2 l1 l2 (k + 1) → Pr h' s.heap.objs.size x y → h'.objs.size = s.heap.objs.size + 1 → (∀ c o, c ≠ z → c ≠ TO → c ≠ i1 → c ≠ i2 → s.heap.get? c = some o → h'.get? c = some o) → Q (.ref s.heap.objs.size) { s with heap := h' }) :
    wpAny (model prog w) A (Builtin.«zip.__next__» ⟨[.ref z], []⟩) (fun fin s' => ∃ v, fin = .done (.ret v) ∧ Q v s') E s := by
  obtain ⟨f0, f1, hz, h0⟩ := Z.z
  obtain ⟨a, b, hTO⟩ := Z.to
  show wpAny _ _ (field (.ref z) 2 >>= _) _ _ _
  refine wpAny_bind (wpAny_field hz rfl (x := .bool false) rfl (show wpAny _ _ (field (.ref z) 3 >>= _) _ _ _ from wpAny_bind (wpAny_field hz rfl (x := .ref TI) rfl (wpAny_bind (wpAny_seqItems Z.ti rfl ?_)))))
  show wpAny _ _ (Builtin.SmallTypes.ownedTupleIsFree (.ref z) >>= _) _ _ _
  refine wpAny_bind (own_free hz h0 fun bb g f gz gs => ?_)
  have g1 : g.IsTupleIter i1 l1 k := Z.a.extBut gs.extBut D.i1z
  have g2 : g.IsTupleIter i2 l2 k := Z.b.extBut gs.extBut D.i2z
  have gt1 : g.IsTuple l1 xs := t1.extBut gs.extBut D.l1z
  have gt2 : g.IsTuple l2 ys := t2.extBut gs.extBut D.l2z
  have gTO : Pr g TO a b := gs.extBut _ _ D.TOz hTO
  have gTI : Pr g TI (.ref i1) (.ref i2) := gs.extBut _ _ D.TIz Z.ti
  cases bb with
  | false =>
    simp only [Bool.false_eq_true, if_false]
    refine wpAny_bind ?_
    rw [← Array.forIn_toList]
    simp only [List.forIn_cons, List.forIn_nil]
    refine wpAny_bind (wpAny_bind (wpAny_holding (show wpAny _ _ (Builtin.SmallTypes.nextOf (.ref i1) >>= _) _ _ _ from wpAny_bind (RZ.nextOf_tuple_item (s := { s with heap := g }) g1 gt1 hx fun h₂ j1 s2 => wpAny_pure (wpAny_pure ?_)))))
    refine wpAny_bind (wpAny_bind (wpAny_holding (show wpAny _ _ (Builtin.SmallTypes.nextOf (.ref i2) >>= _) _ _ _ from wpAny_bind (RZ.nextOf_tuple_item (s := { s with heap := h₂ }) (g2.extBut s2.extBut D.i12.symm) (gt2.extBut s2.extBut D.l2i1) hy fun h₃ j2 s3 => wpAny_pure (wpAny_pure (wpAny_pure ?_))))))
    show wpAny _ _ (newTuple [x, y] >>= _) _ _ _
    refine wpAny_bind (wpAny_newTuple (wpAny_pure ⟨_, rfl, ?_⟩))
    have hsz : h₃.objs.size = s.heap.objs.size := by rw [s3.1, s2.1, gs.1]
    have hk : ∀ c o, c ≠ z → c ≠ i1 → c ≠ i2 → s.heap.get? c = some o → h₃.get? c = some o := fun c o c1 c2 c3 e => s3.extBut _ _ c3 (s2.extBut _ _ c2 (gs.extBut _ _ c1 e))
    show Q (.ref h₃.objs.size) _
    have hp : Pr (h₃.push { cls := .type "tuple", data := .seq #[x, y] }) h₃.objs.size x y := Heap.get?_push_size _ rfl
    have hz4 : (h₃.push { cls := .type "tuple", data := .seq #[x, y] }).objs.size = h₃.objs.size + 1 := Heap.size_push ..
    rw [hsz] at hp hz4 ⊢
    refine hQ _ ⟨⟨f0, f, Heap.get?_push_of_some _ (s3.extBut _ _ D.i2z.symm (s2.extBut _ _ D.i1z.symm gz)), h0⟩, Heap.get?_push_of_some _ (s3.extBut _ _ D.TIi2 (s2.extBut _ _ D.TIi1 gTI)), ⟨a, b, Heap.get?_push_of_some _ (s3.extBut _ _ D.TOi2 (s2.extBut _ _ D.TOi1 gTO))⟩,
      (j1.extBut s3.extBut D.i12).at fun o e => Heap.get?_push_of_some _ e, j2.at fun o e => Heap.get?_push_of_some _ e⟩ hp hz4 fun c o c1 c2 c3 c4 e => Heap.get?_push_of_some _ (hk c o c1 c3 c4 e)
  | true =>
    simp only [if_true]
    refine wpAny_bind (wpAny_rule (wpAny_bind (wpAny_field gz rfl (x := .ref TO) rfl (wpAny_bind (wpAny_setField_rec gz (by simp) fun h₁ z1 s1 => wpAny_bind ?_)))))
    simp only [List.zipIdx_cons, List.zipIdx_nil, List.forIn_cons, List.forIn_nil]
    refine wpAny_bind (wpAny_bind (wpAny_onRaise (show wpAny _ _ (Builtin.SmallTypes.nextOf (.ref i1) >>= _) _ _ _ from wpAny_bind (RZ.nextOf_tuple_item (g1.extBut s1.extBut D.i1z) (gt1.extBut s1.extBut D.l1z) hx fun h₂ j1 s2 => wpAny_pure ?_))))
    have tO2 : Pr h₂ TO a b := s2.extBut _ _ D.TOi1 (s1.extBut _ _ D.TOz gTO)
    refine wpAny_bind (wpAny_seqItems tO2 rfl (wpAny_bind (wpAny_updateSeq_pair tO2 fun h₃ tO3 s3 => wpAny_bind (wpAny_letGo (wpAny_pure ?_)))))
    have tO3 : Pr h₃ TO x b := tO3
    refine wpAny_bind (wpAny_bind (wpAny_onRaise (show wpAny _ _ (Builtin.SmallTypes.nextOf (.ref i2) >>= _) _ _ _ from wpAny_bind (RZ.nextOf_tuple_item (((g2.extBut s1.extBut D.i2z).extBut s2.extBut D.i12.symm).extBut s3.extBut D.TOi2.symm) (((gt2.extBut s1.extBut D.l2z).extBut s2.extBut D.l2i1).extBut s3.extBut D.l2TO) hy fun h₄ j2 s4 => wpAny_pure ?_))))
    have tO4 : Pr h₄ TO x b := s4.extBut _ _ D.TOi2 tO3
    refine wpAny_bind (wpAny_seqItems tO4 rfl (wpAny_bind (wpAny_updateSeq_pair tO4 fun h₅ tO5 s5 => wpAny_bind (wpAny_letGo (wpAny_pure (wpAny_pure ?_))))))
    have tO5 : Pr h₅ TO x y := tO5
    refine wpAny_bind (wpAny_seqItems tO5 rfl (wpAny_bind (wpAny_newTuple ?_)))
    have hsz : h₅.objs.size = s.heap.objs.size := by rw [s5.1, s4.1, s3.1, s2.1, s1.1, gs.1]
    have z5 := s5.extBut _ _ D.TOz.symm (s4.extBut _ _ D.i2z.symm (s3.extBut _ _ D.TOz.symm (s2.extBut _ _ D.i1z.symm z1)))
    have hk5 : ∀ c o, c ≠ z → c ≠ TO → c ≠ i1 → c ≠ i2 → g.get? c = some o → h₅.get? c = some o := fun c o c1 c2 c3 c4 e => s5.extBut _ _ c2 (s4.extBut _ _ c4 (s3.extBut _ _ c2 (s2.extBut _ _ c3 (s1.extBut _ _ c1 e))))
    have j15 : h₅.IsTupleIter i1 l1 (k + 1) := ((j1.extBut s3.extBut D.TOi1.symm).extBut s4.extBut D.i12).extBut s5.extBut D.TOi1.symm
    have j25 : h₅.IsTupleIter i2 l2 (k + 1) := j2.extBut s5.extBut D.TOi2.symm
    have zlt : z < h₅.objs.size := Heap.lt_size z5
    show wpAny _ _ (Builtin.SmallTypes.ownedTupleHandOut (.ref z) (.ref h₅.objs.size) >>= _) _ _ _
    refine wpAny_bind ?_
    unfold Builtin.SmallTypes.ownedTupleHandOut
    refine wpAny_bind (wpAny_setField_rec (Heap.get?_push_of_some { cls := .type "tuple", data := .seq #[x, y] } z5) (by simp) fun h₇ z7 s7 => wpAny_setField_rec z7 (by simp) fun h₈ z8 s8 => ?_)
    have up : ∀ c o, c ≠ z → h₅.get? c = some o → h₈.get? c = some o := fun c o c1 e => s8.extBut _ _ c1 (s7.extBut _ _ c1 (Heap.get?_push_of_some _ e))
    have T8 : Pr h₈ h₅.objs.size x y := s8.extBut _ _ (Nat.ne_of_gt zlt) (s7.extBut _ _ (Nat.ne_of_gt zlt) (Heap.get?_push_size _ rfl))
    have e8 : h₈.objs.size = h₅.objs.size + 1 := by rw [s8.1, s7.1, Heap.size_push]
    have z9 : h₈.get? z = some (zO (rawInt (h₅.objs.size : Int)) false TI TO) := z8
    rw [hsz] at T8 e8 z9
    refine wpAny_pure ⟨_, rfl, ?_⟩
    show Q (.ref h₅.objs.size) _
    rw [hsz]
    exact hQ h₈ ⟨⟨_, false, z9, .inr ⟨_, rfl⟩⟩, up _ _ D.TIz (hk5 _ _ D.TIz D.TITO D.TIi1 D.TIi2 gTI), ⟨x, y, up _ _ D.TOz tO5⟩, j15.at fun o e => up _ o D.i1z e, j25.at fun o e => up _ o D.i2z e⟩ T8 e8 fun c o c1 c2 c3 c4 e => up c o c1 (hk5 c o c1 c2 c3 c4 (gs.extBut _ _ c1 e))
theorem z_end {xs ys : Array Value} {Q : Fin → Shared → Prop} (hh : A.handled = none) (D : ZipApart z TI TO i1 i2 l1 l2) (Z : ZS s.heap z TI TO i1 i2 l1 l2 k) (t1 : s.heap.IsTuple l1 xs) (t2 : s.heap.IsTuple l2 ys) (hend : xs[k]? = none ∨ ys[k]? = none)
    (hE : ∀ h' e, (∀ c o, c ≠ z → c ≠ TO → c ≠ i1 → c ≠ i2 → s.heap.get? c = some o → h'.get? c = some o) → (∃ o, h'.get? e = some o ∧ o.cls = .type "StopIteration") → E (.ref e) { s with heap := h' }) :
    wpAny (model prog w) A (Builtin.«zip.__next__» ⟨[.ref z], []⟩) Q E s := by
  obtain ⟨f0, f1, hz, h0⟩ := Z.z
  obtain ⟨a, b, hTO⟩ := Z.to
  show wpAny _ _ (field (.ref z) 2 >>= _) _ _ _
  refine wpAny_bind (wpAny_field hz rfl (x := .bool false) rfl (show wpAny _ _ (field (.ref z) 3 >>= _) _ _ _ from wpAny_bind (wpAny_field hz rfl (x := .ref TI) rfl (wpAny_bind (wpAny_seqItems Z.ti rfl ?_)))))
  show wpAny _ _ (Builtin.SmallTypes.ownedTupleIsFree (.ref z) >>= _) _ _ _
  refine wpAny_bind (own_free hz h0 fun bb g f gz gs => ?_)
  have g1 : g.IsTupleIter i1 l1 k := Z.a.extBut gs.extBut D.i1z
  have g2 : g.IsTupleIter i2 l2 k := Z.b.extBut gs.extBut D.i2z
  have gt1 : g.IsTuple l1 xs := t1.extBut gs.extBut D.l1z
  have gt2 : g.IsTuple l2 ys := t2.extBut gs.extBut D.l2z
  have gTO : Pr g TO a b := gs.extBut _ _ D.TOz hTO
  cases bb with
  | false =>
    simp only [Bool.false_eq_true, if_false]
    refine wpAny_bind ?_
    rw [← Array.forIn_toList]
    simp only [List.forIn_cons, List.forIn_nil]
    refine wpAny_bind (wpAny_bind (wpAny_holding (show wpAny _ _ (Builtin.SmallTypes.nextOf (.ref i1) >>= _) _ _ _ from wpAny_bind ?_)))
    cases hx : xs[k]? with
    | none => exact RZ.nextOf_tuple_end (s := { s with heap := g }) hh g1 gt1 hx fun h₂ e s2 he => hE h₂ e (fun c o c1 _ c3 _ q => s2 _ _ c3 (gs.extBut _ _ c1 q)) he
    | some x =>
      have hy : ys[k]? = none := hend.elim (fun q => by rw [hx] at q; cases q) id
      refine RZ.nextOf_tuple_item (s := { s with heap := g }) g1 gt1 hx fun h₂ j1 s2 => wpAny_pure (wpAny_pure ?_)
      refine wpAny_bind (wpAny_bind (wpAny_holding (show wpAny _ _ (Builtin.SmallTypes.nextOf (.ref i2) >>= _) _ _ _ from wpAny_bind ?_)))
      exact RZ.nextOf_tuple_end (s := { s with heap := h₂ }) hh (g2.extBut s2.extBut D.i12.symm) (gt2.extBut s2.extBut D.l2i1) hy fun h₃ e s3 he => hE h₃ e (fun c o c1 _ c3 c4 q => s3 _ _ c4 (s2.extBut _ _ c3 (gs.extBut _ _ c1 q))) he
  | true =>
    simp only [if_true]
    refine wpAny_bind (wpAny_rule (wpAny_bind (wpAny_field gz rfl (x := .ref TO) rfl (wpAny_bind (wpAny_setField_rec gz (by simp) fun h₁ z1 s1 => wpAny_bind ?_)))))
    simp only [List.zipIdx_cons, List.zipIdx_nil, List.forIn_cons, List.forIn_nil]
    refine wpAny_bind (wpAny_bind (wpAny_onRaise (show wpAny _ _ (Builtin.SmallTypes.nextOf (.ref i1) >>= _) _ _ _ from wpAny_bind ?_)))
    cases hx : xs[k]? with
    | none =>
      refine RZ.nextOf_tuple_end hh (g1.extBut s1.extBut D.i1z) (gt1.extBut s1.extBut D.l1z) hx fun h₂ e s2 ⟨oe, hoe, hce⟩ => ?_
      have z2 := s2 _ _ D.i1z.symm z1
      have hez : e ≠ z := fun q => by subst q; rw [z2] at hoe; cases hoe; exact absurd (show Value.type "zip" = Value.type "StopIteration" from hce) (by decide)
      exact wpAny_setField_rec z2 (by simp) fun h₃ _ s3 => hE h₃ e (fun c o c1 _ c3 _ q => s3.extBut _ _ c1 (s2 _ _ c3 (s1.extBut _ _ c1 (gs.extBut _ _ c1 q)))) ⟨oe, s3.extBut _ _ hez hoe, hce⟩
    | some x =>
      have hy : ys[k]? = none := hend.elim (fun q => by rw [hx] at q; cases q) id
      refine RZ.nextOf_tuple_item (g1.extBut s1.extBut D.i1z) (gt1.extBut s1.extBut D.l1z) hx fun h₂ j1 s2 => wpAny_pure ?_
      have tO2 : Pr h₂ TO a b := s2.extBut _ _ D.TOi1 (s1.extBut _ _ D.TOz gTO)
      refine wpAny_bind (wpAny_seqItems tO2 rfl (wpAny_bind (wpAny_updateSeq_pair tO2 fun h₃ tO3 s3 => wpAny_bind (wpAny_letGo (wpAny_pure ?_)))))
      refine wpAny_bind (wpAny_bind (wpAny_onRaise (show wpAny _ _ (Builtin.SmallTypes.nextOf (.ref i2) >>= _) _ _ _ from wpAny_bind ?_)))
      refine RZ.nextOf_tuple_end hh (((g2.extBut s1.extBut D.i2z).extBut s2.extBut D.i12.symm).extBut s3.extBut D.TOi2.symm) (((gt2.extBut s1.extBut D.l2z).extBut s2.extBut D.l2i1).extBut s3.extBut D.l2TO) hy fun h₄ e s4 ⟨oe, hoe, hce⟩ => ?_
      have z4 := s4 _ _ D.i2z.symm (s3.extBut _ _ D.TOz.symm (s2.extBut _ _ D.i1z.symm z1))
      have hez : e ≠ z := fun q => by subst q; rw [z4] at hoe; cases hoe; exact absurd (show Value.type "zip" = Value.type "StopIteration" from hce) (by decide)
      exact wpAny_setField_rec z4 (by simp) fun h₅ _ s5 => hE h₅ e (fun c o c1 c2 c3 c4 q => s5.extBut _ _ c1 (s4 _ _ c4 (s3.extBut _ _ c2 (s2.extBut _ _ c3 (s1.extBut _ _ c1 (gs.extBut _ _ c1 q)))))) ⟨oe, s5.extBut _ _ hez hoe, hce⟩
theorem zs_type (Z : ZS s.heap z TI TO i1 i2 l1 l2 k) : s.TypeIs (.ref z) "zip" := let ⟨_, _, hz, _⟩ := Z.z; ⟨_, hz, rfl⟩
theorem znext_item {xs ys : Array Value} {x y : Value} {Q : Value → Shared → Prop} (D : ZipApart z TI TO i1 i2 l1 l2) (Z : ZS s.heap z TI TO i1 i2 l1 l2 k) (t1 : s.heap.IsTuple l1 xs) (t2 : s.heap.IsTuple l2 ys) (hx : xs[k]? = some x) (hy : ys[k]? = some y)
    (hQ : ∀ h', ZS h' z TI TO i1 i2 l1 l2 (k + 1) → Pr h' s.heap.objs.size x y → h'.objs.size = s.heap.objs.size + 1 → (∀ c o, c ≠ z → c ≠ TO → c ≠ i1 → c ≠ i2 → s.heap.get? c = some o → h'.get? c = some o) → Q (.ref s.heap.objs.size) { s with heap := h' }) :
    wpAny (model prog w) A (Builtin.SmallTypes.nextOf (.ref z)) Q E s := by
  have hT := zs_type Z
  unfold Builtin.SmallTypes.nextOf
  exact wpAny_bind (wpAny_callSpecial?_slot (name := Str.ofString "__next__") hT F.slot_zip_next (wpAny_call_entry F.slot_zip_next hT F.entry_zip_next (z_item D Z t1 t2 hx hy fun h' a b c d => wpAny_pure (hQ h' a b c d)) (F.args_zip_next_1 _)))
theorem znext_end {xs ys : Array Value} {Q : Value → Shared → Prop} (hh : A.in1.handled = none) (D : ZipApart z TI TO i1 i2 l1 l2) (Z : ZS s.heap z TI TO i1 i2 l1 l2 k) (t1 : s.heap.IsTuple l1 xs) (t2 : s.heap.IsTuple l2 ys) (hend : xs[k]? = none ∨ ys[k]? = none)
    (hE : ∀ h' e, (∀ c o, c ≠ z → c ≠ TO → c ≠ i1 → c ≠ i2 → s.heap.get? c = some o → h'.get? c = some o) → (∃ o, h'.get? e = some o ∧ o.cls = .type "StopIteration") → E (.ref e) { s with heap := h' }) :
    wpAny (model prog w) A (Builtin.SmallTypes.nextOf (.ref z)) Q E s := by
  have hT := zs_type Z
  unfold Builtin.SmallTypes.nextOf
  exact wpAny_bind (wpAny_callSpecial?_slot (name := Str.ofString "__next__") hT F.slot_zip_next (wpAny_call_entry F.slot_zip_next hT F.entry_zip_next (z_end hh D Z t1 t2 hend hE) (F.args_zip_next_1 _)))
end
end LX
end
section
set_option Elab.async false
set_option autoImplicit false
set_option linter.all false
set_option maxRecDepth 100000
set_option maxHeartbeats 2000000
/-! LXl: the turns of enumerate over zip. -/
namespace LX
open PySem PySem.Spec PyProof.Rows L2 LamX
section
variable {prog : Program} {w : World} {A : Around} {E : Value → Shared → Prop} {s : Shared} {e z TI TO i1 i2 l1 l2 : Addr} {k : Nat}
theorem ez_item {c : Int} {old : Value} {xs ys : Array Value} {x y : Value} {Q : Value → Shared → Prop} (D : ZipApart z TI TO i1 i2 l1 l2) (he : IsEnum s.heap e z c old) (Z : ZS s.heap z TI TO i1 i2 l1 l2 k) (t1 : s.heap.IsTuple l1 xs) (t2 : s.heap.IsTuple l2 ys) (hx : xs[k]? = some x) (hy : ys[k]? = some y)
    (ne : e ≠ z ∧ e ≠ TI ∧ e ≠ TO ∧ e ≠ i1 ∧ e ≠ i2)
    (hQ : ∀ h' tk, IsEnumOut h' e z (c + 1) (.ref s.heap.objs.size) (s.heap.objs.size + 1) → ZS h' z TI TO i1 i2 l1 l2 (k + 1) → Pr h' s.heap.objs.size x y → h'.get? (s.heap.objs.size + 1) = some { cls := .type "tuple", data := .seq #[.int c tk, .ref s.heap.objs.size] } →
      (∀ b o, b ≠ e → b ≠ z → b ≠ TO → b ≠ i1 → b ≠ i2 → s.heap.get? b = some o → h'.get? b = some o) → Q (.ref (s.heap.objs.size + 1)) { s with heap := h', toks := tk + 1 }) :
    wpAny (model prog w) A (Builtin.«enumerate.__next__» ⟨[.ref e], []⟩) (fun fin s' => ∃ v, fin = .done (.ret v) ∧ Q v s') E s := by
  obtain ⟨hp, g, d, tk0, os⟩ := s
  obtain ⟨n1, n2, n3, n4, n5⟩ := ne
  have zs_keep : ∀ {h h' : Heap} {j : Nat}, ZS h z TI TO i1 i2 l1 l2 j → (∀ b o, b ≠ e → h.get? b = some o → h'.get? b = some o) → ZS h' z TI TO i1 i2 l1 l2 j := fun {h h' j} Z q =>
    ⟨let ⟨f0, f1, a, b⟩ := Z.z; ⟨f0, f1, q _ _ (Ne.symm n1) a, b⟩, q _ _ (Ne.symm n2) Z.ti, let ⟨a, b, r⟩ := Z.to; ⟨a, b, q _ _ (Ne.symm n3) r⟩, Z.a.at fun o r => q _ o (Ne.symm n4) r, Z.b.at fun o r => q _ o (Ne.symm n5) r⟩
  show wpAny _ _ (field (.ref e) 2 >>= _) _ _ _
  refine wpAny_bind (wpAny_field he rfl (x := .ref z) rfl (wpAny_bind (znext_item D Z t1 t2 hx hy fun h₁ Z1 p1 sz1 k1 => ?_)))
  have e1 : IsEnum h₁ e z c old := k1 _ _ n1 n3 n4 n5 he
  refine (show wpAny _ _ (field (.ref e) 3 >>= _) _ _ _ from wpAny_bind (wpAny_field e1 rfl (x := rawInt c) rfl (show wpAny _ _ (field (.ref e) 4 >>= _) _ _ _ from wpAny_bind (wpAny_field e1 rfl (x := .none) rfl (show wpAny _ _ (mkInt c >>= _) _ _ _ from wpAny_bind (wpAny_mkInt ?_))))))
  refine (show wpAny _ _ (setField (.ref e) 3 (rawInt (c + 1)) >>= _) _ _ _ from wpAny_bind (wpAny_setField_rec e1 (by simp) fun h₂ e2 s2 => ?_))
  have e2 : IsEnum h₂ e z (c + 1) old := e2
  refine (show wpAny _ _ (setField (.ref e) 4 .none >>= _) _ _ _ from wpAny_bind (wpAny_setField_rec e2 (by simp) fun h₃ e3 s3 => ?_))
  have e3 : IsEnum h₃ e z (c + 1) old := e3
  refine (show wpAny _ _ (newTuple [.int c _, .ref hp.objs.size] >>= _) _ _ _ from wpAny_bind (wpAny_newTuple ?_))
  have S2 : Heap.SameBut e h₁ h₂ := s2
  have S3 : Heap.SameBut e h₂ h₃ := s3
  have sz3 : h₃.objs.size = hp.objs.size + 1 := by rw [S3.1, S2.1]; exact sz1
  have le : e < hp.objs.size := Heap.lt_size he
  have keep3 : ∀ b o, b ≠ e → h₁.get? b = some o → h₃.get? b = some o := fun b o hb r => S3.extBut b o hb (S2.extBut b o hb r)
  generalize hh4 : h₃.push { cls := .type "tuple", data := .seq #[.int c _, .ref hp.objs.size] } = h₄
  have keep4 : ∀ b o, b ≠ e → h₁.get? b = some o → h₄.get? b = some o := fun b o hb r => by
    rw [← hh4]
    exact Heap.get?_push_of_some _ (keep3 b o hb r)
  have e4 : IsEnum h₄ e z (c + 1) old := by rw [← hh4]; exact Heap.get?_push_of_some _ e3
  have T4 : h₄.get? (hp.objs.size + 1) = some { cls := .type "tuple", data := .seq #[.int c tk0, .ref hp.objs.size] } := by rw [← hh4, ← sz3]; exact Heap.get?_push_size _ rfl
  have Z4 := zs_keep Z1 keep4
  have p4 : Pr h₄ hp.objs.size x y := keep4 _ _ (Nat.ne_of_gt le) p1
  show wpAny _ _ (Builtin.SmallTypes.ownedTupleIsFree (.ref e) >>= _) _ _ _
  refine wpAny_bind ?_
  unfold Builtin.SmallTypes.ownedTupleIsFree
  refine wpAny_bind (wpAny_field e4 rfl (x := .none) rfl (wpAny_pure ?_))
  simp only [if_true]
  rw [sz3]
  refine wpAny_bind (wpAny_rule (wpAny_bind (wpAny_field e4 rfl (x := old) rfl (wpAny_bind (wpAny_setField_rec e4 (by simp) fun h₅ e5 s5 => ?_)))))
  have e5 : IsEnum h₅ e z (c + 1) (.ref hp.objs.size) := e5
  have S5 : Heap.SameBut e h₄ h₅ := s5
  show wpAny _ _ (Builtin.SmallTypes.ownedTupleHandOut (.ref e) (.ref (hp.objs.size + 1)) >>= _) _ _ _
  refine wpAny_bind ?_
  unfold Builtin.SmallTypes.ownedTupleHandOut
  refine wpAny_bind (wpAny_setField_rec e5 (by simp) fun h₆ e6 s6 => ?_)
  have e6 : IsEnumOut h₆ e z (c + 1) (.ref hp.objs.size) (hp.objs.size + 1) := e6
  have S6 : Heap.SameBut e h₅ h₆ := s6
  refine wpAny_setField_rec e6 (by simp) fun h₇ e7 s7 => wpAny_bind (wpAny_letGo (wpAny_pure ⟨_, rfl, ?_⟩))
  have e7 : IsEnumOut h₇ e z (c + 1) (.ref hp.objs.size) (hp.objs.size + 1) := e7
  have S7 : Heap.SameBut e h₆ h₇ := s7
  have keep7 : ∀ b o, b ≠ e → h₄.get? b = some o → h₇.get? b = some o := fun b o hb r => S7.extBut b o hb (S6.extBut b o hb (S5.extBut b o hb r))
  exact hQ h₇ tk0 e7 (zs_keep Z4 keep7) (keep7 _ _ (Nat.ne_of_gt le) p4) (keep7 _ _ (Nat.ne_of_gt (Nat.lt_succ_of_lt le)) T4) fun b o b1 b2 b3 b4 b5 r => keep7 b o b1 (keep4 b o b1 (k1 b o b2 b3 b4 b5 r))
end
section
variable {X : Cx} {pins : List (Addr × Obj)} {σ : L2.St} {H : Hp} {s : Shared} {h' : Heap}
/-- records turned, two new objects laid -/
theorem turned2 {t' : Nat} {ch : List Addr} {P T : Addr} {o1 o2 : HO} (I : Inv X pins σ H s) (k : ∀ b o, b ∉ ch → s.heap.get? b = some o → h'.get? b = some o) (hf : ∀ b ∈ ch, FpOk X pins H b) (hP : s.heap.objs.size ≤ P) (hT : s.heap.objs.size ≤ T) (ne : P ≠ T)
    (n1 : ObjOk X.prog X.w (upd (upd H P o1) T o2) h' P o1) (n2 : ObjOk X.prog X.w (upd (upd H P o1) T o2) h' T o2) : Inv X pins σ (upd (upd H P o1) T o2) { s with heap := h', toks := t' } := by
  have fP : H P = none := I.hok.fresh hP
  have fT : H T = none := I.hok.fresh hT
  have old : ∀ {b : Addr} {u : HO}, H b = some u → (upd (upd H P o1) T o2) b = some u := fun {b u} e => by
    rw [upd_ne (ne_of_none e fT), upd_ne (ne_of_none e fP)]
    exact e
  have out : ∀ b u, H b = some u → b ∉ ch := fun b u e z => by
    rw [(hf b z).1] at e
    cases e
  refine I.step (g' := s.gens) (d' := s.drawn) (ch := ch) (fun b hb => let q := (hf b hb).2; ⟨q.2.2.1, q.1, q.2.2.2.1, q.2.2.2.2⟩) (fun b o _ _ hc e _ => k b o hc e) (fun b o _ _ hc e _ => ⟨o.slots, k b o hc e⟩)
    (fun b o _ e n => ?_) (fun b o hc e => ⟨o, k b o hc e⟩) (fun b xs e => old e) (fun b o u e => old e) (fun b ps e => ⟨#[], by rw [old e]; simp⟩) (fun m ⟨o, es, ep, ho, r⟩ => ⟨o, es, ep, k _ o (fun z => (hf _ z).2.1 rfl) ho, r⟩) (fun b u e => ?_) I.bare
  · have lt := Heap.lt_size e
    rw [upd_ne (Nat.ne_of_lt (Nat.lt_of_lt_of_le lt hT)), upd_ne (Nat.ne_of_lt (Nat.lt_of_lt_of_le lt hP))]
    exact n
  · by_cases hb : b = T
    · subst hb
      rw [upd_same] at e
      cases e
      exact n2
    · by_cases hb1 : b = P
      · subst hb1
        rw [upd_ne hb, upd_same] at e
        cases e
        exact n1
      · rw [upd_ne hb, upd_ne hb1] at e
        exact (I.hok b u e).stay (fun c v hc q => k c v (hc.elim (fun z => by rw [z]; exact out b u e) (fun z => out c _ z)) q) (fun c q => old q) fun c xs q => old q
end
/-- the tuples at a and b, pair by pair, each counted -/
def ItEz (K : PySem.W.Frag) (a b : Addr) : It :=
  ⟨fun i H => ∃ (xs ys : List V) (x y : V), SqT K H a xs ∧ SqT K H b ys ∧ xs[i]? = some x ∧ ys[i]? = some y,
    fun i H v H' => ∃ P T x y, v = .ref T ∧ H P = none ∧ H T = none ∧ P ≠ T ∧ H' = upd (upd H P (.tup [x, y])) T (.tup [.int (i : Nat), .ref P]) ∧ (∀ xs, SqT K H a xs → xs[i]? = some x) ∧ ∀ ys, SqT K H b ys → ys[i]? = some y,
    fun i H => ∃ xs ys : List V, SqT K H a xs ∧ SqT K H b ys ∧ (xs.length ≤ i ∨ ys.length ≤ i)⟩
theorem turn_ez {P : Program} {w : World} {K : PySem.W.Frag} {elts : List Expr} {kk : Nat} {tpos : Pos} {a b e z TI TO i1 i2 : Addr} (D : ZipApart z TI TO i1 i2 a b) (ne : e ≠ z ∧ e ≠ TI ∧ e ≠ TO ∧ e ≠ i1 ∧ e ≠ i2) :
    Turn P w K (.Tuple elts kk tpos) (ItEz K a b) [e, z, TI, TO, i1, i2] e (fun i h => (∃ old, IsEnum h e z ((i : Nat) : Int) old) ∧ ZS h z TI TO i1 i2 a b i) where
  mem := by simp
  obj := fun i h ⟨⟨old, he⟩, Z⟩ c hc => by
    obtain ⟨f0, f1, hz, _⟩ := Z.z
    obtain ⟨x, y, ho⟩ := Z.to
    obtain ⟨o1, e1, _, d1⟩ := Z.a
    obtain ⟨o2, e2, _, d2⟩ := Z.b
    have hc : c = e ∨ c = z ∨ c = TI ∨ c = TO ∨ c = i1 ∨ c = i2 := by simpa using hc
    rcases hc with rfl | rfl | rfl | rfl | rfl | rfl
    · exact ⟨_, he, fun v q => by cases q⟩
    · exact ⟨_, hz, fun v q => by cases q⟩
    · exact ⟨_, Z.ti, fun v q => by cases q⟩
    · exact ⟨_, ho, fun v q => by cases q⟩
    · exact ⟨o1, e1, fun v q => by rw [d1] at q; cases q⟩
    · exact ⟨o2, e2, fun v q => by rw [d2] at q; cases q⟩
  keep := fun i h h' ⟨⟨old, he⟩, Z⟩ k => ⟨⟨old, k e (by simp) _ he⟩, let ⟨f0, f1, q, r⟩ := Z.z; ⟨f0, f1, k z (by simp) _ q, r⟩, k TI (by simp) _ Z.ti, let ⟨x, y, q⟩ := Z.to; ⟨x, y, k TO (by simp) _ q⟩, Z.a.at fun o q => k i1 (by simp) o q, Z.b.at fun o q => k i2 (by simp) o q⟩
  item := by
    intro X hP hw hK hc i pins s σ H E I hf ⟨⟨old, he⟩, Z⟩ ⟨xs, ys, x, y, hqx, hqy, hx, hy⟩
    subst hP hw hK
    obtain ⟨its, rv, p1, _⟩ := I.tuple hqx
    obtain ⟨its2, rv2, p2, _⟩ := I.tuple hqy
    obtain ⟨u, hu, ru⟩ := rv.get hx
    obtain ⟨u2, hu2, ru2⟩ := rv2.get hy
    have lte : e < s.heap.objs.size := Heap.lt_size he
    have ty : s.TypeIs (.ref e) "enumerate" := ⟨_, he, rfl⟩
    unfold pyNext
    refine wpAny_bind (wpAny_attempt (wpAny_callSpecial?_slot (name := Str.ofString "__next__") ty F.slot_enumerate_next (wpAny_call_entry F.slot_enumerate_next ty F.entry_enumerate_next (ez_item D he Z (show s.heap.IsTuple a its.toArray from p1) (show s.heap.IsTuple b its2.toArray from p2) (by simpa using hu) (by simpa using hu2) ne fun h' tk ho Z' hPr hT hk => wpAny_pure ?_) (F.args_enumerate_next_1 _))))
    refine ⟨_, rfl, wpAny_letOwnedTupleGo_enum (s := { s with heap := h', toks := tk + 1 }) ho fun h'' he' sb => ?_⟩
    have nP : s.heap.objs.size ≠ e := Nat.ne_of_gt lte
    have nT : s.heap.objs.size + 1 ≠ e := Nat.ne_of_gt (Nat.lt_succ_of_lt lte)
    have hT2 : h''.get? (s.heap.objs.size + 1) = some { cls := .type "tuple", data := .seq #[.int i tk, .ref s.heap.objs.size] } := (sb.2 _ nT).trans hT
    have hP2 : h''.get? s.heap.objs.size = some { cls := .type "tuple", data := .seq #[u, u2] } := (sb.2 _ nP).trans hPr
    have kp : ∀ c o, c ∉ [e, z, TI, TO, i1, i2] → s.heap.get? c = some o → h''.get? c = some o := fun c o hb q => by
      simp only [List.mem_cons, List.not_mem_nil, or_false, not_or] at hb
      exact (sb.2 c hb.1).trans (hk c o hb.1 hb.2.1 hb.2.2.2.1 hb.2.2.2.2.1 hb.2.2.2.2.2 q)
    have I1 : Inv X pins σ (upd (upd H s.heap.objs.size (.tup [x, y])) (s.heap.objs.size + 1) (.tup [.int (i : Nat), .ref s.heap.objs.size])) { s with heap := h'', toks := tk + 1 } := by
      refine turned2 (ch := [e, z, TI, TO, i1, i2]) I kp hf (Nat.le_refl _) (Nat.le_succ _) (Nat.ne_of_lt (Nat.lt_succ_self _)) ?_ ?_
      · exact ⟨by show 2 ≤ sizeLine; decide, [u, u2], .cons ru (.cons ru2 .nil), ⟨_, hP2, rfl, _, rfl⟩⟩
      · exact ⟨by show 2 ≤ sizeLine; decide, [.int i tk, .ref s.heap.objs.size], .cons ⟨_, rfl⟩ (.cons rfl .nil), ⟨_, hT2, rfl, _, rfl⟩⟩
    obtain ⟨n1, n2, n3, n4, n5⟩ := ne
    refine ⟨.ref (s.heap.objs.size + 1), _, I1, rfl, ⟨_, _, x, y, rfl, I.hok.fresh (Nat.le_refl _), I.hok.fresh (Nat.le_succ _), Nat.ne_of_lt (Nat.lt_succ_self _), rfl, fun l hl => by rw [I.tuple_inj hl hqx]; exact hx, fun l hl => by rw [I.tuple_inj hl hqy]; exact hy⟩, ⟨⟨.ref s.heap.objs.size, ?_⟩, ?_⟩, fun c hc => ?_⟩
    · rw [show ((i + 1 : Nat) : Int) = (i : Int) + 1 by omega]
      exact he'
    · have q : ∀ {c : Addr} {o : Obj}, e ≠ c → h'.get? c = some o → h''.get? c = some o := fun {c o} hc r => (sb.2 c (Ne.symm hc)).trans r
      exact ⟨let ⟨f0, f1, r, t⟩ := Z'.z; ⟨f0, f1, q n1 r, t⟩, q n2 Z'.ti, let ⟨x, y, r⟩ := Z'.to; ⟨x, y, q n3 r⟩, Z'.a.at fun o r => q n4 r, Z'.b.at fun o r => q n5 r⟩
    · have lt : c < s.heap.objs.size := by
        obtain ⟨f0, f1, hz, _⟩ := Z.z
        obtain ⟨x, y, ho⟩ := Z.to
        obtain ⟨o1, e1, _⟩ := Z.a
        obtain ⟨o2, e2, _⟩ := Z.b
        have hc : c = e ∨ c = z ∨ c = TI ∨ c = TO ∨ c = i1 ∨ c = i2 := by simpa using hc
        rcases hc with rfl | rfl | rfl | rfl | rfl | rfl
        · exact lte
        · exact Heap.lt_size hz
        · exact Heap.lt_size Z.ti
        · exact Heap.lt_size ho
        · exact Heap.lt_size e1
        · exact Heap.lt_size e2
      rw [upd_ne (Nat.ne_of_lt (Nat.lt_succ_of_lt lt)), upd_ne (Nat.ne_of_lt lt)]
      exact (hf c hc).1
  done := by
    intro X hP hw hK hc i pins s σ H E I hf ⟨⟨old, he⟩, Z⟩ ⟨xs, ys, hqx, hqy, hl⟩
    subst hP hw hK
    obtain ⟨its, rv, p1, _⟩ := I.tuple hqx
    obtain ⟨its2, rv2, p2, _⟩ := I.tuple hqy
    have l1 := rv.length
    have l2 := rv2.length
    have ty : s.TypeIs (.ref e) "enumerate" := ⟨_, he, rfl⟩
    have hun : X.A.in1.in1.handled = none := I.ok.hd hc
    have hend : its.toArray[i]? = none ∨ its2.toArray[i]? = none := by
      rcases hl with hl | hl
      · left
        rw [List.getElem?_toArray, List.getElem?_eq_none_iff]
        omega
      · right
        rw [List.getElem?_toArray, List.getElem?_eq_none_iff]
        omega
    unfold pyNext
    refine wpAny_bind (wpAny_attempt (wpAny_callSpecial?_slot (name := Str.ofString "__next__") ty F.slot_enumerate_next (wpAny_call_entry F.slot_enumerate_next ty F.entry_enumerate_next ?_ (F.args_enumerate_next_1 _))))
    refine (show wpAny _ _ (field (.ref e) 2 >>= _) _ _ _ from wpAny_bind (wpAny_field he rfl (x := .ref z) rfl (wpAny_bind (znext_end hun D Z (show s.heap.IsTuple a its.toArray from p1) (show s.heap.IsTuple b its2.toArray from p2) hend fun h' x hk ⟨o, ho, hcl⟩ => ?_))))
    refine wpAny_bind (wpAny_isInstance (T := "StopIteration") (b := true) ⟨o, ho, hcl⟩ isSubtype_stop (wpAny_pure ⟨rfl, I.turnedL (t' := s.toks) (ch := [e, z, TI, TO, i1, i2]) (fun b o hb q => ?_) hf⟩))
    simp only [List.mem_cons, List.not_mem_nil, or_false, not_or] at hb
    exact hk b o hb.2.1 hb.2.2.2.1 hb.2.2.2.2.1 hb.2.2.2.2.2 q
  self := fun A i s Q E ⟨⟨_, he⟩, _⟩ h => wpAny_pyIter_enum he h
end LX
end
section
set_option Elab.async false
set_option autoImplicit false
set_option linter.all false
set_option maxRecDepth 100000
set_option maxHeartbeats 2000000
/-! LXm: for .. in enumerate(zip(a, b)), a and b tuples. -/
namespace LX
open PySem PySem.Spec PyProof.Rows L2 LamX
theorem comes_zip (z TI TO : Addr) (f0 : Value) : Comes (.ref z) (fun _ => z) (fun h => h) fun h => IsZip h z TI TO f0 := ⟨fun prog w A E s Q hz h => wpAny_pyIter_zip hz h⟩
def iEz (K : PySem.W.Frag) (ta : TA) : TI := fun σ H R => ta σ H fun vs H1 => ∃ a b xs ys, vs = [.ref a, .ref b] ∧ SqT K H1 a xs ∧ SqT K H1 b ys ∧ R (ItEz K a b) H1
theorem pi_ez {X : Cx} {e e2 : Expr} {ta : TA} {p pos p2 pos2 tpos : Pos} {elts : List Expr} {kk : Nat} (hg : Gl X "enumerate") (hm : X.mg "enumerate" = none) (hg2 : Gl X "zip") (hm2 : X.mg "zip" = none) (ha : PA X [e, e2] ta)
    (hs : starEach [e, e2] X.env = (false, eval e X.env) :: starEach [e2] X.env) (hpl : (backTo pos2 (starEach [e2] X.env)).any (·.1) = false) :
    PI X (.Tuple elts kk tpos) (.Call (.Name "enumerate" p) [.Call (.Name "zip" p2) [e, e2] [] pos2] [] pos) (iEz X.K ta) := by
  refine ⟨fun pins s σ H R I h => Call_ (ld_blt I hg hm boot_enumerate (PyProof.Rows.callWith_type1 (PyProof.Rows.args_cons ?_) rfl rfl))⟩
  refine Call_ (ld_blt I hg2 hm2 PyProof.Rows.boot_zip (PyProof.Rows.callWith_type1 (thn (ha.run pos2 pins s σ H _ I h) fun us s1 ⟨vs, H1, I1, r1, q1⟩ => ?_) hs hpl))
  obtain ⟨a, b, xs, ys, ex, hqx, hqy, q⟩ := q1
  subst ex
  cases r1 with
  | cons r rr =>
    cases rr with
    | cons r' rr =>
      cases rr
      cases r
      cases r'
      obtain ⟨its, rv, p1, _⟩ := I1.tuple hqx
      obtain ⟨its2, rv2, p2', _⟩ := I1.tuple hqy
      obtain ⟨o1, ho1, _⟩ := id p1
      obtain ⟨o2, ho2, _⟩ := id p2'
      refine RZ.call_zipT (show s1.heap.IsTuple a its.toArray from p1) (show s1.heap.IsTuple b its2.toArray from p2') fun h' hz hTI hTO h1 h2 hsz hk => ?_
      refine PyProof.Rows.args_nil ?_
      refine call_enum1 (s := { s1 with heap := h' }) (comes_zip (s1.heap.objs.size + 4) (s1.heap.objs.size + 2) (s1.heap.objs.size + 3) .none) hz ?_
      have up : ∀ c o, h'.get? c = some o → (h'.push (enumO (s1.heap.objs.size + 4))).get? c = some o := fun c o e => Heap.get?_push_of_some _ e
      have he : IsEnum (h'.push (enumO (s1.heap.objs.size + 4))) h'.objs.size (s1.heap.objs.size + 4) 0 .none := Heap.get?_push_size _ rfl
      rw [hsz] at he ⊢
      refine wpAny_pyIter_enum he ?_
      have I2 : Inv X pins σ H1 { s1 with heap := h'.push (enumO (s1.heap.objs.size + 4)) } := I1.kept (t' := s1.toks) fun c o e => up c o (hk c o e)
      have D := PySem.W.ktu_apart s1.heap.objs.size a b (Heap.lt_size ho1) (Heap.lt_size ho2)
      have ne5 : ∀ k, k < 5 → s1.heap.objs.size + 5 ≠ s1.heap.objs.size + k := fun k hk => by omega
      refine ⟨s1.heap.objs.size + 5, [s1.heap.objs.size + 5, s1.heap.objs.size + 4, s1.heap.objs.size + 2, s1.heap.objs.size + 3, s1.heap.objs.size, s1.heap.objs.size + 1], _, _, H1, rfl, I2, turn_ez D ⟨ne5 4 (by decide), ne5 2 (by decide), ne5 3 (by decide), ne5 0 (by decide), ne5 1 (by decide)⟩, ⟨⟨.none, he⟩, ⟨.none, false, up _ _ hz, .inl rfl⟩, up _ _ hTI, ⟨_, _, up _ _ hTO⟩, ⟨_, up _ _ h1.choose_spec.1, h1.choose_spec.2⟩, ⟨_, up _ _ h2.choose_spec.1, h2.choose_spec.2⟩⟩, fun c hcm => ?_, q⟩
      have hle : s1.heap.objs.size ≤ c := by
        have e' : c = s1.heap.objs.size + 5 ∨ c = s1.heap.objs.size + 4 ∨ c = s1.heap.objs.size + 2 ∨ c = s1.heap.objs.size + 3 ∨ c = s1.heap.objs.size ∨ c = s1.heap.objs.size + 1 := by simpa using hcm
        rcases e' with z | z | z | z | z | z <;> (rw [z]; first | exact Nat.le_add_right _ _ | exact Nat.le_refl _)
      exact I1.fpOk hle (I1.hok.fresh hle)
end LX
end
section
set_option Elab.async false
set_option autoImplicit false
set_option linter.all false
set_option maxRecDepth 100000
set_option maxHeartbeats 2000000
/-! DLi: isinstance, what is walked over, targets, comprehensions. -/
namespace DL
open PySem PySem.Spec PyProof.Rows L2
section
variable {X : Cx} {G : Glob} {W : WX} {fa fb fc : Env → Store → Out D} {a b c : Expr}
/-! ### isinstance -/
def tyS : Ty → Str
  | .non => "NoneType"
  | .bool => "bool"
  | .int => "int"
  | .str => "str"
  | .tup => "tuple"
  | .lst => "list"
  | .dict => "dict"
theorem boot_ty {t : Ty} (h : t ≠ .non) : bootBuiltins (tyS t) = some (.type (tyN t)) := by
  cases t <;> first | rfl | exact absurd rfl h
theorem blt_ty {t : Ty} (h : t ≠ .non) : tyS t ∈ bltNames := by
  cases t <;> first | exact absurd rfl h | (simp [tyS, bltNames])
theorem kitOne_ty {K : PySem.W.Frag} {d : D} {t : Ty} (e : dTy d = some t) {u : Ty} (hu : u ≠ .non) : PySem.W.kitOne K (.type (tyN t)) (.type (tyN u)) = some (tyIs d u) := by
  rw [tyIs_eq e u hu]
  exact kit_ty (ty_kit t u)
theorem pe_tyN {t : Ty} {p : Pos} (h : t ≠ .non) (hg : Gl X (tyS t)) (hm : X.mg (tyS t) = none) : PE X (.Name (tyS t) p) (tC (.ty (tyN t))) :=
  pe_bltn hg hm (boot_ty h) rfl (by cases t <;> decide) (by cases t <;> decide)
theorem n_isi1 (hK : X.K = G.K) {t : Ty} {p p2 pos : Pos} (h : t ≠ .non) (hg : Gl X "isinstance") (hm : X.mg "isinstance" = none) (hgt : Gl X (tyS t)) (hmt : X.mg (tyS t) = none) (ha : PE X a (tD G W fa)) (hn : noStar a = true) :
    PE X (.Call (.Name "isinstance" p) [a, .Name (tyS t) p2] [] pos) (tD G W (fun σ S => (fa σ S).bind fun x S => isD [t] x S)) := by
  refine PE.mono (pe_callB call_isi hg hm rfl (pa_cons ha (pa_cons (pe_tyN h hgt hmt) pa_nil rfl) (starEach_cons hn)) (by decide) (by decide) (starEach_cons hn) rfl) fun σV H Q hh => ?_
  refine tX.step (rel := Rep G) hh fun vx σ x S r l s hx p => ?_
  obtain ⟨t1, e1, p1⟩ := isD_ok hx p
  refine ⟨vx, .ty (tyN t), .type (tyN t1), .type (tyN t), tyIs x t, rfl, .ty _, ?_, kitOne_ty e1 h, ?_⟩
  · rw [hK]; exact tyx_ok l (mu_len l) hx e1
  · have : ([t].any fun u => tyIs x u) = tyIs x t := by simp
    rw [this] at p1
    exact Post.here p1 l (.bl _)
/-- names of types -/
def tyNames : List Ty → List Expr → Bool
  | [], [] => true
  | t :: ts, .Name x _ :: es => decide (x = tyS t) && decide (t ≠ .non) && tyNames ts es
  | _, _ => false
theorem tys_non : ∀ {ts : List Ty} {es : List Expr}, tyNames ts es = true → ∀ u ∈ ts, u ≠ .non
  | [], _, _, _, h => by cases h
  | t :: ts, e :: es, h, u, hu => by
    cases e <;> first | cases h | simp only [tyNames, Bool.and_eq_true, decide_eq_true_eq] at h
    rcases List.mem_cons.mp hu with rfl | hu
    · exact h.1.2
    · exact tys_non h.2 u hu
  | _ :: _, [], h, _, _ => by cases h
theorem pa_tys : ∀ {ts : List Ty} {es : List Expr}, tyNames ts es = true → (∀ t ∈ ts, Gl X (tyS t) ∧ X.mg (tyS t) = none) → PA X es (fun _ H Q => Q (ts.map fun t => V.ty (tyN t)) H)
  | [], [], _, _ => PA.mono pa_nil fun σ H Q h => h
  | t :: ts, e :: es, h, hg => by
    cases e <;> first | cases h | simp only [tyNames, Bool.and_eq_true, decide_eq_true_eq] at h
    obtain ⟨⟨rfl, h2⟩, h3⟩ := h
    exact PA.mono (pa_cons (pe_tyN h2 (hg t List.mem_cons_self).1 (hg t List.mem_cons_self).2) (pa_tys h3 fun u hu => hg u (List.mem_cons_of_mem _ hu)) (starEach_cons rfl)) fun σ H Q h => h
  | [], _ :: _, h, _ => by cases h
  | _ :: _, [], h, _ => by cases h
theorem paired_tys : ∀ ts : List Ty, Paired ClsV (ts.map fun t => V.ty (tyN t)) (ts.map fun t => Value.type (tyN t))
  | [] => .nil
  | t :: ts => .cons (.ty _) (paired_tys ts)
theorem n_isiT (hK : X.K = G.K) {ts : List Ty} {es : List Expr} {k : Nat} {p p2 pos : Pos} (h : tyNames ts es = true) (hz : ts.length ≤ 100) (hg : Gl X "isinstance") (hm : X.mg "isinstance" = none) (hgt : ∀ t ∈ ts, Gl X (tyS t) ∧ X.mg (tyS t) = none) (ha : PE X a (tD G W fa)) (hn : noStar a = true) :
    PE X (.Call (.Name "isinstance" p) [a, .Tuple es k p2] [] pos) (tD G W (fun σ S => (fa σ S).bind fun x S => isD ts x S)) := by
  refine PE.mono (pe_callB call_isiT hg hm rfl (pa_cons ha (pa_cons (pe_tup (pa_tys h hgt)) pa_nil rfl) (starEach_cons hn)) (by decide) (by decide) (starEach_cons hn) rfl) fun σV H Q hh => ?_
  refine tX.step (rel := Rep G) hh fun vx σ x S r l s hx p => ?_
  obtain ⟨t1, e1, p1⟩ := isD_ok hx p
  refine ⟨by rw [List.length_map]; exact Nat.le_trans hz (by decide), fun q hq => ?_⟩
  have x1 := Ext.put l hq (.tup (ts.map fun t => V.ty (tyN t)))
  have l1 := Rl.put l hq (.tup (ts.map fun t => V.ty (tyN t)))
  refine ⟨vx, q, _, .type (tyN t1), _, _, rfl, upd_same, paired_tys ts, ?_, kitAny_tys e1 ts (tys_non h), ?_⟩
  · rw [hK]; exact tyx_ok l1 (mu_len l1) (hx.ext x1) e1
  · exact Post.here (Post.from x1 p1) l1 (.bl _)

/-! ### what is walked over -/
/-- J gives ds, wherever things have grown to -/
def ItOk (G : Glob) (r : RS) (ds : List D) (J : It) : Prop := ∀ r' S, Grow r r' → Rl G r' S →
  (∀ i, ds.length ≤ i → J.stop i r'.H) ∧ ∀ i d, ds[i]? = some d → J.go i r'.H ∧ ∀ x H', J.yld i r'.H x H' → ∃ r'', r''.H = H' ∧ Ext r' r'' ∧ Rl G r'' S ∧ Rep G r'' d x
def tI (G : Glob) (W : WX) (f : Env → Store → Out (List D)) : TI := tX G W (ItOk G) f
theorem ItOk.lst {r : RS} {a : Addr} {ds : List D} {vs : List V} (h : Rd r.H a (.lst vs)) (z : ¬ r.Z a) (q : Reps G r ds vs) : ItOk G r ds (Itl G.K a) := fun r' S g l => by
  have sq : SqL G.K r'.H a vs := .inl (rd_grow g h z).1
  have q' := q.grow g
  refine ⟨fun i hi => ⟨vs, sq, by rw [← q.length]; exact hi⟩, fun i d hd => ?_⟩
  obtain ⟨v, e, rv⟩ := q'.get hd
  refine ⟨⟨vs, v, sq, e⟩, fun x H' ⟨eH, y⟩ => ⟨r', eH.symm, Ext.refl _, l, ?_⟩⟩
  have := y vs sq
  rw [e] at this; cases this
  exact rv
theorem ItOk.tup {r : RS} {a : Addr} {ds : List D} {vs : List V} (h : Ft G r a vs) (q : Reps G r ds vs) : ItOk G r ds (Itt G.K a) := fun r' S g l => by
  have sq : SqT G.K r'.H a vs := (h.grow g).sq
  have q' := q.grow g
  refine ⟨fun i hi => ⟨vs, sq, by rw [← q.length]; exact hi⟩, fun i d hd => ?_⟩
  obtain ⟨v, e, rv⟩ := q'.get hd
  refine ⟨⟨vs, v, sq, e⟩, fun x H' ⟨eH, y⟩ => ⟨r', eH.symm, Ext.refl _, l, ?_⟩⟩
  have := y vs sq
  rw [e] at this; cases this
  exact rv
theorem charsD_get : ∀ (x : List Nat) (i : Nat) (d : D), (charsD x)[i]? = some d → ∃ c, x[i]? = some c ∧ d = .str [c]
  | [], i, d, h => by simp [charsD] at h
  | c :: cs, 0, d, h => by simp [charsD] at h; exact ⟨c, rfl, h.symm⟩
  | c :: cs, i + 1, d, h => by
    obtain ⟨k, e, f⟩ := charsD_get cs i d (by simpa [charsD] using h)
    exact ⟨k, by simpa using e, f⟩
theorem charsD_length : ∀ x : List Nat, (charsD x).length = x.length
  | [] => rfl
  | c :: cs => by simp [charsD, charsD_length cs]
theorem ItOk.str {r : RS} {x : List Nat} : ItOk G r (charsD x) (Its (txt x)) := fun r' S g l => by
  refine ⟨fun i hi => ?_, fun i d hd => ?_⟩
  · show (txt x).cps.size ≤ i
    rw [charsD_length] at hi
    simpa [txt] using hi
  · obtain ⟨c, e, rfl⟩ := charsD_get x i d hd
    refine ⟨?_, fun v H' ⟨eH, c', e', ev⟩ => ⟨r', eH.symm, Ext.refl _, l, ?_⟩⟩
    · show i < (txt x).cps.size
      have := (List.getElem?_eq_some_iff.mp e).1
      simpa [txt] using this
    · have e' : x[i]? = some c' := by simpa [txt] using e'
      rw [e] at e'; cases e'
      rw [ev]
      exact .str [c]
theorem rangeD_get : ∀ (n : Nat) (lo c : Int) (i : Nat) (d : D), (rangeD lo c n)[i]? = some d → i < n ∧ d = .int (lo + (i : Int) * c)
  | 0, lo, c, i, d, h => by simp [rangeD] at h
  | n + 1, lo, c, 0, d, h => by simp [rangeD] at h; exact ⟨by omega, by rw [← h]; simp⟩
  | n + 1, lo, c, i + 1, d, h => by
    obtain ⟨e, f⟩ := rangeD_get n (lo + c) c i d (by simpa [rangeD] using h)
    refine ⟨by omega, ?_⟩
    rw [f]
    congr 1
    have : ((i + 1 : Nat) : Int) * c = (i : Int) * c + c := by rw [Int.natCast_add, Int.add_mul]; simp
    rw [this]; omega
theorem rangeD_length : ∀ (n : Nat) (lo c : Int), (rangeD lo c n).length = n
  | 0, _, _ => rfl
  | n + 1, lo, c => by simp [rangeD, rangeD_length n]
theorem ItOk.rng {r : RS} {lo : Int} {n : Nat} : ItOk G r (rangeD lo 1 n) (Itr lo n) := fun r' S g l => by
  refine ⟨fun i hi => by rw [rangeD_length] at hi; exact hi, fun i d hd => ?_⟩
  obtain ⟨e, rfl⟩ := rangeD_get n lo 1 i d hd
  refine ⟨e, fun v H' ⟨eH, ev⟩ => ⟨r', eH.symm, Ext.refl _, l, ?_⟩⟩
  rw [ev, Int.mul_one]
  exact .int _
theorem ItOk.rng3 {r : RS} {lo c : Int} {n : Nat} : ItOk G r (rangeD lo c n) (Itc lo c n) := fun r' S g l => by
  refine ⟨fun i hi => by rw [rangeD_length] at hi; exact hi, fun i d hd => ?_⟩
  obtain ⟨e, rfl⟩ := rangeD_get n lo c i d hd
  refine ⟨e, fun v H' ⟨eH, ev⟩ => ⟨r', eH.symm, Ext.refl _, l, ?_⟩⟩
  rw [ev]
  exact .int _
theorem zipD_get : ∀ (xs ys : List D) (i : Nat) (d : D), (zipD xs ys)[i]? = some d → ∃ x y, xs[i]? = some x ∧ ys[i]? = some y ∧ d = .tup [x, y]
  | [], ys, i, d, h => by simp [zipD] at h
  | _ :: _, [], i, d, h => by simp [zipD] at h
  | x :: xs, y :: ys, 0, d, h => by simp [zipD] at h; exact ⟨x, y, rfl, rfl, h.symm⟩
  | x :: xs, y :: ys, i + 1, d, h => by
    obtain ⟨u, v, e, f, g⟩ := zipD_get xs ys i d (by simpa [zipD] using h)
    exact ⟨u, v, by simpa using e, by simpa using f, g⟩
theorem zipD_length : ∀ (xs ys : List D), (zipD xs ys).length = min xs.length ys.length
  | [], ys => by simp [zipD]
  | _ :: _, [] => by simp [zipD]
  | x :: xs, y :: ys => by simp [zipD, zipD_length xs ys]
theorem enumD_get : ∀ (xs : List D) (k : Int) (i : Nat) (d : D), (enumD k xs)[i]? = some d → ∃ x, xs[i]? = some x ∧ d = .tup [.int (k + i), x]
  | [], k, i, d, h => by simp [enumD] at h
  | x :: xs, k, 0, d, h => by simp [enumD] at h; exact ⟨x, rfl, by rw [← h]; simp⟩
  | x :: xs, k, i + 1, d, h => by
    obtain ⟨u, e, g⟩ := enumD_get xs (k + 1) i d (by simpa [enumD] using h)
    refine ⟨u, by simpa using e, ?_⟩
    rw [g]
    have : k + 1 + (i : Int) = k + ((i + 1 : Nat) : Int) := by omega
    rw [this]
theorem enumD_length : ∀ (xs : List D) (k : Int), (enumD k xs).length = xs.length
  | [], _ => rfl
  | x :: xs, k => by simp [enumD, enumD_length xs]
theorem ItOk.zip {r : RS} {a b : Addr} {ds es : List D} {vs ws : List V} (h : Rd r.H a (.lst vs)) (z : ¬ r.Z a) (q : Reps G r ds vs) (h' : Rd r.H b (.lst ws)) (z' : ¬ r.Z b) (q' : Reps G r es ws) : ItOk G r (zipD ds es) (Itz G.K a b) := fun r' S g l => by
  have sq : SqL G.K r'.H a vs := .inl (rd_grow g h z).1
  have sq' : SqL G.K r'.H b ws := .inl (rd_grow g h' z').1
  refine ⟨fun i hi => ⟨vs, ws, sq, sq', ?_⟩, fun i d hd => ?_⟩
  · rw [zipD_length] at hi
    rw [← q.length, ← q'.length]
    omega
  · obtain ⟨x, y, ex, ey, rfl⟩ := zipD_get ds es i d hd
    obtain ⟨v, e, rv⟩ := (q.grow g).get ex
    obtain ⟨w, e', rw'⟩ := (q'.grow g).get ey
    refine ⟨⟨vs, ws, v, w, sq, sq', e, e'⟩, fun u H' ⟨T, x2, y2, eu, hT, eH, k1, k2⟩ => ?_⟩
    have z1 := k1 vs sq
    rw [e] at z1; cases z1
    have z2 := k2 ws sq'
    rw [e'] at z2; cases z2
    subst eu eH
    have xx := Ext.put l hT (.tup [v, w])
    exact ⟨r'.put T (.tup [v, w]), rfl, xx, Rl.put l hT _, .tup (.inl ⟨.inl put_at, Rl.noZ l hT⟩) (.cons (rv.ext xx) (.cons (rw'.ext xx) .nil))⟩
theorem ItOk.zipT {r : RS} {a b : Addr} {ds es : List D} {vs ws : List V} (h : Ft G r a vs) (q : Reps G r ds vs) (h' : Ft G r b ws) (q' : Reps G r es ws) : ItOk G r (zipD ds es) (RZ.ItzT G.K a b) := fun r' S g l => by
  have sq : SqT G.K r'.H a vs := (h.grow g).sq
  have sq' : SqT G.K r'.H b ws := (h'.grow g).sq
  refine ⟨fun i hi => ⟨vs, ws, sq, sq', ?_⟩, fun i d hd => ?_⟩
  · rw [zipD_length] at hi
    rw [← q.length, ← q'.length]
    omega
  · obtain ⟨x, y, ex, ey, rfl⟩ := zipD_get ds es i d hd
    obtain ⟨v, e, rv⟩ := (q.grow g).get ex
    obtain ⟨w, e', rw'⟩ := (q'.grow g).get ey
    refine ⟨⟨vs, ws, v, w, sq, sq', e, e'⟩, fun u H' ⟨T, x2, y2, eu, hT, eH, k1, k2⟩ => ?_⟩
    have z1 := k1 vs sq
    rw [e] at z1; cases z1
    have z2 := k2 ws sq'
    rw [e'] at z2; cases z2
    subst eu eH
    have xx := Ext.put l hT (.tup [v, w])
    exact ⟨r'.put T (.tup [v, w]), rfl, xx, Rl.put l hT _, .tup (.inl ⟨.inl put_at, Rl.noZ l hT⟩) (.cons (rv.ext xx) (.cons (rw'.ext xx) .nil))⟩
theorem ItOk.enum {r : RS} {a : Addr} {ds : List D} {vs : List V} (h : Rd r.H a (.lst vs)) (z : ¬ r.Z a) (q : Reps G r ds vs) : ItOk G r (enumD 0 ds) (Ite G.K a) := fun r' S g l => by
  have sq : SqL G.K r'.H a vs := .inl (rd_grow g h z).1
  refine ⟨fun i hi => ⟨vs, sq, ?_⟩, fun i d hd => ?_⟩
  · rw [enumD_length] at hi
    rw [← q.length]; exact hi
  · obtain ⟨x, ex, rfl⟩ := enumD_get ds 0 i d hd
    obtain ⟨v, e, rv⟩ := (q.grow g).get ex
    refine ⟨⟨vs, v, sq, e⟩, fun u H' ⟨T, x2, eu, hT, eH, k1⟩ => ?_⟩
    have z1 := k1 vs sq
    rw [e] at z1; cases z1
    subst eu eH
    have xx := Ext.put l hT (.tup [.int (i : Nat), v])
    refine ⟨r'.put T (.tup [.int (i : Nat), v]), rfl, xx, Rl.put l hT _, .tup (.inl ⟨.inl put_at, Rl.noZ l hT⟩) (.cons ?_ (.cons (rv.ext xx) .nil))⟩
    rw [Int.zero_add]
    exact .int _
theorem ItOk.ez {r : RS} {a b : Addr} {ds es : List D} {vs ws : List V} (h : Ft G r a vs) (q : Reps G r ds vs) (h' : Ft G r b ws) (q' : Reps G r es ws) : ItOk G r (enumD 0 (zipD ds es)) (LX.ItEz G.K a b) := fun r' S g l => by
  have sq : SqT G.K r'.H a vs := (h.grow g).sq
  have sq' : SqT G.K r'.H b ws := (h'.grow g).sq
  refine ⟨fun i hi => ⟨vs, ws, sq, sq', ?_⟩, fun i d hd => ?_⟩
  · rw [enumD_length, zipD_length] at hi
    rw [← q.length, ← q'.length]
    omega
  · obtain ⟨p, ep, rfl⟩ := enumD_get _ 0 i d hd
    obtain ⟨x, y, ex, ey, rfl⟩ := zipD_get ds es i p ep
    obtain ⟨v, e, rv⟩ := (q.grow g).get ex
    obtain ⟨w, e', rw'⟩ := (q'.grow g).get ey
    refine ⟨⟨vs, ws, v, w, sq, sq', e, e'⟩, fun u H' ⟨P, T, x2, y2, eu, hP, hT, nPT, eH, k1, k2⟩ => ?_⟩
    have z1 := k1 vs sq
    rw [e] at z1; cases z1
    have z2 := k2 ws sq'
    rw [e'] at z2; cases z2
    subst eu eH
    have x1 := Ext.put l hP (.tup [v, w])
    have l1 := Rl.put l hP (.tup [v, w])
    have hT1 : (r'.put P (.tup [v, w])).H T = none := by
      show upd r'.H P _ T = none
      rw [upd_ne (Ne.symm nPT)]; exact hT
    have x2 := Ext.put l1 hT1 (.tup [.int (i : Nat), .ref P])
    have rp : Rep G (r'.put P (.tup [v, w])) (.tup [x, y]) (.ref P) := .tup (.inl ⟨.inl put_at, Rl.noZ l hP⟩) (.cons (rv.ext x1) (.cons (rw'.ext x1) .nil))
    refine ⟨(r'.put P (.tup [v, w])).put T (.tup [.int (i : Nat), .ref P]), rfl, x1.trans x2, Rl.put l1 hT1 _, .tup (.inl ⟨.inl put_at, Rl.noZ l1 hT1⟩) (.cons ?_ (.cons (rp.ext x2) .nil))⟩
    rw [Int.zero_add]
    exact .int _
theorem ItOk.enumT {r : RS} {a : Addr} {ds : List D} {vs : List V} (h : Ft G r a vs) (q : Reps G r ds vs) : ItOk G r (enumD 0 ds) (LX.IteT G.K a) := fun r' S g l => by
  have sq : SqT G.K r'.H a vs := (h.grow g).sq
  refine ⟨fun i hi => ⟨vs, sq, ?_⟩, fun i d hd => ?_⟩
  · rw [enumD_length] at hi
    rw [← q.length]; exact hi
  · obtain ⟨x, ex, rfl⟩ := enumD_get ds 0 i d hd
    obtain ⟨v, e, rv⟩ := (q.grow g).get ex
    refine ⟨⟨vs, v, sq, e⟩, fun u H' ⟨T, x2, eu, hT, eH, k1⟩ => ?_⟩
    have z1 := k1 vs sq
    rw [e] at z1; cases z1
    subst eu eH
    have xx := Ext.put l hT (.tup [.int (i : Nat), v])
    refine ⟨r'.put T (.tup [.int (i : Nat), v]), rfl, xx, Rl.put l hT _, .tup (.inl ⟨.inl put_at, Rl.noZ l hT⟩) (.cons ?_ (.cons (rv.ext xx) .nil))⟩
    rw [Int.zero_add]
    exact .int _
/-! the forms -/
variable {tg : Expr}
/-- any of three readings -/
theorem PI.or {e : Expr} {t t' : TI} (h : PI X tg e t) (h' : PI X tg e t') : PI X tg e (fun σ H R => t σ H R ∨ t' σ H R) :=
  ⟨fun pins s σ H R I z => z.elim (h.run pins s σ H R I) (h'.run pins s σ H R I)⟩
theorem n_seq (hK : X.K = G.K) (ha : PE X a (tD G W fa)) : PI X tg a (tI G W (fun σ S => (fa σ S).bind fun x S => oItems (walk x S) S)) := by
  refine PI.mono (PI.or (pi_tup ha) (PI.or (pi_list ha) (pi_str ha))) fun σV H R ⟨σ, S, r, e, l, s, p⟩ => ?_
  rw [hK]
  dsimp only at p
  cases h : fa σ S with
  | bad => rw [h] at p; exact False.elim p
  | exc x S1 => rw [h] at p; exact .inl ⟨σ, S, r, e, l, s, by rw [h]; exact p⟩
  | ok d S1 =>
    rw [h] at p
    cases d with
    | tup ds =>
      refine .inl ⟨σ, S, r, e, l, s, ?_⟩
      rw [h]
      intro v r' x l' q
      cases q with
      | tup f q => exact ⟨_, rfl, ⟨_, f.sq⟩, p _ r' x l' (ItOk.tup f q)⟩
    | lst ds =>
      refine .inr (.inl ⟨σ, S, r, e, l, s, ?_⟩)
      rw [h]
      intro v r' x l' q
      cases q with
      | lst f z q => exact ⟨_, rfl, ⟨_, .inl f⟩, p _ r' x l' (ItOk.lst f z q)⟩
    | str y =>
      refine .inr (.inr ⟨σ, S, r, e, l, s, ?_⟩)
      rw [h]
      intro v r' x l' q
      cases q with
      | str z => exact ⟨_, rfl, p _ r' x l' ItOk.str⟩
    | _ => exact False.elim p
theorem small_of {i : Int} (h : small62 i = true) : -(2 ^ 62) ≤ i ∧ i < 2 ^ 62 := by
  unfold small62 at h
  rw [Bool.and_eq_true] at h
  exact ⟨of_decide_eq_true h.1, of_decide_eq_true h.2⟩
theorem n_rng1 {p pos : Pos} (hg : Gl X "range") (hm : X.mg "range" = none) (ha : PE X a (tD G W fa)) (hn : noStar a = true) : PI X tg (.Call (.Name "range" p) [a] [] pos) (tI G W (fun σ S => (fa σ S).bind fun x S => rng2 (.int 0) x S)) := by
  refine PI.mono (pi_range1 hg hm (pa_cons ha pa_nil (starEach_cons hn)) (starEach_cons hn)) fun σV H R h => ?_
  refine tX.step (rel := Rep G) h fun vx σ x S r l s hx p => ?_
  cases hx with
  | int i =>
    have p : Post G (ItOk G) W σV r (if (small62 0 && small62 i) = true then .ok (rangeD 0 1 (i - 0).toNat) S else .bad) R := p
    split at p
    · rename_i hs
      rw [Bool.and_eq_true] at hs
      refine ⟨_, rfl, (small_of hs.2).1, (small_of hs.2).2, ?_⟩
      have q := Post.here p l (b := Itr 0 _) ItOk.rng
      rw [Int.sub_zero] at q
      exact q
    · exact False.elim p
  | _ => exact False.elim p
theorem n_rng2 {p pos : Pos} (hg : Gl X "range") (hm : X.mg "range" = none) (ha : PE X a (tD G W fa)) (hb : PE X b (tD G W fb)) (hn : noStar a = true) (hn' : noStar b = true) : PI X tg (.Call (.Name "range" p) [a, b] [] pos) (tI G W (fun σ S => (fa σ S).bind fun x S => (fb σ S).bind fun y S => rng2 x y S)) := by
  refine PI.mono (pi_range2 hg hm (pa_cons ha (pa_cons hb pa_nil (starEach_cons hn')) (starEach_cons hn)) (by rw [starEach_cons hn, starEach_cons hn']; rfl) (starEach_cons hn')) fun σV H R h => ?_
  refine tX.step (rel := Rep G) h fun vx σ x S r l s hx p => ?_
  refine ⟨σ, S, r, rfl, l, s, (Post.bind (rel := Rep G) p).mono fun vy H1 ⟨y, S1, r1, e1, x1, l1, hy, p1⟩ => ?_⟩
  subst e1
  unfold rng2 at p1
  split at p1
  · cases hx
    cases hy
    split at p1
    · rename_i hs
      rw [Bool.and_eq_true] at hs
      exact ⟨_, _, rfl, ⟨(small_of hs.1).1, (small_of hs.1).2, (small_of hs.2).1, (small_of hs.2).2⟩, Post.here p1 l1 ItOk.rng⟩
    · exact False.elim p1
  · exact False.elim p1
theorem n_rng3 {p pos : Pos} (hg : Gl X "range") (hm : X.mg "range" = none) (ha : PE X a (tD G W fa)) (hb : PE X b (tD G W fb)) (hc : PE X c (tD G W fc)) (hn : noStar a = true) (hn' : noStar b = true) (hn2 : noStar c = true) :
    PI X tg (.Call (.Name "range" p) [a, b, c] [] pos) (tI G W (fun σ S => (fa σ S).bind fun x S => (fb σ S).bind fun y S => (fc σ S).bind fun z S => rng3 x y z S)) := by
  refine PI.mono (pi_range3 hg hm (pa_cons ha (pa_cons hb (pa_cons hc pa_nil (starEach_cons hn2)) (starEach_cons hn')) (starEach_cons hn)) (starEach_cons hn) (any_star (by simp [hn', hn2]))) fun σV H R h => ?_
  refine tX.step (rel := Rep G) h fun vx σ x S r l s hx p => ?_
  refine ⟨σ, S, r, rfl, l, s, (Post.bind (rel := Rep G) p).mono fun vy H1 ⟨y, S1, r1, e1, x1, l1, hy, p1⟩ => ?_⟩
  subst e1
  refine ⟨σ, S1, r1, rfl, l1, s.ext x1, (Post.bind (rel := Rep G) p1).mono fun vz H1 ⟨z, S2, r2, e2, x2, l2, hz, p2⟩ => ?_⟩
  subst e2
  unfold rng3 at p2
  split at p2
  · cases hx
    cases hy
    cases hz
    split at p2
    · rename_i i j k hs
      simp only [Bool.and_eq_true, decide_eq_true_eq] at hs
      exact ⟨_, _, _, _, rfl, ⟨hs.1.1.1, hs.1.1.2, hs.1.2, (Int.toNat_of_nonneg hs.2).symm⟩, Post.here p2 l2 ItOk.rng3⟩
    · exact False.elim p2
  · exact False.elim p2
theorem n_zip (hK : X.K = G.K) {elts : List Expr} {kk : Nat} {tpos p pos : Pos} (hg : Gl X "zip") (hm : X.mg "zip" = none) (ha : PE X a (tD G W fa)) (hb : PE X b (tD G W fb)) (hn : noStar a = true) (hn' : noStar b = true) :
    PI X (.Tuple elts kk tpos) (.Call (.Name "zip" p) [a, b] [] pos) (tI G W (fun σ S => (fa σ S).bind fun x S => (fb σ S).bind fun y S => oItems (zipOf x y) S)) := by
  refine PI.mono (RZ.pi_zipA hg hm (pa_cons ha (pa_cons hb pa_nil (starEach_cons hn')) (starEach_cons hn)) (starEach_cons hn) (by rw [starEach_cons hn']; rfl)) fun σV H R h => ?_
  refine tX.step (rel := Rep G) h fun vx σ x S r l s hx p => ?_
  refine ⟨σ, S, r, rfl, l, s, (Post.bind (rel := Rep G) p).mono fun vy H1 ⟨y, S1, r1, e1, x1, l1, hy, p1⟩ => ?_⟩
  subst e1
  rw [hK]
  unfold zipOf at p1
  split at p1
  · cases hx.ext x1 with
    | lst f z q =>
      cases hy with
      | lst f' z' q' => exact ⟨_, _, _, _, rfl, .inl ⟨.inl f, .inl f', Post.here p1 l1 (ItOk.zip f z q f' z' q')⟩⟩
  · cases hx.ext x1 with
    | tup f q =>
      cases hy with
      | tup f' q' => exact ⟨_, _, _, _, rfl, .inr ⟨f.sq, f'.sq, Post.here p1 l1 (ItOk.zipT f q f' q')⟩⟩
  · exact False.elim p1
theorem n_enum (hK : X.K = G.K) {elts : List Expr} {kk : Nat} {tpos p pos : Pos} (hg : Gl X "enumerate") (hm : X.mg "enumerate" = none) (ha : PE X a (tD G W fa)) (hn : noStar a = true) :
    PI X (.Tuple elts kk tpos) (.Call (.Name "enumerate" p) [a] [] pos) (tI G W (fun σ S => (fa σ S).bind fun x S => oItems ((walkS x).map (enumD 0)) S)) := by
  refine PI.mono (LX.pi_enumA hg hm (pa_cons ha pa_nil (starEach_cons hn)) (starEach_cons hn)) fun σV H R h => ?_
  refine tX.step (rel := Rep G) h fun vx σ x S r l s hx p => ?_
  rw [hK]
  unfold walkS at p
  split at p
  · cases hx with
    | lst f z q => exact ⟨_, _, rfl, .inl ⟨.inl f, Post.here p l (ItOk.enum f z q)⟩⟩
  · cases hx with
    | tup f q => exact ⟨_, _, rfl, .inr ⟨f.sq, Post.here p l (ItOk.enumT f q)⟩⟩
  · exact False.elim p
theorem n_enumz (hK : X.K = G.K) {elts : List Expr} {kk : Nat} {tpos p pos p2 pos2 : Pos} (hg : Gl X "enumerate") (hm : X.mg "enumerate" = none) (hg2 : Gl X "zip") (hm2 : X.mg "zip" = none) (ha : PE X a (tD G W fa)) (hb : PE X b (tD G W fb)) (hn : noStar a = true) (hn' : noStar b = true) :
    PI X (.Tuple elts kk tpos) (.Call (.Name "enumerate" p) [.Call (.Name "zip" p2) [a, b] [] pos2] [] pos) (tI G W (fun σ S => (fa σ S).bind fun x S => (fb σ S).bind fun y S => oItems ((zipT x y).map (enumD 0)) S)) := by
  refine PI.mono (LX.pi_ez hg hm hg2 hm2 (pa_cons ha (pa_cons hb pa_nil (starEach_cons hn')) (starEach_cons hn)) (starEach_cons hn) (by rw [starEach_cons hn']; rfl)) fun σV H R h => ?_
  refine tX.step (rel := Rep G) h fun vx σ x S r l s hx p => ?_
  refine ⟨σ, S, r, rfl, l, s, (Post.bind (rel := Rep G) p).mono fun vy H1 ⟨y, S1, r1, e1, x1, l1, hy, p1⟩ => ?_⟩
  subst e1
  rw [hK]
  unfold zipT at p1
  split at p1
  · cases hx.ext x1 with
    | tup f q =>
      cases hy with
      | tup f' q' => exact ⟨_, _, _, _, rfl, f.sq, f'.sq, Post.here p1 l1 (ItOk.ez f q f' q')⟩
  · exact False.elim p1

/-! ### targets of loops: names and tuples of names -/
/-- which slots a target sets -/
def tgSlots : Tg → List Nat
  | .nm i => [i]
  | .tp ts => tgsSlots ts
  | .sub _ _ => []
  | .att _ _ => []
where tgsSlots : List Tg → List Nat
  | [] => []
  | t :: ts => tgSlots t ++ tgsSlots ts
abbrev tgsSlots := tgSlots.tgsSlots
/-- only these slots differ -/
def Diff (is : List Nat) (σ σ' : L2.St) : Prop := σ'.length = σ.length ∧ ∀ j, j ∉ is → σ'[j]? = σ[j]?
theorem Diff.refl (σ : L2.St) : Diff [] σ σ := ⟨rfl, fun _ _ => rfl⟩
theorem Diff.trans {is js : List Nat} {σ σ' σ'' : L2.St} (h : Diff is σ σ') (h' : Diff js σ' σ'') : Diff (is ++ js) σ σ'' :=
  ⟨h'.1.trans h.1, fun j hj => by
    rw [List.mem_append, not_or] at hj
    rw [h'.2 j hj.2, h.2 j hj.1]⟩
theorem wipe_in {σ : L2.St} {i : Nat} : ∀ {vs : List Nat}, i ∈ vs → i < σ.length → (wipe σ vs)[i]? = some none
  | v :: vs, h, hl => by
    unfold wipe
    by_cases hi : v = i
    · subst hi
      rw [List.getElem?_set_self (by rw [wipe_length]; exact hl)]
    · rw [List.getElem?_set_ne hi]
      exact wipe_in (by rcases List.mem_cons.mp h with q | q; exact absurd q.symm hi; exact q) hl
theorem wipe_ge {σ : L2.St} {i : Nat} {vs : List Nat} (h : σ.length ≤ i) : (wipe σ vs)[i]? = none := by
  rw [List.getElem?_eq_none]; rw [wipe_length]; exact h
theorem Diff.wipe {is : List Nat} {σ σ' : L2.St} (h : Diff is σ σ') {vs : List Nat} (hi : ∀ i ∈ is, i ∈ vs) : wipe σ' vs = wipe σ vs := by
  apply List.ext_getElem?
  intro j
  by_cases hl : j < σ.length
  · by_cases hv : j ∈ vs
    · rw [wipe_in hv hl, wipe_in hv (by rw [h.1]; exact hl)]
    · rw [wipe_out hv, wipe_out hv]
      exact h.2 j fun q => hv (hi j q)
  · rw [wipe_ge (σ := σ') (by rw [h.1]; omega), wipe_ge (σ := σ) (by omega)]
theorem wipe_wipe (σ : L2.St) (vs : List Nat) : wipe (wipe σ vs) vs = wipe σ vs := by
  apply List.ext_getElem?
  intro j
  by_cases hl : j < σ.length
  · by_cases hv : j ∈ vs
    · rw [wipe_in hv (by rw [wipe_length]; exact hl), wipe_in hv hl]
    · rw [wipe_out hv]
  · rw [wipe_ge (by rw [wipe_length]; omega), wipe_ge (by omega)]
/-- an assignment's reading -/
def gD (G : Glob) (is : List Nat) (f : D → Env → Option Env) : TG := fun v σV H Q => ∃ d σ S r σ', r.H = H ∧ Rl G r S ∧ RSt G r σ σV ∧ Rep G r d v ∧ f d σ = some σ' ∧ ∀ σV', RSt G r σ' σV' → Diff is σV σV' → Q σV' H
def gDs (G : Glob) (is : List Nat) (f : List D → Env → Option Env) : TGs := fun vs σV H Q => ∃ ds σ S r σ', r.H = H ∧ Rl G r S ∧ RSt G r σ σV ∧ Reps G r ds vs ∧ f ds σ = some σ' ∧ ∀ σV', RSt G r σ' σV' → Diff is σV σV' → Q σV' H
theorem PG.mono {tg : Expr} {t t' : TG} (h : PG X tg t) (q : ∀ v σ H Q, t' v σ H Q → t v σ H Q) : PG X tg t' := ⟨fun pins s σ H v u Q I r z => h.run pins s σ H v u Q I r (q v σ H Q z)⟩
theorem PGs.mono {tg : List Expr} {t t' : TGs} (h : PGs X tg t) (q : ∀ v σ H Q, t' v σ H Q → t v σ H Q) : PGs X tg t' := ⟨fun pins s σ H v u Q I r z => h.run pins s σ H v u Q I r (q v σ H Q z)⟩
theorem gd_name {i : Nat} {x : Str} {pos : Pos} (hnl : i ∉ G.F.ls) (hnc : i ∉ G.cs) (hN : X.N.Nodup) (hi : X.N[i]? = some x) (hx : Loc X.env.scope x) (hf : X.fn x = true ∨ X.env.scope.names.lookup x = some .local) : PG X (.Name x pos) (gD G (tgSlots (.nm i)) (asg (.nm i))) := by
  refine PG.mono (pg_name hN hi hx hf) fun v σV H Q ⟨d, σ, S, r, σ', e, l, s, hd, ha, q⟩ => ?_
  subst e
  unfold asg at ha
  cases ha
  exact q _ (s.set hd i hnl hnc) ⟨by simp, fun j hj => by rw [List.getElem?_set_ne]; intro h; exact hj (by subst h; simp [tgSlots])⟩
theorem gd_nil : PGs X [] (gDs G (tgsSlots []) (asgs [])) := by
  refine PGs.mono pgs_nil fun v σV H Q ⟨d, σ, S, r, σ', e, l, s, hd, ha, q⟩ => ?_
  subst e
  cases d with
  | nil =>
    unfold asgs at ha
    cases ha
    cases hd
    exact ⟨rfl, q _ s (Diff.refl _)⟩
  | cons a b => unfold asgs at ha; cases ha
theorem gd_cons {t : Tg} {ts : List Tg} {e : Expr} {es : List Expr} (h1 : PG X e (gD G (tgSlots t) (asg t))) (h2 : PGs X es (gDs G (tgsSlots ts) (asgs ts)))
    (hs : (assignEach (e :: es) X.env).map (·.2) = assign e X.env :: (assignEach es X.env).map (·.2)) : PGs X (e :: es) (gDs G (tgsSlots (t :: ts)) (asgs (t :: ts))) := by
  refine PGs.mono (pgs_cons h1 h2 hs) fun v σV H Q ⟨d, σ, S, r, σ', e, l, s, hd, ha, q⟩ => ?_
  subst e
  cases d with
  | nil => unfold asgs at ha; cases ha
  | cons a b =>
    unfold asgs at ha
    cases hq : asg t a σ with
    | none => rw [hq] at ha; cases ha
    | some σ1 =>
      rw [hq] at ha
      cases hd with
      | cons h hs => exact ⟨_, _, rfl, a, σ, S, r, σ1, rfl, l, s, h, hq, fun σV1 s1 d1 => ⟨b, σ1, S, r, σ', rfl, l, s1, hs, ha, fun σV2 s2 d2 => q σV2 s2 (d1.trans d2)⟩⟩
theorem gd_tup (hK : X.K = G.K) {ts : List Tg} {es : List Expr} {k : Nat} {pos : Pos} (hc : X.calm = true) (h : PGs X es (gDs G (tgsSlots ts) (asgs ts))) (hl : ts.length = es.length)
    (hn : (assignEach es X.env).length = es.length) (hst : (assignEach es X.env).findIdx? (·.1) = none) : PG X (.Tuple es k pos) (gD G (tgSlots (.tp ts)) (asg (.tp ts))) := by
  refine PG.mono (pg_tup hc h hn hst) fun v σV H Q ⟨d, σ, S, r, σ', e, l, s, hd, ha, q⟩ => ?_
  subst e
  cases d with
  | tup ds =>
    have ha : asgs ts ds σ = some σ' := by unfold asg at ha; exact ha
    cases hd with
    | tup f hs =>
      refine ⟨_, _, rfl, by rw [hK]; exact f.sq, ?_, ds, σ, S, r, σ', rfl, l, s, hs, ha, q⟩
      rw [← hs.length, ← hl]
      have : ∀ (ts : List Tg) (ds : List D) (σ σ' : Env), asgs ts ds σ = some σ' → ds.length = ts.length := by
        intro ts
        induction ts with
        | nil => intro ds σ σ' h; cases ds with
          | nil => rfl
          | cons a b => unfold asgs at h; cases h
        | cons t ts ih => intro ds σ σ' h; cases ds with
          | nil => unfold asgs at h; cases h
          | cons a b =>
            unfold asgs at h
            cases hq : asg t a σ with
            | none => rw [hq] at h; cases h
            | some σ1 => rw [hq] at h; simp [ih b σ1 σ' h]
      exact this _ _ _ _ ha
  | _ => unfold asg at ha; cases ha
end
end DL
end
section
set_option Elab.async false
set_option autoImplicit false
set_option linter.all false
set_option maxRecDepth 100000
set_option maxHeartbeats 2000000
/-! DLj: list comprehensions. -/
namespace DL
open PySem PySem.Spec PyProof.Rows L2 LamX LX
section
variable {G : Glob}
/-- a new list at La that is still being made -/
def RS.mk1 (r : RS) (La : Addr) (vs : List V) : RS := { r with H := upd r.H La (.lst vs), Z := fun a => r.Z a ∨ a = La }
/-- .. changed -/
def RS.mkW (r : RS) (La : Addr) (vs : List V) : RS := { r with H := upd r.H La (.lst vs) }
/-- .. settled -/
def RS.mkE (r : RS) (La : Addr) : RS := { r with Z := fun a => r.Z a ∧ a ≠ La }
/-- La is a list that is being made since r1 -/
structure Mk (G : Glob) (r1 r : RS) (S : Store) (La : Addr) (acc : List D) (vs : List V) : Prop where
  new : r1.H La = none
  ext : Ext r1 r
  rl : Rl G r S
  at_ : r.H La = some (.lst vs)
  z : r.Z La
  nm : La ∉ r.mu
  rep : Reps G r acc vs
theorem Mk.start {r1 : RS} {S : Store} {La : Addr} (l : Rl G r1 S) (h : r1.H La = none) : Mk G r1 (r1.mk1 La []) S La [] [] := by
  have nm : La ∉ r1.mu := fun m => l.zH La (l.inZ La m) h
  have up : ∀ {a : Addr} {u : HO}, r1.H a = some u → (r1.mk1 La []).H a = some u := fun {a u} e => by
    show upd r1.H La _ a = some u
    rw [upd_ne (ne_of_none e h)]; exact e
  have ext : Ext r1 (r1.mk1 La []) := by
    refine ⟨⟨fun _ _ q => q, fun _ _ q => q, fun a u e z _ => ⟨up e, fun q => ?_⟩, fun _ _ q => q⟩, fun a u e z n _ => ⟨up e, .inl z, n⟩⟩
    rcases q with q | q
    · exact z q
    · exact ne_of_none e h q
  refine ⟨h, ext, ⟨l.len, l.klen, l.nd, fun a m => .inl (l.inZ a m), fun a z => ?_, fun n xs e => ?_, tabs_new l.tabs h, fun p hp => ⟨.inl (l.tabN p hp).1, (l.tabN p hp).2⟩, fun a z => ?_⟩, upd_same, .inr rfl, nm, .nil⟩
  · show upd r1.H La _ a ≠ none
    by_cases ha : a = La
    · rw [ha, upd_same]; intro q; cases q
    · rw [upd_ne ha]
      rcases z with z | z
      · exact l.zH a z
      · exact absurd z ha
  · obtain ⟨a, k, h1, h2, h3⟩ := l.obj n xs e
    exact ⟨a, k, h1, h2, h3.grow ext.toGrow fun u hu => up hu⟩
  · by_cases ha : a = La
    · refine .inl ⟨.lst [], ?_, nx_lst⟩
      show upd r1.H La _ a = _
      rw [ha, upd_same]
    · rcases z with z | z
      · exact (l.zT a z).imp (fun ⟨u, w, t⟩ => ⟨u, up w, t⟩) id
      · exact absurd z ha
theorem Mk.step {r1 r r' : RS} {S S' : Store} {La : Addr} {acc : List D} {vs : List V} (m : Mk G r1 r S La acc vs) (e : Ext r r') (l : Rl G r' S') : Mk G r1 r' S' La acc vs :=
  let ⟨b1, b2, b3⟩ := e.bld La _ m.at_ m.z m.nm nt_lst
  ⟨m.new, m.ext.trans e, l, b1, b2, b3, m.rep.ext e⟩
theorem Mk.app {r1 r : RS} {S : Store} {La : Addr} {acc : List D} {vs : List V} (m : Mk G r1 r S La acc vs) {d : D} {v : V} (h : Rep G r d v) : Mk G r1 (r.mkW La (vs ++ [v])) S La (acc ++ [d]) (vs ++ [v]) := by
  have gr : Grow r (r.mkW La (vs ++ [v])) := ⟨fun _ _ q => q, fun _ _ q => q, fun a u e z _ => ⟨by show upd r.H La _ a = some u; rw [upd_ne (fun q => z (by rw [q]; exact m.z))]; exact e, z⟩, fun _ _ q => q⟩
  have nT : ∀ p ∈ G.T, p.1 ≠ La := fun p hp w => by
    obtain ⟨ps, h1, _⟩ := m.rl.tabs p hp
    rw [w, m.at_] at h1
    cases h1
  refine ⟨m.new, ⟨⟨m.ext.mu, m.ext.kd, fun a u e z t => ⟨?_, (m.ext.frz a u e z t).2⟩, m.ext.nu⟩, fun a u e z n t => ?_⟩, ⟨m.rl.len, m.rl.klen, m.rl.nd, m.rl.inZ, fun a z => ?_, fun n xs e => ?_, tabs_wr m.rl.tabs m.at_ nT, m.rl.tabN, fun a z => ?_⟩, upd_same, m.z, m.nm, (m.rep.grow gr).append (.cons (h.grow gr) .nil)⟩
  · show upd r.H La _ a = some u
    rw [upd_ne (ne_of_none e m.new)]; exact (m.ext.frz a u e z t).1
  · obtain ⟨b1, b2, b3⟩ := m.ext.bld a u e z n t
    exact ⟨by show upd r.H La _ a = some u; rw [upd_ne (ne_of_none e m.new)]; exact b1, b2, b3⟩
  · show upd r.H La _ a ≠ none
    by_cases ha : a = La
    · rw [ha, upd_same]; intro q; cases q
    · rw [upd_ne ha]; exact m.rl.zH a z
  · obtain ⟨a, k, h1, h2, h3⟩ := m.rl.obj n xs e
    refine ⟨a, k, h1, h2, h3.grow gr fun u hu => ?_⟩
    show upd r.H La _ a = _
    rw [upd_ne (fun q => m.nm (by rw [← q]; exact List.mem_of_getElem? h1))]; exact hu
  · by_cases ha : a = La
    · refine .inl ⟨.lst (vs ++ [v]), ?_, nx_lst⟩
      show upd r.H La _ a = _
      rw [ha, upd_same]
    · refine (m.rl.zT a z).imp (fun ⟨u, w, t⟩ => ⟨u, ?_, t⟩) id
      show upd r.H La _ a = _
      rw [upd_ne ha]
      exact w
theorem Mk.end_ {r1 r : RS} {S : Store} {La : Addr} {acc : List D} {vs : List V} (m : Mk G r1 r S La acc vs) : Ext r1 (r.mkE La) ∧ Rl G (r.mkE La) S ∧ Rep G (r.mkE La) (.lst acc) (.ref La) := by
  have gr : Grow r (r.mkE La) := ⟨fun _ _ q => q, fun _ _ q => q, fun a u e z _ => ⟨e, fun q => z q.1⟩, fun _ _ q => q⟩
  have nT : ∀ p ∈ G.T, p.1 ≠ La := fun p hp w => by
    obtain ⟨ps, h1, _⟩ := m.rl.tabs p hp
    rw [w, m.at_] at h1
    cases h1
  refine ⟨⟨⟨m.ext.mu, m.ext.kd, fun a u e z t => ⟨(m.ext.frz a u e z t).1, fun q => (m.ext.frz a u e z t).2 q.1⟩, m.ext.nu⟩, fun a u e z n t => ?_⟩, ⟨m.rl.len, m.rl.klen, m.rl.nd, fun a q => ⟨m.rl.inZ a q, fun h => m.nm (by rw [← h]; exact q)⟩, fun a z => m.rl.zH a z.1, fun n xs e => ?_, m.rl.tabs, fun p hp => ⟨⟨(m.rl.tabN p hp).1, nT p hp⟩, (m.rl.tabN p hp).2⟩, fun a z => m.rl.zT a z.1⟩, .lst (.inl m.at_) (fun q => q.2 rfl) (m.rep.grow gr)⟩
  · obtain ⟨b1, b2, b3⟩ := m.ext.bld a u e z n t
    exact ⟨b1, ⟨b2, ne_of_none e m.new⟩, b3⟩
  · obtain ⟨a, k, h1, h2, h3⟩ := m.rl.obj n xs e
    exact ⟨a, k, h1, h2, h3.grow gr fun u hu => hu⟩
end
section
variable {X : Cx} {G : Glob} {W : WX}
abbrev W0 : WX := fun _ _ _ _ => False
/-- the reading of a comprehension -/
theorem lc_ok {fi : Env → Store → Out (List D)} {fc : Env → Store → Out Bool} {fe : Env → Store → Out D} {tg : Tg} {own : List Nat} (ho : ∀ i ∈ tgSlots tg, i ∈ own) (hc : ∀ i ∈ own, i ∉ G.cs) {σV : L2.St} {H : Hp} {Q : VK}
    (h : tD G W (fun σ S => (fi σ S).bind fun ds S => compGo tg fc fe (wipeD σ own) ds [] S) σV H Q) : tLc (tI G W fi) (gD G (tgSlots tg) (asg tg)) (tT G W0 fc) (tD G W0 fe) own σV H Q := by
  refine tX.step (rel := ItOk G) h fun J σ ds S r l s hJ p => ?_
  intro La hD
  have sw : RSt G r (wipeD σ own) (wipe σV own) := s.wipe own hc
  refine ⟨fun i m H => m = ds.length - i ∧ i ≤ ds.length ∧ ∃ r' S' acc vs, r'.H = H ∧ Mk G r r' S' La acc vs ∧ Post G (Rep G) W σV r (compGo tg fc fe (wipeD σ own) (ds.drop i) acc.reverse S') Q, ⟨ds.length, by simp, Nat.zero_le _, r.mk1 La [], S, [], [], rfl, Mk.start l hD, p⟩, ?_⟩
  rintro i m H ⟨rfl, hi, r', S', acc, vs, rfl, mk, p⟩
  obtain ⟨st, go⟩ := hJ r' S' mk.ext.toGrow mk.rl
  by_cases hlt : i < ds.length
  · right
    have ed : ds[i]? = some ds[i] := List.getElem?_eq_getElem hlt
    obtain ⟨g1, g2⟩ := go i _ ed
    rw [List.drop_eq_getElem_cons hlt] at p
    unfold compGo at p
    refine ⟨g1, fun H' => (∃ r' S' acc vs, r'.H = H' ∧ Mk G r r' S' La acc vs ∧ Post G (Rep G) W σV r (compGo tg fc fe (wipeD σ own) (ds.drop (i + 1)) acc.reverse S') Q), fun H' q => ⟨ds.length - (i + 1), by omega, rfl, hlt, q⟩, fun x H' y => ?_⟩
    obtain ⟨r2, rfl, x2, l2, h2⟩ := g2 x H' y
    have mk2 := mk.step x2 l2
    split at p
    · exact False.elim p
    rename_i σ2 ea
    refine ⟨ds[i], wipeD σ own, S', r2, σ2, rfl, l2, (sw.ext (mk.ext)).ext x2, h2, ea, fun σV2 s2 df => ⟨?_, ?_⟩⟩
    · rw [df.wipe ho, wipe_wipe]
    refine ⟨σ2, S', r2, rfl, l2, s2, ?_⟩
    split at p
    · rename_i S3 et
      rw [et]
      intro b r3 x3 l3 hb
      cases hb
      simp only [if_true]
      refine ⟨σ2, S3, r3, rfl, l3, s2.ext x3, ?_⟩
      split at p
      · rename_i e S4 ee
        rw [ee]
        intro v r4 x4 l4 hv
        have mk4 := (mk2.step x3 l3).step x4 l4
        split at p
        · rename_i hz
          refine ⟨vs, mk4.at_, ?_, r4.mkW La (vs ++ [v]), S4, acc ++ [e], vs ++ [v], rfl, mk4.app hv, ?_⟩
          · have := isOk hz
            rw [List.length_reverse] at this
            rw [← mk.rep.length]; exact this
          · rw [List.reverse_append]; exact p
        · exact False.elim p
      · exact False.elim p
    · rename_i S3 et
      rw [et]
      intro b r3 x3 l3 hb
      cases hb
      simp only [Bool.false_eq_true, if_false]
      exact ⟨r3, S3, acc, vs, rfl, mk2.step x3 l3, p⟩
    · exact False.elim p
  · left
    have e : i = ds.length := by omega
    subst e
    refine ⟨st _ (Nat.le_refl _), ?_⟩
    rw [List.drop_length] at p
    unfold compGo at p
    rw [List.reverse_reverse] at p
    obtain ⟨e1, l1, q1⟩ := mk.end_
    exact p (.ref La) (r'.mkE La) e1 l1 q1
end
end DL
end
section
set_option Elab.async false
set_option autoImplicit false
set_option linter.all false
set_option maxRecDepth 100000
set_option maxHeartbeats 2000000
/-! DLy: what is let go; another frame. -/
namespace DL
open PySem PySem.Spec PyProof.Rows L2 LamX LX
section
variable {G : Glob} {r r' : RS} {S S' : Store} {W : WX}
/-- the changeable things beyond n let go -/
def RS.low (r : RS) (n : Nat) : RS := { r with mu := r.mu.take n, kd := r.kd.take n }
mutual
theorem Rep.low {n : Nat} : ∀ {d : D} {v : V}, refsBelow n d = true → Rep G r d v → Rep G (r.low n) d v
  | _, _, _, .non => .non
  | _, _, _, .bl b => .bl b
  | _, _, _, .int i => .int i
  | _, _, _, .str x => .str x
  | _, _, h, .tup f hs => .tup f (Reps.low (by rw [refsBelow] at h; exact h) hs)
  | _, _, h, .lst f z hs => .lst f z (Reps.low (by rw [refsBelow] at h; exact h) hs)
  | .ref m, _, h, .ref q k => .ref (by
      rw [refsBelow] at h
      have := Nat.le_of_ble_eq_true h
      show (r.mu.take n)[m]? = _
      rw [List.getElem?_take_of_lt (by omega)]; exact q) (by
      rw [refsBelow] at h
      have := Nat.le_of_ble_eq_true h
      show (r.kd.take n)[m]? = _
      rw [List.getElem?_take_of_lt (by omega)]; exact k)
  | .obj c m, _, h, .obj q k => .obj (by
      rw [refsBelow] at h
      have := Nat.le_of_ble_eq_true h
      show (r.mu.take n)[m]? = _
      rw [List.getElem?_take_of_lt (by omega)]; exact q) (by
      rw [refsBelow] at h
      have := Nat.le_of_ble_eq_true h
      show (r.kd.take n)[m]? = _
      rw [List.getElem?_take_of_lt (by omega)]; exact k)
  | _, _, _, .fn h => .fn h
  | _, _, _, .scr h => .scr h
  | _, _, _, .dic h z => .dic h z
  | _, _, _, .exn0 q e => .exn0 q e
  | _, _, h, .exn1 q e hd z hr => .exn1 q e hd z (Rep.low (by rw [refsBelow] at h; exact h) hr)
theorem Reps.low {n : Nat} : ∀ {ds : List D} {vs : List V}, refsBelows n ds = true → Reps G r ds vs → Reps G (r.low n) ds vs
  | _, _, _, .nil => .nil
  | _, _, h, .cons a b => by
    rw [refsBelows, Bool.and_eq_true] at h
    exact .cons (Rep.low h.1 a) (Reps.low h.2 b)
end
theorem ObR.low {n : Nat} {a : Addr} {xs : List D} (h : refsBelows n xs = true) : ∀ {k : Kd}, ObR G r a xs k → ObR G (r.low n) a xs k
  | .lst, ⟨vs, h1, h2⟩ => ⟨vs, h1, h2.low h⟩
  | .ins c, ⟨dx, fs, vs, h1, h2, h3, h4, h5⟩ => ⟨dx, fs, vs, h1, h2, h3, h4.low h, h5⟩
  | .dic, h => h
theorem Ext.low (l : Rl G r S) (e : Ext r r') : Ext r (r'.low S.length) := by
  refine ⟨⟨fun m a q => ?_, fun m a q => ?_, e.frz, e.nu⟩, fun a o q z n t => ?_⟩
  · show (r'.mu.take S.length)[m]? = some a
    have := (List.getElem?_eq_some_iff.mp q).1
    rw [List.getElem?_take_of_lt (by rw [← l.len]; exact this)]
    exact e.mu m a q
  · show (r'.kd.take S.length)[m]? = some a
    have := (List.getElem?_eq_some_iff.mp q).1
    rw [List.getElem?_take_of_lt (by rw [← l.klen]; exact this)]
    exact e.kd m a q
  · obtain ⟨b1, b2, b3⟩ := e.bld a o q z n t
    exact ⟨b1, b2, fun k => b3 (List.mem_of_mem_take k)⟩
theorem Rl.low {n : Nat} (l' : Rl G r' S') (h : ∀ xs ∈ S'.take n, refsBelows n xs = true) : Rl G (r'.low n) (S'.take n) := by
  refine ⟨?_, ?_, ?_, fun a q => l'.inZ a (List.mem_of_mem_take q), l'.zH, fun m xs q => ?_, l'.tabs, fun p hp => ⟨(l'.tabN p hp).1, fun k => (l'.tabN p hp).2 (List.mem_of_mem_take k)⟩, l'.zT⟩
  · show (r'.mu.take n).length = (S'.take n).length
    rw [List.length_take, List.length_take, l'.len]
  · show (r'.kd.take n).length = (S'.take n).length
    rw [List.length_take, List.length_take, l'.klen]
  · exact l'.nd.sublist (List.take_sublist _ _)
  · have hm : m < n := by
      have := (List.getElem?_eq_some_iff.mp q).1
      rw [List.length_take] at this; omega
    have q2 : S'[m]? = some xs := by rw [List.getElem?_take_of_lt hm] at q; exact q
    obtain ⟨a, k, h1, h2, h3⟩ := l'.obj m xs q2
    refine ⟨a, k, ?_, ?_, h3.low (h xs (List.mem_of_getElem? q))⟩
    · show (r'.mu.take n)[m]? = some a
      rw [List.getElem?_take_of_lt hm]; exact h1
    · show (r'.kd.take n)[m]? = some k
      rw [List.getElem?_take_of_lt hm]; exact h2
theorem trim_ok {d : D} (l : Rl G r S) (e : Ext r r') (l' : Rl G r' S') : ∃ r'', r''.H = r'.H ∧ Ext r r'' ∧ Rl G r'' (trim S.length d S') ∧ (∀ v, Rep G r' d v → Rep G r'' d v) ∧ ∀ (x : Exn) cls dd, x.arg = d → RepX G r' x cls dd → RepX G r'' x cls dd := by
  unfold trim
  split
  · exact ⟨r', rfl, e, l', fun _ h => h, fun _ _ _ _ h => h⟩
  split
  · rename_i h
    rw [Bool.and_eq_true, List.all_eq_true] at h
    refine ⟨r'.low S.length, rfl, e.low l, l'.low h.2, fun v q => q.low h.1, fun x cls dd ex q => ?_⟩
    obtain ⟨q1, q2⟩ := q
    refine ⟨q1, ?_⟩
    rcases q2 with q2 | ⟨f, d', v, a, b, c, z, k⟩
    · exact .inl q2
    · exact .inr ⟨f, d', v, a, b, c, z, k.low (by rw [ex]; exact h.1)⟩
  · exact ⟨r', rfl, e, l', fun _ h => h, fun _ _ _ _ h => h⟩
/-! slots forgotten -/
theorem RSt.forget1 {σ : Env} {σV : L2.St} (h : RSt G r σ σV) (i : Nat) : RSt G r (σ.set i none) σV := by
  refine ⟨by simpa using h.len, fun j e hj => ?_, h.cap⟩
  by_cases hij : i = j
  · subst hij
    by_cases hl : i < σ.length
    · rw [List.getElem?_set_self hl] at hj; cases hj
    · rw [List.getElem?_eq_none (by simpa using hl)] at hj; cases hj
  · rw [List.getElem?_set_ne hij] at hj
    exact h.get j e hj
theorem RSt.forget {σ : Env} {σV : L2.St} (h : RSt G r σ σV) : ∀ vs : List Nat, RSt G r (wipeD σ vs) σV
  | [] => h
  | v :: vs => (RSt.forget h vs).forget1 v
theorem lowE_get {n : Nat} : ∀ {σ : Env} {i : Nat} {d : D}, lowE n σ = true → σ[i]? = some (some d) → refsBelow n d = true
  | [], _, _, _, h => by simp at h
  | some x :: σ, 0, d, h, e => by
    have e : some (some x) = some (some d) := e
    cases e
    rw [lowE, Bool.and_eq_true] at h
    exact h.1
  | none :: σ, 0, d, h, e => by
    have e : some none = some (some d) := e
    cases e
  | some x :: σ, i + 1, d, h, e => by
    rw [lowE, Bool.and_eq_true] at h
    exact lowE_get h.2 (by simpa using e)
  | none :: σ, i + 1, d, h, e => by
    rw [lowE] at h
    exact lowE_get h (by simpa using e)
theorem LamC.low {n : Nat} {d : D} {v : V} (h : LamC G r d v) : LamC G (r.low n) d v := h.imp (fun q => q) fun q => q.imp (fun q => q) fun ⟨g, a, b⟩ => ⟨g, a, by
  subst a
  exact Rep.low rfl b⟩
theorem RSt.low {n : Nat} {σ : Env} {σV : L2.St} (h : RSt G r σ σV) (q : lowE n σ = true) : RSt G (r.low n) σ σV :=
  ⟨h.len, fun i d e => let ⟨v, a, b⟩ := h.get i d e; ⟨v, a, b.imp (fun z => ⟨z.1, z.2.low (lowE_get q e)⟩) fun z => ⟨z.1, z.2.low⟩⟩, h.cap⟩
theorem tidy_ok {σ : Env} {σV : L2.St} (l : Rl G r S) (e : Ext r r') (l' : Rl G r' S') (s : RSt G r' σ σV) : ∃ r'', r''.H = r'.H ∧ Ext r r'' ∧ Rl G r'' (tidyS S.length σ S') ∧ RSt G r'' σ σV := by
  unfold tidyS
  split
  · rename_i h
    rw [Bool.and_eq_true, List.all_eq_true] at h
    exact ⟨r'.low S.length, rfl, e.low l, l'.low h.2, s.low h.1⟩
  · exact ⟨r', rfl, e, l', s⟩
end
/-! ### another frame -/
section
variable {G : Glob} {r : RS} {S : Store} {F : Frm}
mutual
theorem Rep.fr : ∀ {d : D} {v : V}, Rep G r d v → Rep (G.fr F) r d v
  | _, _, .non => .non
  | _, _, .bl b => .bl b
  | _, _, .int i => .int i
  | _, _, .str x => .str x
  | _, _, .tup h hs => .tup (show Ft (G.fr F) r _ _ from h) (Reps.fr hs)
  | _, _, .lst h z hs => .lst h z (Reps.fr hs)
  | _, _, .ref h k => .ref h k
  | _, _, .obj h k => .obj h k
  | _, _, .fn h => .fn (show _ < (G.fr F).nF from h)
  | _, _, .scr h => .scr (show Sc (G.fr F) r _ _ from h)
  | _, _, .dic h z => .dic h z
  | _, _, .exn0 h n => .exn0 h n
  | _, _, .exn1 h n hd z hr => .exn1 h n hd z (Rep.fr hr)
theorem Reps.fr : ∀ {ds : List D} {vs : List V}, Reps G r ds vs → Reps (G.fr F) r ds vs
  | _, _, .nil => .nil
  | _, _, .cons h hs => .cons (Rep.fr h) (Reps.fr hs)
end
theorem ObR.fr {a : Addr} {xs : List D} : ∀ {k : Kd}, ObR G r a xs k → ObR (G.fr F) r a xs k
  | .lst, ⟨vs, h1, h2⟩ => ⟨vs, h1, h2.fr⟩
  | .ins c, ⟨dx, fs, vs, h1, h2, h3, h4, h5⟩ => ⟨dx, fs, vs, h1, h2, h3, h4.fr, h5⟩
  | .dic, h => h
theorem Rl.fr (l : Rl G r S) : Rl (G.fr F) r S := ⟨l.len, l.klen, l.nd, l.inZ, l.zH, fun n xs e => let ⟨a, k, h1, h2, h3⟩ := l.obj n xs e; ⟨a, k, h1, h2, h3.fr⟩, l.tabs, l.tabN, l.zT⟩
theorem RepX.fr {x : Exn} {cls : Value} {dd : Option Addr} (h : RepX G r x cls dd) : RepX (G.fr F) r x cls dd := ⟨h.1, h.2.imp id fun ⟨f, d, v, a, b, c, z, q⟩ => ⟨f, d, v, a, b, c, z, q.fr⟩⟩
theorem fr_fr : (G.fr F).fr G.F = G := rfl
theorem Post.fr {W : WX} {σV : L2.St} {o : Out D} {Q : VK} (h : Post G (Rep G) W σV r o Q) : Post (G.fr F) (Rep (G.fr F)) W σV r o Q := by
  cases o with
  | ok a S => exact fun b r' e l z => h b r' e (l.fr (F := G.F)) (z.fr (F := G.F))
  | exc x S => exact fun c d r' e l z => h c d r' e (l.fr (F := G.F)) (z.fr (F := G.F))
  | bad => exact h
theorem spD_fr {cl : Cl} {g : Nat} : spD (G.fr F) cl g = spD G cl g := by
  funext vs H Q E
  refine propext ⟨fun ⟨ds, S, r, a, b, c, d⟩ => ⟨ds, S, r, a, b.fr (F := G.F), c.fr (F := G.F), d.fr (F := G.F)⟩, fun ⟨ds, S, r, a, b, c, d⟩ => ⟨ds, S, r, a, b.fr, c.fr, d.fr⟩⟩
end
end DL
end
section
set_option Elab.async false
set_option autoImplicit false
set_option linter.all false
set_option maxRecDepth 100000
set_option maxHeartbeats 2000000
/-! DLr: repr. -/
namespace DL
open PySem PySem.Spec PyProof.Rows L2 LamX LX
theorem printable : (List.range 95).all (fun i => Unicode.isPrintable (32 + i)) = true := by decide +kernel
theorem char_simple {c : Nat} (h : (Nat.ble 32 c && Nat.ble c 126 && !Nat.beq c 39 && !Nat.beq c 92) = true) : Builtin.Str.reprChar 39 c = [c] ∧ c ≠ 39 := by
  simp only [Bool.and_eq_true, Bool.not_eq_true'] at h
  obtain ⟨⟨⟨h1, h2⟩, h3⟩, h4⟩ := h
  have a1 := Nat.le_of_ble_eq_true h1
  have a2 := Nat.le_of_ble_eq_true h2
  have a3 : c ≠ 39 := fun e => by rw [e] at h3; cases h3
  have a4 : c ≠ 92 := fun e => by rw [e] at h4; cases h4
  have p : Unicode.isPrintable c = true := by
    have := List.all_eq_true.mp printable (c - 32) (List.mem_range.mpr (by omega))
    rw [show 32 + (c - 32) = c by omega] at this
    exact this
  refine ⟨?_, a3⟩
  unfold Builtin.Str.reprChar
  dsimp only
  rw [if_neg (by simp [a3, a4]), if_neg (by simp; omega), if_neg (by simp; omega), if_neg (by simp; omega), if_pos p]
theorem fold_simple : ∀ (x : List Nat) (acc : Array Nat), x.all (fun c => Nat.ble 32 c && Nat.ble c 126 && !Nat.beq c 39 && !Nat.beq c 92) = true → (x.foldl (fun out c => out ++ (Builtin.Str.reprChar 39 c).toArray) acc) = acc ++ x.toArray
  | [], acc, _ => by simp
  | c :: x, acc, h => by
    rw [List.all_cons, Bool.and_eq_true] at h
    rw [List.foldl_cons, (char_simple h.1).1, fold_simple x _ h.2]
    simp
theorem repr_simple {x : List Nat} (h : x.all (fun c => Nat.ble 32 c && Nat.ble c 126 && !Nat.beq c 39 && !Nat.beq c 92) = true) : PySem.reprText (txt x) = txt (39 :: (x ++ [39])) := by
  have q : reprQuote (txt x) = 39 := by
    unfold reprQuote
    have : (txt x).cps.contains 39 = false := by
      unfold txt
      cases e : (x.toArray).contains 39 with
      | false => rfl
      | true =>
        have m : 39 ∈ x := by simpa using e
        exact absurd rfl (char_simple (List.all_eq_true.mp h 39 m)).2
    rw [this]
    rfl
  unfold PySem.reprText
  rw [q, ← Array.foldl_toList]
  have e : (txt x).cps.toList = x := by simp [txt]
  rw [e, fold_simple x _ h]
  unfold txt
  simp

/-- a value as the kit tells it -/
def pyOf : D → PyData
  | .non => .none
  | .bl b => .bool b
  | .int i => .int i
  | .str x => .str (txt x)
  | .tup xs => .tuple (pyOfs xs)
  | .lst xs => .list (pyOfs xs)
  | .map _ _ => .dict []
  | _ => .none
where pyOfs : List D → List PyData
  | [] => []
  | x :: xs => pyOf x :: pyOfs xs
theorem s_br : (("[" : String) : Str) = txt [91] := rfl
theorem s_brc : (("]" : String) : Str) = txt [93] := rfl
theorem s_pa : (("(" : String) : Str) = txt [40] := rfl
theorem s_pac : ((")" : String) : Str) = txt [41] := rfl
theorem s_pac1 : ((",)" : String) : Str) = txt [44, 41] := rfl
theorem s_co : ((", " : String) : Str) = txt [44, 32] := rfl
theorem s_no : (("" : String) : Str) = txt [] := rfl
theorem tf_ok : ∀ (ts : List (List Nat)) (acc : List Nat) (k : Nat), 0 < k → textFrom k (txt acc) (ts.map txt) = txt (acc ++ (ts.map ([44, 32] ++ ·)).flatten)
  | [], acc, k, _ => by simp [textFrom]
  | t :: ts, acc, k, hk => by
    rw [List.map_cons, textFrom, if_pos hk, s_co, txt_append, txt_append, tf_ok ts _ _ (Nat.succ_pos k)]
    simp
theorem lstT_ok (ts : List (List Nat)) : listText (ts.map txt) = txt (lstT ts) := by
  unfold listText lstT
  cases ts with
  | nil => rfl
  | cons t ts =>
    rw [List.map_cons, textFrom, if_neg (Nat.lt_irrefl 0), s_br, s_no, txt_append, txt_append, tf_ok ts _ _ (Nat.succ_pos 0), s_brc, txt_append, joinL_eq]
    simp
theorem joinS_ok : ∀ ts : List (List Nat), Str.join ", " (ts.map txt) = txt (joinL [44, 32] ts)
  | [] => rfl
  | [t] => rfl
  | t :: u :: ts => by
    have ih := joinS_ok (u :: ts)
    rw [List.map_cons, List.map_cons, Str.join, joinL, ← List.map_cons, ih, s_co, txt_append, txt_append]
    · simp
    · simp
theorem tupT_ok (ts : List (List Nat)) : tupleText (ts.map txt) = txt (tupT ts) := by
  unfold tupleText
  rw [joinS_ok, s_pa, txt_append, List.length_map]
  match ts with
  | [] => rfl
  | [t] =>
    show txt _ ++ (",)" : Str) = _
    rw [s_pac1, txt_append]
    simp [tupT, joinL]
  | t :: u :: ts =>
    show txt _ ++ (")" : Str) = _
    rw [s_pac, txt_append]
    simp [tupT]
section
variable {G : Glob} {r : RS}
def ShP (G : Glob) (r : RS) (d : D) (v : V) : Prop := ∀ t, reprD d = some t → ShH G.K r.H v (pyOf d) ∧ (pyOf d).showable = true ∧ (pyOf d).shown = txt t ∧ (pyOf d).depth ≤ depD d ∧ ((pyOf d).hasDict = true → pyOf d = .dict [])
def ShPs (G : Glob) (r : RS) (ds : List D) (vs : List V) : Prop := ∀ ts, reprDs ds = some ts → ShHs G.K r.H vs (pyOf.pyOfs ds) ∧ PyData.showableAll (pyOf.pyOfs ds) = true ∧ PyData.shownAll (pyOf.pyOfs ds) = ts.map txt ∧ PyData.depthAll (pyOf.pyOfs ds) ≤ depDs ds ∧ PyData.hasDictAll (pyOf.pyOfs ds) = false
theorem sh_non : ShP G r .non .non := fun t e => by
  cases e
  refine ⟨.non, by simp only [pyOf, PyData.showable], by simp only [pyOf, PyData.shown]; rfl, by simp only [pyOf, PyData.depth]; exact Nat.zero_le _, fun h => ?_⟩
  simp only [pyOf, PyData.hasDict, Bool.false_eq_true] at h
theorem sh_bl (b : Bool) : ShP G r (.bl b) (.bl b) := fun t e => by
  refine ⟨.bl b, by simp only [pyOf, PyData.showable], ?_, by simp only [pyOf, PyData.depth]; exact Nat.zero_le _, fun h => ?_⟩
  · cases b <;> (cases e; simp only [pyOf, PyData.shown]; rfl)
  · simp only [pyOf, PyData.hasDict, Bool.false_eq_true] at h
theorem sh_int (i : Int) : ShP G r (.int i) (.int i) := fun t e => by
  have e : (if Nat.ble i.natAbs.log2 1919 then some (intText i) else none) = some t := e
  split at e
  · rename_i hz
    cases e
    refine ⟨.int i, ?_, ?_, by simp only [pyOf, PyData.depth]; exact Nat.zero_le _, fun h => ?_⟩
    · simp only [pyOf, PyData.showable]
      exact decide_eq_true (Nat.lt_succ_of_le (Nat.le_of_ble_eq_true hz))
    · simp only [pyOf, PyData.shown]
      exact toString_txt i
    · simp only [pyOf, PyData.hasDict, Bool.false_eq_true] at h
  · cases e
theorem sh_str (x : List Nat) : ShP G r (.str x) (.str (txt x)) := fun t e => by
  have e : (if (x.all (fun c => Nat.ble 32 c && Nat.ble c 126 && !Nat.beq c 39 && !Nat.beq c 92) && Nat.ble x.length 1000000) then some (39 :: (x ++ [39])) else none) = some t := e
  split at e
  · rename_i hz
    rw [Bool.and_eq_true] at hz
    cases e
    refine ⟨.str _, by simp only [pyOf, PyData.showable], ?_, by simp only [pyOf, PyData.depth]; exact Nat.zero_le _, fun h => ?_⟩
    · simp only [pyOf, PyData.shown]
      exact repr_simple hz.1
    · simp only [pyOf, PyData.hasDict, Bool.false_eq_true] at h
  · cases e
theorem sh_tup {ds : List D} {a : Addr} {vs : List V} (f : Ft G r a vs) (ih : ShPs G r ds vs) : ShP G r (.tup ds) (.ref a) := fun t e => by
  rw [reprD] at e
  cases q : reprDs ds with
  | none => rw [q] at e; cases e
  | some ts =>
    rw [q] at e
    cases e
    obtain ⟨h1, h2, h3, h4, h5⟩ := ih ts q
    refine ⟨.tup f.sq h1, ?_, ?_, ?_, fun h => ?_⟩
    · simp only [pyOf, PyData.showable]; exact h2
    · simp only [pyOf, PyData.shown]
      rw [h3, tupT_ok]
    · simp only [pyOf, PyData.depth]
      rw [depD]
      exact Nat.succ_le_succ h4
    · simp only [pyOf, PyData.hasDict] at h
      rw [h5] at h
      cases h
theorem sh_lst {ds : List D} {a : Addr} {vs : List V} (f : Rd r.H a (.lst vs)) (ih : ShPs G r ds vs) : ShP G r (.lst ds) (.ref a) := fun t e => by
  rw [reprD] at e
  cases q : reprDs ds with
  | none => rw [q] at e; cases e
  | some ts =>
    rw [q] at e
    cases e
    obtain ⟨h1, h2, h3, h4, h5⟩ := ih ts q
    refine ⟨.lst (.inl f) h1, ?_, ?_, ?_, fun h => ?_⟩
    · simp only [pyOf, PyData.showable]; exact h2
    · simp only [pyOf, PyData.shown]
      rw [h3, lstT_ok]
    · simp only [pyOf, PyData.depth]
      rw [depD]
      exact Nat.succ_le_succ h4
    · simp only [pyOf, PyData.hasDict] at h
      rw [h5] at h
      cases h
theorem sh_dic {a : Addr} (h : r.H a = some (.dK [])) : ShP G r (.map [] []) (.ref a) := fun t e => by
  rw [reprD] at e
  cases e
  refine ⟨.dic h, ?_, ?_, ?_, fun _ => by simp only [pyOf]⟩
  · simp only [pyOf, PyData.showable, PyData.showableKv]
  · simp only [pyOf, PyData.shown, PyData.shownKv]
    rfl
  · simp only [pyOf, PyData.depth, PyData.depthKv]
    rw [depD]
    decide
theorem shs_nil : ShPs G r [] [] := fun ts e => by
  rw [reprDs] at e
  cases e
  refine ⟨.nil, ?_, ?_, ?_, ?_⟩
  · simp only [pyOf.pyOfs, PyData.showableAll]
  · simp only [pyOf.pyOfs, PyData.shownAll]; rfl
  · simp only [pyOf.pyOfs, PyData.depthAll]; exact Nat.zero_le _
  · simp only [pyOf.pyOfs, PyData.hasDictAll]
theorem shs_cons {d : D} {ds : List D} {v : V} {vs : List V} (ih : ShP G r d v) (ihs : ShPs G r ds vs) : ShPs G r (d :: ds) (v :: vs) := fun ts e => by
  have nm : ∀ ks vs, d ≠ .map ks vs := fun ks vs z => by subst z; rw [reprDs] at e; cases e
  rw [reprDs] at e
  · split at e
    · rename_i t us e1 e2
      cases e
      obtain ⟨a1, a2, a3, a4, a5⟩ := ih _ e1
      obtain ⟨b1, b2, b3, b4, b5⟩ := ihs _ e2
      refine ⟨.cons a1 b1, ?_, ?_, ?_, ?_⟩
      · simp only [pyOf.pyOfs, PyData.showableAll]
        rw [a2, b2]; rfl
      · simp only [pyOf.pyOfs, PyData.shownAll]
        rw [a3, b3]; rfl
      · simp only [pyOf.pyOfs, PyData.depthAll]
        rw [depDs]
        omega
      · simp only [pyOf.pyOfs, PyData.hasDictAll]
        rw [b5, Bool.or_false]
        cases q : (pyOf d).hasDict with
        | false => rfl
        | true =>
          have := a5 q
          exfalso
          cases d <;> first | exact nm _ _ rfl | (simp only [pyOf] at this; cases this)
    · cases e
  · exact nm
theorem shows_ok {d : D} {v : V} {t : List Nat} (h : Rep G r d v) (e : reprD d = some t) : ShH G.K r.H v (pyOf d) ∧ (pyOf d).showable = true ∧ (pyOf d).shown = txt t ∧ (pyOf d).depth ≤ depD d ∧ ((pyOf d).hasDict = true → pyOf d = .dict []) := by
  have bad : ∀ {d : D}, reprD d = none → ∀ v, ShP G r d v := fun {d} q v t e => by rw [q] at e; cases e
  exact Rep.rec (motive_1 := fun d v _ => ShP G r d v) (motive_2 := fun ds vs _ => ShPs G r ds vs) sh_non sh_bl sh_int sh_str (fun f _ ih => sh_tup f ih) (fun f _ _ ih => sh_lst f ih) (fun _ _ => bad rfl _) (fun _ _ => bad rfl _) (fun _ => bad rfl _) (fun _ => bad rfl _) (fun h _ => sh_dic h) (fun _ _ => bad rfl _) (fun _ _ _ _ _ _ => bad rfl _) shs_nil (fun _ _ a b => shs_cons a b) h t e
theorem repr_ok {d : D} {v : V} {t : List Nat} (h : Rep G r d v) (e : reprP d = some t) : ShowsT G.K r.H v (txt t) := by
  unfold reprP at e
  split at e
  · rename_i t' e1
    split at e
    · rename_i hz
      cases e
      rw [Bool.and_eq_true] at hz
      obtain ⟨a1, a2, a3, a4, a5⟩ := shows_ok h e1
      have z1 := Nat.le_of_ble_eq_true hz.1
      have z2 := Nat.le_of_ble_eq_true hz.2
      cases v with
      | ref a => exact .inr ⟨a, pyOf d, rfl, a1, a2, Nat.le_trans a4 z2, a3.symm, by rw [txt_length]; omega, a5⟩
      | non => cases h; cases e1; exact .inl rfl
      | bl b => cases h; cases b <;> (cases e1; exact .inl rfl)
      | int i =>
        cases h
        refine .inl ?_
        simp only [pyOf, PyData.showable] at a2
        simp only [pyOf, PyData.shown] at a3
        rw [← a3]
        show (if Nat.ble i.natAbs.log2 1919 then some (Str.ofString (toString i)) else none) = _
        rw [if_pos (Nat.ble_eq_true_of_le (Nat.le_of_lt_succ (of_decide_eq_true a2)))]
      | str x =>
        refine .inl ?_
        cases h
        simp only [pyOf, PyData.shown] at a3
        show (if Nat.ble (PySem.reprText (txt _)).length 16000000 then some (PySem.reprText (txt _)) else none) = _
        rw [a3, if_pos (Nat.ble_eq_true_of_le ?_)]
        rw [txt_length]
        omega
      | ty T => cases h
      | _ => cases h
    · cases e
  · cases e
end
end DL
end
section
set_option Elab.async false
set_option autoImplicit false
set_option linter.all false
set_option maxRecDepth 100000
set_option maxHeartbeats 2000000
/-! DLu: defs as values, the law's word of errors, kept lambdas. -/
namespace DL
open PySem PySem.Spec PyProof.Rows L2 LamX LX
section
variable {X : Cx} {G : Glob} {W : WX} {S : Store} {r : RS}
theorem n_new {fs : Env → Store → Out (List D)} {es : List Expr} {pos : Pos} (hs : PA X es (tDs G W fs)) : PE X (.List es pos) (tD G W (fun σ S => (fs σ S).bind fun ds S => if fits ds.length then .ok (.ref S.length) (S ++ [ds]) else .bad)) := by
  refine PE.mono (pe_lst hs) fun σV H Q h => ?_
  refine tX.step (rel := Reps G) h fun vs σ ds S r l s hx p => ?_
  split at p
  · rename_i hf
    refine ⟨by rw [← hx.length]; exact fits_of hf, fun q hq => ?_⟩
    exact p (.ref q) (r.new q (.lst vs) .lst) (Ext.new l hq _ _) (Rl.new l hq hx) (.ref (new_mu l) (new_kd l))
  · exact False.elim p
theorem n_gfn {g : Nat} {x : Str} {p : Pos} (hb : g < G.nF) (hm : X.mg x = some (.ref (G.fnA g))) (hg : Gl X x) (ho : okN x = true) : PE X (.Name x p) (tD G W (fun _ S => .ok (.fn g) S)) :=
  n_con (v := .ref (G.fnA g)) (pe_glob hg hm rfl (okN_d ho)) fun _ => .fn hb
/-! ### lambdas -/
/-- no parameters -/
def noPar : Arguments → Bool
  | ⟨[], [], none, [], [], none, []⟩ => true
  | _ => false
theorem noPar_eq {p : Arguments} (h : noPar p = true) : p = ⟨[], [], none, [], [], none, []⟩ := by
  unfold noPar at h
  split at h
  · rfl
  · cases h
theorem noPar_def {p : Arguments} (h : noPar p = true) (env : PySem.Env) : defaultsOf p env = ([], []) := by
  rw [noPar_eq h]
  rfl
theorem noPar_bind {p : Arguments} (h : noPar p = true) (q : Str) (body : Expr) (scope : Scope) (clo : List (Str × Addr)) (pm cv ctv : Value) : bindArgs (PySem.W.kla_fn "<lambda>" q p body scope clo pm cv ctv) ⟨[], []⟩ = pure [] := by
  rw [noPar_eq h]
  rfl
/-- plain parameters of these names -/
def parOk : List (List Str) := [["one"], ["a"], ["b"], ["some"], ["row"], ["text"], ["one", "other"], ["a", "b"], ["text", "row"], ["a", "b", "c"]]
def parsP : Arguments → Option (List Str)
  | ⟨[], as, none, [], [], none, []⟩ => if as.map (·.arg) ∈ parOk then some (as.map (·.arg)) else none
  | _ => none
theorem parsP_def {p : Arguments} {ps : List Str} (h : parsP p = some ps) (env : PySem.Env) : defaultsOf p env = ([], []) := by
  unfold parsP at h
  split at h
  · rfl
  · cases h
theorem parsP_bind {p : Arguments} {ps : List Str} (h : parsP p = some ps) {us : List Value} (hl : us.length = ps.length) (q : Str) (body : Expr) (scope : Scope) (clo : List (Str × Addr)) (pm cv ctv : Value) : bindArgs (PySem.W.kla_fn "<lambda>" q p body scope clo pm cv ctv) ⟨us, []⟩ = pure (ps.zip us) := by
  unfold parsP at h
  split at h
  · rename_i as
    split at h
    · rename_i hm
      cases h
      simp only [parOk, List.mem_cons, List.not_mem_nil, or_false] at hm
      rcases hm with hm | hm | hm | hm | hm | hm | hm | hm | hm | hm
      · rw [hm] at hl ⊢
        match as, us, hm, hl with
        | [⟨x0, y0, z0⟩], [u0], hm, _ =>
          simp only [List.map_cons, List.map_nil, List.cons.injEq, and_true] at hm; subst hm
          rfl
      · rw [hm] at hl ⊢
        match as, us, hm, hl with
        | [⟨x0, y0, z0⟩], [u0], hm, _ =>
          simp only [List.map_cons, List.map_nil, List.cons.injEq, and_true] at hm; subst hm
          rfl
      · rw [hm] at hl ⊢
        match as, us, hm, hl with
        | [⟨x0, y0, z0⟩], [u0], hm, _ =>
          simp only [List.map_cons, List.map_nil, List.cons.injEq, and_true] at hm; subst hm
          rfl
      · rw [hm] at hl ⊢
        match as, us, hm, hl with
        | [⟨x0, y0, z0⟩], [u0], hm, _ =>
          simp only [List.map_cons, List.map_nil, List.cons.injEq, and_true] at hm; subst hm
          rfl
      · rw [hm] at hl ⊢
        match as, us, hm, hl with
        | [⟨x0, y0, z0⟩], [u0], hm, _ =>
          simp only [List.map_cons, List.map_nil, List.cons.injEq, and_true] at hm; subst hm
          rfl
      · rw [hm] at hl ⊢
        match as, us, hm, hl with
        | [⟨x0, y0, z0⟩], [u0], hm, _ =>
          simp only [List.map_cons, List.map_nil, List.cons.injEq, and_true] at hm; subst hm
          rfl
      · rw [hm] at hl ⊢
        match as, us, hm, hl with
        | [⟨x0, y0, z0⟩, ⟨x1, y1, z1⟩], [u0, u1], hm, _ =>
          simp only [List.map_cons, List.map_nil, List.cons.injEq, and_true] at hm; obtain ⟨h0, h1⟩ := hm; subst h0 h1
          rfl
      · rw [hm] at hl ⊢
        match as, us, hm, hl with
        | [⟨x0, y0, z0⟩, ⟨x1, y1, z1⟩], [u0, u1], hm, _ =>
          simp only [List.map_cons, List.map_nil, List.cons.injEq, and_true] at hm; obtain ⟨h0, h1⟩ := hm; subst h0 h1
          rfl
      · rw [hm] at hl ⊢
        match as, us, hm, hl with
        | [⟨x0, y0, z0⟩, ⟨x1, y1, z1⟩], [u0, u1], hm, _ =>
          simp only [List.map_cons, List.map_nil, List.cons.injEq, and_true] at hm; obtain ⟨h0, h1⟩ := hm; subst h0 h1
          rfl
      · rw [hm] at hl ⊢
        match as, us, hm, hl with
        | [⟨x0, y0, z0⟩, ⟨x1, y1, z1⟩, ⟨x2, y2, z2⟩], [u0, u1, u2], hm, _ =>
          simp only [List.map_cons, List.map_nil, List.cons.injEq, and_true] at hm; obtain ⟨h0, h1, h2⟩ := hm; subst h0 h1 h2
          rfl
    · cases h
  · cases h
def Cenv.lam (Γ : Cenv) (scope : Scope) : Cenv := { Γ with sc := scope, so := scope, mkl := false, top := false, wd := none, capok := true }
/-- .. within a lambda with parameters that captures nothing -/
def Cenv.lamN (Γ : Cenv) (scope : Scope) (ps : List Str) : Cenv := { Γ with N := ps, sc := scope, so := scope, ls := [], lt := [], lv := [], mkl := false, top := false, wd := none, capok := false }
def noFree (scope : Scope) : Bool := scope.names.all fun y => !decide (y.2 = .free)
theorem cloFrom_none {cells : List (Str × Addr)} : ∀ {names : List (Str × NameKind)} {acc : List (Str × Addr)}, (∀ y ∈ names, y.2 ≠ .free) → cloFrom cells names acc = acc
  | [], acc, _ => rfl
  | (n, k) :: r, acc, h => by
    have : (k == NameKind.free) = false := by
      cases e : k == NameKind.free with
      | false => rfl
      | true => exact absurd (eq_of_beq e) (h (n, k) (.head _))
    unfold cloFrom
    rw [this]
    exact cloFrom_none fun y hy => h y (.tail _ hy)
theorem noFree_of {scope : Scope} (h : noFree scope = true) : ∀ y ∈ scope.names, y.2 ≠ .free := fun y hy => by
  have := List.all_eq_true.mp h y hy
  simpa using this
abbrev FnsN (G : Glob) (X : Cx) (cl : Cl) (n : Nat) : Prop := ∀ (g : Nat), g < G.nF → PySem.W.keepIn X.K (.ref (G.fnA g)) = true ∧ ∃ fd ps, FnG X.prog X.w X.K X.mg X.base n (G.fnA g) fd ps (spD G cl g) ∧ Binds X.K fd ps []
theorem XOk.lamx {cl : Cl} {gc : List D} {Γ : Cenv} (h : XOk G Γ X W cl gc) {scope : Scope} (L : LamS X.env.scope scope) {n : Nat} (hn : FnsN G X cl n)
    {A : Around} {outer : List PySem.Env} {s : Shared} {H : Hp} {E : XK} {f c' : Addr} (hr : Room (n + 2) (A.deeper (lamEnv X scope s.heap.objs.size f c'))) (hg : A.guards = some []) : XOk G (Γ.lam scope) (lamCx X A outer s H E scope f c') (fun c d _ H => E c d H) cl gc where
  hK := h.hK
  hN := h.hN
  nd := h.nd
  sc := rfl
  fn := fun x e => absurd rfl (L.own _ (PySem.mem_of_lookup e)).2
  calm := rfl
  un := hr.units
  dig := h.dig
  tk := takes_of rfl rfl rfl rfl
  gd := hg
  fns := ⟨n, hr.mono (by omega), fun _ => hr, (fun e => by cases e), hn⟩
  gn := h.gn
  nF := h.nF
  cons := h.cons
  blt := h.blt
  ls := h.ls
  lam := fun e => by cases e
  mkl := fun e => by cases e
  lv := h.lv
  cap0 := h.cap0
  cls := h.cls
  wd := fun _ e => by cases e
  ex := fun c x e => let k := h.ex c x e; ⟨k.mg, k.kp, k.rs, k.lt, k.how⟩
  exf := h.exf
theorem ClsK.fr {F : Frm} {K : PySem.W.Frag} {mg : Str → Option Value} {c : Nat} {a : ClsA} (h : ClsK G K mg c a) : ClsK (G.fr F) K mg c a := ⟨h.mgx, h.cls, h.fs, h.nd, h.few, h.no, h.mk0, h.ms⟩
theorem XOk.lamNx {cl : Cl} {gc : List D} {Γ : Cenv} (h : XOk G Γ X W cl gc) {scope : Scope} {ps : List Str} (L : LamPS scope scope ps) (nd : ps.Nodup) {n : Nat} (hn : FnsN G X cl n)
    {outer : List PySem.Env} {q : Str} {s : Shared} {H : Hp} {E : XK} {f c' : Addr} (hr : Room (n + 1) (X.A.deeper (lamEnvP q [] scope s.heap.objs.size f c'))) : XOk (G.fr Frm.nil) (Γ.lamN scope ps) (lamCxP X ([] ++ ps) q [] X.A outer s H E scope f c') (fun c d _ H => E c d H) cl gc where
  hK := h.hK
  hN := rfl
  nd := nd
  sc := rfl
  fn := fun x e => absurd rfl (L.nocell _ (PySem.mem_of_lookup e))
  calm := rfl
  un := hr.units
  dig := h.dig
  tk := takes_of rfl rfl rfl rfl
  gd := h.gd
  fns := ⟨n, hr, (fun e => by cases e), (fun e => by cases e), fun g hg => by
    obtain ⟨k1, fd, ps, k2, k3⟩ := hn g hg
    exact ⟨k1, fd, ps, by rw [spD_fr]; exact k2, k3⟩⟩
  gn := h.gn
  nF := h.nF
  cons := fun k x d e1 e2 => let ⟨u, v, k1, k2, k3⟩ := h.cons k x d e1 e2; ⟨u, v, k1, k2, fun r => (k3 r).fr⟩
  blt := h.blt
  ls := rfl
  lam := fun e => by cases e
  mkl := fun e => by cases e
  lv := rfl
  cap0 := rfl
  cls := fun c a e => (h.cls c a e).fr
  wd := fun _ e => by cases e
  ex := fun c x e => let k := h.ex c x e; ⟨k.mg, k.kp, k.rs, k.lt, k.how⟩
  exf := h.exf
theorem lamExt {H1 : Hp} (l : Rl G r S) (eN : ExtN r.H H1) (t1 : Tabs G.T H1) : Ext r { r with H := H1 } ∧ Rl G { r with H := H1 } S := by
  have ext : Ext r { r with H := H1 } := ⟨⟨fun _ _ h => h, fun _ _ h => h, fun a o h z t => ⟨eN a o h t, z⟩, fun _ _ h => h⟩, fun a o h z n t => ⟨eN a o h t, z, n⟩⟩
  refine ⟨ext, l.len, l.klen, l.nd, l.inZ, fun a z => ?_, fun n xs e => ?_, t1, l.tabN, fun a z => ?_⟩
  · rcases l.zT a z with ⟨o, q, t⟩ | ⟨q, hq⟩
    · have := eN a _ q t.1
      show H1 a ≠ none
      rw [this]
      intro w
      cases w
    · obtain ⟨ps, h1, _⟩ := t1 _ hq
      have h1 : H1 a = _ := h1
      show H1 a ≠ none
      rw [h1]
      intro w
      cases w
  · obtain ⟨a, k, h1, h2, h3⟩ := l.obj n xs e
    obtain ⟨o0, ho, hT⟩ := h3.isO
    exact ⟨a, k, h1, h2, h3.grow ext.toGrow fun u hu => eN a _ hu (by rw [ho] at hu; cases hu; exact hT)⟩
  · rcases l.zT a z with ⟨o, q, t⟩ | q
    · exact .inl ⟨o, eN a _ q t.1, t⟩
    · exact .inr q
theorem atI_zero {v : V} {vs : List V} : atI (v :: vs) 0 = some v := by
  unfold atI ixN
  rw [if_pos (Int.le_refl 0), if_pos (by simp)]
  rfl
/-- what stands behind the word -/
theorem mode_ok {G : Glob} {r : RS} {m : Md} {w : List Nat} {d : D} {v : V} {t : List Nat} {S : Store} {Q : VK} (l : Rl G r S) (h : Rep G r d v) (e : modeD m d = some t) (hz : w.length + t.length ≤ 16000000) (p : ∀ r', Ext r r' → Rl G r' S → Q (.str (txt (w ++ t))) r'.H) : MdW G.K m (txt w) v r.H Q := by
  have len : (txt w).length + (txt t).length ≤ sizeLine := by
    rw [txt_length, txt_length, sizeLine_eq]
    omega
  cases m with
  | rep => exact ⟨txt t, repr_ok h e, len, by rw [txt_append]; exact p r (Ext.refl r) l⟩
  | rep2 =>
    cases d with
    | tup xs =>
      cases h with
      | @tup _ a vs f hs =>
        have e : reprP (.tup (xs.take 2)) = some t := e
        refine ⟨_, _, rfl, f.sq, fun hw => ?_, fun hw q hq => ?_⟩
        · have h2 : xs.take 2 = xs := by
            have h2 := hw.2
            rw [show (some (2 : Int)) = some (((2 : Nat) : Int)) from rfl, HT.sIx_nat, ← hs.length] at h2
            exact List.take_of_length_le (by omega)
          rw [h2] at e
          exact ⟨txt t, repr_ok (.tup f hs) e, len, by rw [txt_append]; exact p r (Ext.refl r) l⟩
        · have e2 : cutV vs none (some 2) = List.take 2 vs := by
            unfold cutV
            rw [show (some (2 : Int)) = some (((2 : Nat) : Int)) from rfl, HT.sIx_nat, HT.sIx_none, List.drop_zero, Nat.sub_zero]
            simp [List.take_eq_take_iff]
          have x1 := Ext.put l hq (.tup (cutV vs none (some 2)))
          have l1 := Rl.put l hq (.tup (cutV vs none (some 2)))
          refine ⟨txt t, repr_ok (r := r.put q (.tup (cutV vs none (some 2)))) (.tup (.inl ⟨.inl put_at, Rl.noZ l hq⟩) ?_) e, len, by rw [txt_append]; exact p _ x1 l1⟩
          have hh := (hs.take 2).ext x1
          rw [← e2] at hh
          exact hh
    | _ => cases e
  | str =>
    cases d with
    | int i =>
      cases h
      have e : (if Nat.ble i.natAbs.log2 1919 then some (intText i) else none) = some t := e
      split at e
      · rename_i hi
        cases e
        have e2 : ((toString i : String) : Str) = txt (intText i) := toString_txt i
        exact ⟨i, rfl, Nat.lt_succ_of_le (Nat.le_of_ble_eq_true hi), by rw [e2]; exact len, by rw [e2, txt_append]; exact p r (Ext.refl r) l⟩
      · cases e
    | _ => cases e
  | at0 =>
    cases d with
    | tup xs =>
      cases h with
      | tup f hs =>
        cases hs with
        | nil => cases e
        | cons h1 hs =>
          cases h1 with
          | str x =>
            have e : some x = some t := e
            cases e
            exact ⟨_, _, _, rfl, f.sq, atI_zero, len, by rw [txt_append]; exact p r (Ext.refl r) l⟩
          | _ => cases e
    | _ => cases e
/-- what the clauses ask, of an exception of ours -/
theorem word_x {G : Glob} {cA : Str → Addr} {r : RS} {x : Exn} {cls : Value} {dd : Option Addr} {Q : VK} (hx : RepX G r x cls dd) : ∀ (hcs : List HC) (hds : List Hd), HdsOk G cA hcs hds →
    (∀ (h : Hd), hds.find? (fun h => h.cs.elem x.c) = some h → match h.m with
      | some m => ∀ v, Rep G r x.arg v → MdW G.K m (txt h.w) v r.H Q
      | none => Q (.str (txt h.w)) r.H) → hds.find? (fun h => h.cs.elem x.c) ≠ none → wordX G.K cA Q hcs cls dd r.H
  | [], [], _, _, n => absurd rfl n
  | [], _ :: _, k, _, _ => k.elim
  | _ :: _, [], k, _, _ => k.elim
  | .plain c w :: hcs, h :: hds, ⟨⟨k1, k2, k3⟩, k4⟩, p, n => by
    obtain ⟨⟨rfl, hlt⟩, _⟩ := id hx
    refine ⟨_, k3 x.c hlt, fun e => ?_, fun e => word_x hx hcs hds k4 (fun h' e' => p h' (by rw [List.find?_cons, e]; exact e')) fun z => n (by rw [List.find?_cons, e]; exact z)⟩
    have := p h (by rw [List.find?_cons, e])
    rw [k1] at this
    rw [k2]
    exact this
  | .kept c f w m :: hcs, h :: hds, ⟨⟨k1, k2, k3, k5⟩, k4⟩, p, n => by
    obtain ⟨⟨rfl, hlt⟩, hf⟩ := id hx
    refine ⟨_, k3 x.c hlt, fun e => ?_, fun e => word_x hx hcs hds k4 (fun h' e' => p h' (by rw [List.find?_cons, e]; exact e')) fun z => n (by rw [List.find?_cons, e]; exact z)⟩
    have := p h (by rw [List.find?_cons, e])
    rw [k1] at this
    obtain ⟨e4, e5⟩ := k5 x.c hlt e
    refine ⟨by rw [e4], ?_⟩
    rcases hf with hf | ⟨f', d, v, a1, a2, a3, a4, a5⟩
    · rw [e5] at hf
      cases hf
    · rw [e5] at a1
      cases a1
      refine ⟨d, _, v, a2, a3, by simp, ?_⟩
      rw [k2]
      exact this v a5
def kindFn (sc : Scope) : Bool := match sc.kind with
  | .function => true
  | _ => false
theorem kindFn_eq {sc : Scope} (h : kindFn sc = true) : sc.kind = .function := by
  unfold kindFn at h
  split at h
  · assumption
  · cases h
/-- the word's wish out of what the term tells -/
theorem word_post {wd : WdA} {g : Addr} {cdv : Value} {sg : Scope} {bg : List Stmt} {cA : Str → Addr} (hK : X.K = G.K) (WO : WordOk G X wd g cdv sg bg cA) {σV σV' : L2.St} {r1 : RS} {o : Out D} {Q : VK} (p : Post G (Rep G) W σV r1 (wordD wd.fine wd.hds o) Q) :
    Post G (Rep G) (fun c d _ H => wordX X.K cA Q wd.hcs c d H) σV' r1 o fun _ H' => Q (.str (txt wd.fine)) H' := by
  cases o with
  | ok a S1 => exact fun b r' e l z => p (.str (txt wd.fine)) r' e l (.str _)
  | bad => exact p
  | exc x S1 =>
    intro cls dd r' e l hx
    rw [hK]
    unfold wordD at p
    dsimp only at p
    refine word_x hx wd.hcs wd.hds WO.hd (fun h hh => ?_) fun hn => ?_
    · rw [hh] at p
      dsimp only at p
      cases hf : h.m with
      | some m =>
        rw [hf] at p
        dsimp only at p
        cases hr : modeD m x.arg with
        | none => rw [hr] at p; exact False.elim p
        | some t =>
          rw [hr] at p
          dsimp only at p
          split at p
          · rename_i hz
            exact fun v hv => mode_ok l hv hr (Nat.le_of_ble_eq_true hz) fun r'' x'' l'' => p _ r'' (e.trans x'') l'' (.str _)
          · exact False.elim p
      | none =>
        rw [hf] at p
        exact p _ r' e l (.str _)
    · rw [hn] at p
      exact p
/-- a local name that holds a def, called -/
theorem n_callv {cl : Cl} {gc : List D} {Γ : Cenv} (h : XOk G Γ X W cl gc) {i : Nat} {x : Str} {p pos : Pos} {e : Expr} {es : List Expr} {ds0 lb : List E} {fs : Env → Store → Out (List D)} (hN : X.N[i]? = some x) (hv : Vis X.env.scope x) (ho : okN x = true) (hs : PA X (e :: es) (tDs G W fs)) (hn : (e :: es).all noStar = true)
    (hlb : ∀ j lam, i ∈ Γ.ls → Γ.lv[j]? = some lam → (∀ σ S, evLb cl gc lb j σ S = .bad) ∨ Γ.capok = true ∧ ∃ ps, parsP lam.params = some ps ∧ ps.length = ds0.length ∧ noFree lam.scope = true ∧ lamPB lam.scope lam.scope ps = true ∧ ps.Nodup ∧
      ∀ (X' : Cx) (W' : WX), XOk (G.fr Frm.nil) (Γ.lamN lam.scope ps) X' W' cl gc → PE X' lam.body (tD (G.fr Frm.nil) W' (evLb cl gc lb j))) :
    PE X (.Call (.Name x p) (e :: es) [] pos) (tD G W (fun σ S => match σ[i]? with | some (some (.fn g)) => (fs σ S).bind fun ds S => cl g ds S | some (some (.lam j)) => (fs σ S).bind fun ds S => if Nat.beq ds.length ds0.length then evLb cl gc lb j (ds.map some) S else .bad | _ => .bad)) := by
  refine ⟨fun pins s σV H Q I ⟨σ, S, r, e0, l, s1, p0⟩ => ?_⟩
  subst e0
  dsimp only at p0
  obtain ⟨n, hr, hr2, _, hf⟩ := h.fns
  rw [List.all_cons, Bool.and_eq_true] at hn
  split at p0
  · rename_i g eg
    obtain ⟨v, ev, q⟩ := s1.get i _ eg
    have q : Rep G r (.fn g) v := by
      rcases q with ⟨_, q⟩ | ⟨_, q⟩
      · exact q
      · rcases q with ⟨_, _, _, _, z, _⟩ | ⟨_, _, _, _, z, _⟩ | ⟨g', z, q⟩
        · cases z
        · cases z
        · exact q
    cases q with
    | fn hg =>
      obtain ⟨k2, fd, ps, F, hb⟩ := hf g hg
      refine wpAny_Call_Name_kw (thn ((pe_var (pos := p) hN hv (okN_d ho) (okN_c ho)).run pins s σV r.H (fun v H1 => v = .ref (G.fnA g) ∧ H1 = r.H) I ⟨_, ev, rfl, rfl⟩) fun u s2 ⟨v, H1, I1, r1, e1, e2⟩ => ?_)
      subst e1
      subst e2
      cases r1
      refine PySem.W.callWith_K (h₀ := X.base) I1.ok.mod.kin k2 (thn (hs.run pos pins s2 σV _ (fun vs H2 => spD G cl g vs H2 Q (WE W σV)) I1 ⟨σ, S, r, rfl, l, s1, (Post.bind (rel := Reps G) p0).mono fun vs H2 ⟨ds, S2, r2, e2, x2, l2, q2, p2⟩ => ⟨ds, S2, r2, e2, l2, q2, ?_⟩⟩) fun us s3 ⟨vs, H2, I2, r2, q2⟩ => ⟨I2.kIn, ?_⟩) (starEach_cons hn.1) (any_star hn.2)
      · revert p2
        cases cl g ds S2 with
        | ok a S => exact fun p => p
        | exc x S => exact fun p => p
        | bad => exact fun p => p
      · exact run_fnG F h.gd (hr.mono (Nat.le_succ n)) hb (passAt h.tk σV) I2 r2 q2
  · rename_i j ej
    obtain ⟨v, ev, q⟩ := s1.get i _ ej
    rcases q with ⟨_, q⟩ | ⟨hi, q⟩
    · cases q
    · rcases q with ⟨_, _, _, _, z, _⟩ | ⟨j', lam, f, c', z, rfl, elv, hfO, zf, hcO, zc⟩ | ⟨g', z, q⟩
      · cases z
      · cases z
        refine wpAny_Call_Name_kw (thn ((pe_var (pos := p) hN hv (okN_d ho) (okN_c ho)).run pins s σV r.H (fun v H1 => v = .ref f ∧ H1 = r.H) I ⟨_, ev, rfl, rfl⟩) fun u s2 ⟨v, H1, I1, r1, e1, e2⟩ => ?_)
        subst e1
        subst e2
        obtain rfl : u = Value.ref f := r1
        obtain ⟨⟨pm, ctv, of1⟩, _, _⟩ := I1.hok f _ hfO
        refine PySem.W.callWith_F ⟨_, _, _, _, of1⟩ (thn (hs.run pos pins s2 σV _ (fun vs H2 => ∃ ds S2 r2, r2.H = H2 ∧ Ext r r2 ∧ Rl G r2 S2 ∧ Reps G r2 ds vs ∧ Post G (Rep G) W σV r2 (if Nat.beq ds.length ds0.length then evLb cl gc lb j (ds.map some) S2 else .bad) Q) I1 ⟨σ, S, r, rfl, l, s1, (Post.bind (rel := Reps G) p0)⟩) fun us s3 ⟨vs, H2, I2, r2, ds, S2, r2', e2, x2, l2, q2, p2⟩ => ?_) (starEach_cons hn.1) (any_star hn.2)
        subst e2
        have hf2 := (x2.frz _ _ hfO zf lamO_ne).1
        have hc2 := (x2.frz _ _ hcO zc codeO_ne).1
        obtain ⟨⟨pm2, ctv2, of2⟩, _, _⟩ := I2.hok f _ hf2
        refine ⟨⟨_, _, _, _, of2⟩, ?_⟩
        split at p2
        · rename_i hd
          rcases hlb j lam (by rw [h.ls]; exact hi) (by rw [h.lv]; exact elv) with hbad | ⟨hcap, ps, hps, hlen, hnf, hL, nd, hbody⟩
          · rw [hbad] at p2
            exact False.elim p2
          have L := lamPS_by hL
          have nf := noFree_of hnf
          have hr2 := hr2 hcap
          rw [cloFrom_none nf] at hf2
          have hvl : vs.length = ps.length := by
            rw [← q2.length, hlen]
            exact Nat.eq_of_beq_eq_true hd
          have C : CapF ([] : List Str) [] lam.scope [] r2'.H s3.heap := ⟨fun i y v e => by simp at e, fun x y c e => by simp at e, fun y e => by
            rcases e with e | e
            · exact absurd rfl (L.nocell _ (PySem.mem_of_lookup e))
            · exact absurd rfl (nf _ (PySem.mem_of_lookup e)), fun y c e => by simp at e⟩
          refine run_lamP (N0 := []) (cells := []) (σ0 := []) (sc := lam.scope) (k := n + 1) (E := WE W σV) (tb := tD (G.fr Frm.nil) (fun c d _ H => WE W σV c d H) (evLb cl gc lb j)) I2 hr2 C rfl L (by simpa using nd) r2 hvl (by rw [cloFrom_none nf]; exact hf2) hc2 (fun pm ctv => parsP_bind hps (by show us.length = _; rw [← r2.length]; exact hvl) _ _ _ _ _ _ _) (passAt h.tk σV) (fun s' hr' => hbody _ _ (h.lamNx L nd hf hr')) ?_
          refine ⟨ds.map some, S2, r2', rfl, l2.fr, ⟨by simp [q2.length], fun i d e => ?_, fun p hp => by cases hp⟩, ?_⟩
          · rw [List.getElem?_map] at e
            cases q : ds[i]? with
            | none => rw [q] at e; cases e
            | some d' =>
              rw [q] at e
              have e : some (some d') = some (some d) := e
              cases e
              obtain ⟨v, k1, k2⟩ := q2.get q
              exact ⟨v, by simp [k1], .inl ⟨by simp [Glob.fr, Frm.nil], k2.fr⟩⟩
          · have p3 := Post.fr (F := Frm.nil) p2
            revert p3
            cases evLb cl gc lb j (ds.map some) S2 with
            | ok a S => exact fun p => p
            | exc x S => exact fun p => p
            | bad => exact fun p => p
        · exact False.elim p2
      · cases z
  · exact False.elim p0
/-- word(lambda: e) -/
theorem n_guard {cl : Cl} {gc : List D} {Γ : Cenv} (h : XOk G Γ X W cl gc) {wd : WdA} (hwd : Γ.wd = some wd) (hmk : Γ.mkl = true) {p lp pos : Pos} {params : Arguments} {body : Expr} {scope : Scope} {fe : Env → Store → Out D} (hg : glB Γ.sc wd.x = true) (ho : okN wd.x = true) (hL : lamSB Γ.sc scope = true) (hP : noPar params = true)
    (hb : ∀ (X' : Cx) (W' : WX), XOk G (Γ.lam scope) X' W' cl gc → PE X' body (tD G W' fe)) :
    PE X (.Call (.Name wd.x p) [.Lambda params body scope lp] [] pos) (tD G W (fun σ S => wordD wd.fine wd.hds (fe σ S))) := by
  refine ⟨fun pins s σV H Q I ⟨σ, S, r, e0, l, s1, p0⟩ => ?_⟩
  subst e0
  obtain ⟨g, cdv, sg, bg, cA, WO⟩ := h.wd wd hwd
  obtain ⟨c, P, M⟩ := h.mkl hmk
  obtain ⟨n, hr, _, hr2, hf⟩ := h.fns
  have L : LamS X.env.scope scope := lamS_by (by rw [h.sc]; exact hL)
  refine wpAny_Call_Name_kw (ld_glob I (gl_of (by rw [h.sc]; exact hg)) WO.mg ?_ (okN_d ho))
  refine PySem.W.callWith_K (h₀ := X.base) I.ok.mod.kin WO.kp (Calls.spliced_cons (thn ((pe_lam M L (noPar_def hP _)).run pins _ σV r.H (fun v H1 => ∃ (f c' : Addr) (r1 : RS), v = .ref f ∧ r1.H = H1 ∧ Ext r r1 ∧ Rl G r1 S ∧ H1 f = some (LamO f (X.env.qual ++ "<lambda>") params body scope (cloFrom X.env.cells scope.names []) c') ∧ H1 c' = some (CodeO c' (X.env.qual ++ "<lambda>"))) I ?_) fun u s2 hh => Calls.spliced_nil ?_))
  · refine ⟨l.tabs, fun H1 f c' eN t1 _ hf hc => ?_⟩
    obtain ⟨x1, l1⟩ := lamExt l eN t1
    exact ⟨f, c', { r with H := H1 }, rfl, rfl, x1, l1, hf, hc⟩
  · obtain ⟨v, H1, I1, ru, f, c', r1, rfl, rfl, x1, l1, hf1, hc1⟩ := hh
    obtain rfl : u = Value.ref f := ru
    refine ⟨I1.kIn, wpAny_mono (word_run (k := n + 2) (t := fun E => tD G (fun c d _ H => E c d H) fe) WO.ww (WO.gives _) I1 (hr2 hmk) L (fun pm ctv => noPar_bind hP _ _ _ _ _ _ _) h.gd (fun A outer s H E hr3 hg3 _ => hb _ _ (h.lamx L hf hr3 hg3)) WO.d1 WO.d2 hf1 hc1 ?_) (fun v s' q => q) fun _ _ z => z.elim⟩
    exact ⟨σ, S, r1, rfl, l1, s1.ext x1, word_post h.hK WO (Post.from x1 p0)⟩
/-- [word(call) for call in calls] -/
theorem n_guards {cl : Cl} {gc : List D} {Γ : Cenv} (h : XOk G Γ X W cl gc) {wd : WdA} (hwd : Γ.wd = some wd) (hmk : Γ.mkl = true) (htop : Γ.top = true) {p1 p2 p3 p4 py pos : Pos} {c y : Str} {scope : Scope} {i k : Nat} {ls : List LamA} {es : List E}
    (hN : X.N[i]? = some y) (hv : Vis X.env.scope y) (hoy : okN y = true) (hi : i ∈ Γ.ls) (hk : Γ.lt[k]? = some ls) (hlen : ls.length = es.length)
    (kind : kindFn scope = true) (hsc : scope.names.all (fun z => !decide (z.2 = .free) && !decide (z.2 = .cell) && (!decide (z.2 = .local) || decide (scope.names.lookup z.1 = some .local))) = true) (lc : scope.names.lookup c = some .local) (lw : scope.names.lookup wd.x = some .globalImplicit) (ow : okN wd.x = true) (oc : okN c = true)
    (hb : ∀ (j : Nat) (lam : LamA) (e : E), ls[j]? = some lam → es[j]? = some e → lamSB Γ.sc lam.scope = true ∧ noPar lam.params = true ∧ ∀ (X' : Cx) (W' : WX), XOk G (Γ.lam lam.scope) X' W' cl gc → PE X' lam.body (tD G W' (evE cl gc e))) :
    PE X (.ListComp (.Call (.Name wd.x p2) [.Name c p3] [] p4) [⟨.Name c p1, .Name y py, [], 0⟩] scope pos) (tD G W (fun σ S => match σ[i]? with | some (some (.lams j)) => if Nat.beq j k then evGs cl gc wd.fine wd.hds es [] σ S else .bad | _ => .bad)) := by
  obtain ⟨g, cdv, sg, bg, cA, WO⟩ := h.wd wd hwd
  obtain ⟨n, hr, _, hr2, hf⟩ := h.fns
  obtain ⟨ht1, ht2, ht3⟩ := h.lam htop
  rw [List.all_eq_true] at hsc
  have hsc' : ∀ z ∈ scope.names, z.2 ≠ .free ∧ z.2 ≠ .cell ∧ (z.2 = .local → scope.names.lookup z.1 = some .local) := fun z hz => by
    have := hsc z hz
    simp only [Bool.and_eq_true, Bool.not_eq_true', decide_eq_false_iff_not, Bool.or_eq_true, decide_eq_true_eq] at this
    exact ⟨this.1.1, this.1.2, fun e => this.2.elim (fun q => absurd e q) id⟩
  have base := pe_words (X := X) (c := c) (wn := wd.x) (iter := .Name y py) (scope := scope) (p1 := p1) (p2 := p2) (p3 := p3) (p4 := p4) (pos := pos) (g := g)
    (wish := fun f σV H' Qw => ∃ (j : Nat) (c' : Addr) (lam : LamA) (e : E) (σ : Env) (S : Store) (r : RS), ls[j]? = some lam ∧ es[j]? = some e ∧ r.H = H' ∧ Rl G r S ∧ RSt G r σ σV ∧ H' f = some (LamO f (X.env.qual ++ "<lambda>") lam.params lam.body lam.scope (cloFrom X.env.cells lam.scope.names []) c') ∧ H' c' = some (CodeO c' (X.env.qual ++ "<lambda>")) ∧ Post G (Rep G) W σV r (wordD wd.fine wd.hds (evE cl gc e σ S)) Qw)
    h.calm (pi_list (pe_var (pos := py) hN hv (okN_d hoy) (okN_c hoy))) (fun _ => rfl) (kindFn_eq kind) (fun z hz => (hsc' z hz).1) (fun z hz => (hsc' z hz).2.1) (fun z hz => (hsc' z hz).2.2) lc lw WO.mg WO.kp (okN_d ow) (okN_d oc)
    (fun pins s σV H Q f I ⟨j, c', lam, e, σ, S, r, a1, a2, a3, a4, a5, a6, a7, a8⟩ => by
      subst a3
      obtain ⟨b1, b2, b3⟩ := hb j lam e a1 a2
      have L : LamS X.env.scope lam.scope := lamS_by (by rw [h.sc]; exact b1)
      exact word_run (k := n + 2) (t := fun E => tD G (fun c d _ H => E c d H) (evE cl gc e)) WO.ww (WO.gives _) I (hr2 hmk) L (fun pm ctv => noPar_bind b2 _ _ _ _ _ _ _) h.gd (fun A outer s H E hr3 hg3 _ => b3 _ _ (h.lamx L hf hr3 hg3)) WO.d1 WO.d2 a6 a7 ⟨σ, S, r, rfl, a4, a5, word_post h.hK WO a8⟩)
  refine PE.mono base fun σV H Q ⟨σ, S, r, e0, l, s1, p0⟩ => ?_
  subst e0
  dsimp only at p0
  split at p0
  · rename_i j ej
    split at p0
    · rename_i hjk
      have hjk := Nat.eq_of_beq_eq_true hjk
      subst hjk
      obtain ⟨v, ev, q⟩ := s1.get i _ ej
      rcases q with ⟨z, _⟩ | ⟨_, q⟩
      · rw [h.ls] at hi
        exact absurd hi z
      · rcases q with q | q
        rotate_left
        · rcases q with ⟨_, _, _, _, z, _⟩ | ⟨_, z, _⟩ <;> cases z
        obtain ⟨k, ls', La, fs, q1, q2, q3, q4, q5, q6, q7⟩ := q
        cases q1
        rw [← ht1, hk] at q3
        cases q3
        rw [ht2, ht3] at q7
        refine ⟨v, ev, La, q2, ⟨_, .inl (.inl q4)⟩, fun D hD => ?_⟩
        refine ⟨fun i m H => m = es.length - i ∧ i ≤ es.length ∧ ∃ r' S' acc vs, r'.H = H ∧ Mk G r r' S' D acc vs ∧ Post G (Rep G) W σV r (evGs cl gc wd.fine wd.hds (es.drop i) acc.reverse σ S') Q, ⟨es.length, by simp, Nat.zero_le _, r.mk1 D [], S, [], [], rfl, Mk.start l hD, p0⟩, ?_⟩
        rintro i m H ⟨rfl, hi, r', S', acc, vs, rfl, mk, p⟩
        have lst : r'.H La = some (.lst (fs.map V.ref)) := (mk.ext.frz _ _ q4 q5 nt_lst).1
        have sq : SqL X.K r'.H La (fs.map V.ref) := .inl (.inl lst)
        have flen : fs.length = es.length := q6.trans hlen
        by_cases hlt : i < es.length
        · right
          have hfi : i < fs.length := by rw [flen]; exact hlt
          have hli : i < ls.length := by rw [hlen]; exact hlt
          have ef : (fs.map V.ref)[i]? = some (.ref fs[i]) := by rw [List.getElem?_map, List.getElem?_eq_getElem hfi]; rfl
          refine ⟨⟨_, _, sq, ef⟩, fun H' => ∃ r' S' acc vs, r'.H = H' ∧ Mk G r r' S' D acc vs ∧ Post G (Rep G) W σV r (evGs cl gc wd.fine wd.hds (es.drop (i + 1)) acc.reverse σ S') Q, fun H' q => ⟨es.length - (i + 1), by omega, rfl, hlt, q⟩, fun x H' ⟨eH, y⟩ => ?_⟩
          subst eH
          have ex := y _ sq
          rw [ef] at ex
          cases ex
          obtain ⟨c', k1, k2, k3, k4⟩ := q7 i fs[i] ls[i] (List.getElem?_eq_getElem hfi) (List.getElem?_eq_getElem hli)
          rw [List.drop_eq_getElem_cons hlt] at p
          unfold evGs at p
          refine ⟨fs[i], rfl, i, c', ls[i], es[i], σ, S', r', List.getElem?_eq_getElem hli, List.getElem?_eq_getElem hlt, rfl, mk.rl, s1.ext mk.ext, (mk.ext.frz _ _ k1 k2 lamO_ne).1, (mk.ext.frz _ _ k3 k4 codeO_ne).1, ?_⟩
          split at p
          · rename_i d S2 ed
            rw [ed]
            intro v r2 x2 l2 hv2
            have mk2 := mk.step x2 l2
            split at p
            · rename_i hz
              refine ⟨vs, mk2.at_, ?_, r2.mkW D (vs ++ [v]), S2, acc ++ [d], vs ++ [v], rfl, mk2.app hv2, ?_⟩
              · have := isOk hz
                rw [List.length_reverse] at this
                rw [← mk.rep.length, sizeLine_eq]
                exact Nat.lt_of_succ_le this
              · rw [List.reverse_append]
                exact p
            · exact False.elim p
          · exact False.elim p
        · left
          have e : i = es.length := by omega
          subst e
          refine ⟨⟨_, sq, by rw [List.length_map, flen]; exact Nat.le_refl _⟩, ?_⟩
          rw [List.drop_length] at p
          unfold evGs at p
          rw [List.reverse_reverse] at p
          obtain ⟨e1, l1, q1⟩ := mk.end_
          exact p (.ref D) (r'.mkE D) e1 l1 q1
    · exact False.elim p0
  · exact False.elim p0
end
end DL
end
section
set_option Elab.async false
set_option autoImplicit false
set_option linter.all false
set_option maxRecDepth 100000
set_option maxHeartbeats 2000000
/-! DLk: which expression says what a term says. -/
namespace DL
open PySem PySem.Spec PyProof.Rows L2 LamX LX

def tailE (op : BoolOp) (y : Expr) (rest : List Expr) (pos : Pos) : Expr := match rest with
  | [] => y
  | _ :: _ => .BoolOp op (y :: rest) pos
def locB (Γ : Cenv) (x : Str) : Bool := match Γ.sc.names.lookup x with
  | some .local => true
  | some .cell => (match Γ.so.names.lookup x with | some .cell => true | _ => false)
  | _ => false
def notSet : Expr → Bool
  | .Set _ _ _ => false
  | _ => true
def plainB : Expr → Bool
  | .Slice _ _ _ _ => false
  | _ => true
/-- tests that look at the whole value -/
def wholeB : Expr → Bool
  | .UnaryOp .Not _ _ => false
  | .BoolOp _ _ _ => false
  | .IfExp _ _ _ _ => false
  | .Compare _ _ _ _ => false
  | _ => true
/-- what a for-loop reads itself -/
def notSetI : Expr → Bool
  | .Set _ _ _ => false
  | _ => true
def strEq (x : Str) (y : List Nat) : Bool := decide (x = txt y)
def chkCon : D → Expr → Bool
  | .non, .Constant .none _ _ => true
  | .bl b, .Constant (.bool c) _ _ => b == c
  | .int i, .Constant (.int j) _ _ => decide (i = j)
  | .str x, .Constant (.str y) _ _ => strEq y x
  | _, _ => false
def opB (o : Op) (p : Operator) : Bool := match o, p with
  | .add, .Add => true
  | .sub, .Sub => true
  | .mul, .Mult => true
  | .fdiv, .FloorDiv => true
  | .mod, .Mod => true
  | .pow, .Pow => true
  | _, _ => false
def cpB (o : Cp) (p : CmpOp) : Bool := match o, p with
  | .eq, .Eq => true
  | .ne, .NotEq => true
  | .lt, .Lt => true
  | .le, .LtE => true
  | .gt, .Gt => true
  | .ge, .GtE => true
  | .is, .Is => true
  | .isn, .IsNot => true
  | .inn, .In => true
  | .nin, .NotIn => true
  | _, _ => false
def biB (b : Bi) (x : Str) : Bool := match b with
  | .abs => decide (x = "abs")
  | .all => decide (x = "all")
  | .any => decide (x = "any")
  | .divmod => decide (x = "divmod")
  | .int => decide (x = "int")
  | .bool => decide (x = "bool")
  | .str => decide (x = "str")
  | .len => decide (x = "len")
  | .list => decide (x = "list")
  | .tuple => decide (x = "tuple")
  | .max => decide (x = "max")
  | .min => decide (x = "min")
  | .minl => decide (x = "min")
  | .isi _ => false
  | .repr => decide (x = "repr")
  | .sum => decide (x = "sum")
def tysB (Γ : Cenv) (ts : List Ty) : Expr → Bool
  | .Name x _ => (match ts with | [t] => decide (x = tyS t) && decide (t ≠ .non) && glB Γ.sc (tyS t) | _ => false)
  | .Tuple es _ _ => tyNames ts es && Nat.ble ts.length 100 && ts.all (fun t => glB Γ.sc (tyS t))
  | _ => false
def ownP (Γ : Cenv) (own : List Nat) : List (Str × Nat) := own.filterMap fun i => (Γ.N[i]?).map fun x => (x, i)
def Cenv.blk (Γ : Cenv) (scope : Scope) : Cenv := { Γ with sc := relS scope Γ.sc, so := scope, top := false }
/-- what a block of kept calls names -/
def wordScope (sc : Scope) : Bool := kindFn sc && sc.names.all (fun z => !decide (z.2 = .free) && !decide (z.2 = .cell) && (!decide (z.2 = .local) || decide (sc.names.lookup z.1 = some .local)))
def isTup : Expr → Bool
  | .Tuple _ _ _ => true
  | _ => false
def ownOk (Γ : Cenv) (scope : Scope) (tg : Tg) (own : List Nat) : Bool := decide ((ownP Γ own).map (·.2) = own) && blkC Γ.N Γ.sc scope (ownP Γ own) && (tgSlots tg).all (fun i => decide (i ∈ own))
def notCall : Expr → Bool
  | .Call _ _ _ _ => false
  | _ => true
theorem base_of {o : Expr} {name : Str} {env : PySem.Env} (h : notCall o = true) : attributeBase o name env (eval o env) = eval o env := by
  cases o <;> first | rfl | cases h
mutual
def chkTg : Tg → Cenv → Expr → Bool
  | .nm i, Γ, e => (match e with | .Name x _ => decide (Γ.N[i]? = some x) && locB Γ x && decide (i ∉ Γ.ls) | _ => false)
  | .tp ts, Γ, e => (match e with | .Tuple es _ _ => chkTgs ts Γ es | _ => false)
  | .sub _ _, _, _ => false
  | .att _ _, _, _ => false
def chkTgs : List Tg → Cenv → List Expr → Bool
  | [], _, es => (match es with | [] => true | _ => false)
  | t :: ts, Γ, es => (match es with | e :: es => noStar e && chkTg t Γ e && chkTgs ts Γ es | _ => false)
end
def isStarE : E → Bool
  | .star _ => true
  | _ => false
mutual
def chkE : E → Cenv → Expr → Bool
  | .slot i, Γ, e => (match e with | .Name x _ => decide (Γ.N[i]? = some x) && visB Γ.sc x && okN x && decide (i ∉ Γ.ls) | _ => false)
  | .star _, _, _ => false
  | .con d, _, e => chkCon d e
  | .gcon k, Γ, e => (match e with | .Name x _ => decide (Γ.cons[k]? = some x) && glB Γ.sc x && okN x | _ => false)
  | .tup es, Γ, e => (match e with | .Tuple xs _ _ => chkEs es Γ xs | _ => false)
  | .lst es, Γ, e => (match e with | .List xs _ => chkEs es Γ xs | _ => false)
  | .new es, Γ, e => (match e with | .List xs _ => chkEs es Γ xs | _ => false)
  | .dict0, _, e => (match e with | .Dict [] [] _ => true | _ => false)
  | .join o a, Γ, e => (match e with | .Call (.Attribute x n apos) [y] [] cpos => decide (n = "join") && (apos.endLine == cpos.line) && noStar y && notCall x && chkE o Γ x && chkE a Γ y | _ => false)
  | .mk _, _, _ => false
  | .attr _ _, _, _ => false
  | .mcall _ _ _ _, _, _ => false
  | .make _ _ _, _, _ => false
  | .compL _ _ _ _ _, _, _ => false
  | .dcomp _ _ _ _ _, _, _ => false
  | .bin o a b, Γ, e => (match e with | .BinOp x p y _ => opB o p && chkE a Γ x && chkE b Γ y | _ => false)
  | .neg a, Γ, e => (match e with | .UnaryOp .USub x _ => chkE a Γ x | _ => false)
  | .cmp o a b, Γ, e => (match e with | .Compare x [p] [y] _ => cpB o p && chkE a Γ x && chkE b Γ y && notSet y | _ => false)
  | .chain o o' a b c, Γ, e => (match e with | .Compare x [p, q] [y, z] _ => cpB o p && cpB o' q && chkE a Γ x && chkE b Γ y && chkE c Γ z && notSet z | _ => false)
  | .notE a, Γ, e => (match e with | .UnaryOp .Not x _ => chkE a Γ x | _ => false)
  | .ite t a b, Γ, e => (match e with | .IfExp c x y _ => chkT t Γ c && chkE a Γ x && chkE b Γ y | _ => false)
  | .and a b, Γ, e => (match e with | .BoolOp .And (x :: y :: rest) pos => chkE a Γ x && chkE b Γ (tailE .And y rest pos) | _ => false)
  | .or a b, Γ, e => (match e with | .BoolOp .Or (x :: y :: rest) pos => chkE a Γ x && chkE b Γ (tailE .Or y rest pos) | _ => false)
  | .idx a i, Γ, e => (match e with | .Subscript x y _ => plainB y && chkE a Γ x && chkE i Γ y | _ => false)
  | .slc a lo hi, Γ, e => (match e with | .Subscript x (.Slice l h none _) _ => chkE a Γ x && chkO lo Γ l && chkO hi Γ h | _ => false)
  | .rev a, Γ, e => (match e with | .Subscript x (.Slice none none (some (.UnaryOp .USub (.Constant (.int i) _ _) _)) _) _ => decide (i = 1) && chkE a Γ x | _ => false)
  | .call g es, Γ, e => (match e with
    | .Call (.Name x _) [] [] _ => es.isEmpty && decide (Γ.fns[g]? = some (some x)) && glB Γ.sc x && okN x
    | .Call (.Name x _) (y :: ys) [] _ => decide (Γ.fns[g]? = some (some x)) && glB Γ.sc x && okN x && (y :: ys).all noStar && chkEs es Γ (y :: ys) | _ => false)
  | .gfn g, Γ, e => (match e with | .Name x _ => decide (Γ.fns[g]? = some (some x)) && glB Γ.sc x && okN x | _ => false)
  | .callv i es lb, Γ, e => (match e with | .Call (.Name x _) (y :: ys) [] _ => (decide (i ∉ Γ.ls) || (Γ.capok && chkLv lb Γ Γ.lv es.length)) && decide (Γ.N[i]? = some x) && visB Γ.sc x && okN x && (y :: ys).all noStar && chkEs es Γ (y :: ys) | _ => false)
  | .guard fine hs b, Γ, e => (match e, Γ.wd with
    | .Call (.Name x _) [.Lambda params body scope _] [] _, some wd => Γ.mkl && decide (x = wd.x) && decide (fine = wd.fine) && decide (hs = wd.hds) && glB Γ.sc x && okN x && lamSB Γ.sc scope && noPar params && chkE b (Γ.lam scope) body
    | _, _ => false)
  | .guards fine hs i k es, Γ, e => (match e, Γ.wd, Γ.lt[k]? with
    | .ListComp (.Call (.Name x _) [.Name c2 _] [] _) [⟨.Name c _, .Name y _, [], 0⟩] scope _, some wd, some ls => Γ.mkl && Γ.top && decide (x = wd.x) && decide (fine = wd.fine) && decide (hs = wd.hds) && decide (c2 = c) && decide (Γ.N[i]? = some y) && visB Γ.sc y && okN y && decide (i ∈ Γ.ls) &&
      wordScope scope && decide (scope.names.lookup c = some .local) && decide (scope.names.lookup x = some .globalImplicit) && okN x && okN c && chkLs es Γ ls
    | _, _, _ => false)
  | .bi b es, Γ, e => (match e with | .Call (.Name x _) (y :: ys) [] _ => (match b with
      | .isi ts => (match ys, es with | [c], [a] => decide (x = "isinstance") && glB Γ.sc "isinstance" && noStar y && tysB Γ ts c && chkE a Γ y | _, _ => false)
      | _ => biB b x && glB Γ.sc x && (y :: ys).all noStar && chkEs es Γ (y :: ys)) | _ => false)
  | .mth m o es, Γ, e => (match m, es, e with
    | .split, [a], .Call (.Attribute x n apos) [y] [] cpos => decide (n = "split") && (apos.endLine == cpos.line) && noStar y && notCall x && chkE o Γ x && chkE a Γ y
    | _, _, _ => false)
  | .comp tg it c el own, Γ, e => (match e with | .ListComp elt [⟨te, ie, ifs, 0⟩] scope _ => ownOk Γ scope tg own && chkTg tg (Γ.blk scope) te && chkI it Γ te ie && chkC c (Γ.blk scope) ifs && chkE el (Γ.blk scope) elt && notSetI ie | _ => false)
def chkLv : List E → Cenv → List LamA → Nat → Bool
  | [], _, ls, _ => (match ls with | [] => true | _ => false)
  | e :: es, Γ, ls, n => (match ls with
    | lam :: ls => (isStarE e || (match parsP lam.params with | some ps => Nat.beq ps.length n && noFree lam.scope && lamPB lam.scope lam.scope ps && decide ps.Nodup && chkE e (Γ.lamN lam.scope ps) lam.body | none => false)) && chkLv es Γ ls n
    | _ => false)
def chkLs : List E → Cenv → List LamA → Bool
  | [], _, ls => (match ls with | [] => true | _ => false)
  | e :: es, Γ, ls => (match ls with | lam :: ls => lamSB Γ.sc lam.scope && noPar lam.params && chkE e (Γ.lam lam.scope) lam.body && chkLs es Γ ls | _ => false)
def chkC : Option T → Cenv → List Expr → Bool
  | none, _, ifs => (match ifs with | [] => true | _ => false)
  | some t, Γ, ifs => (match ifs with | [c] => chkT t Γ c | _ => false)
def chkO : Option E → Cenv → Option Expr → Bool
  | none, _, o => (match o with | none => true | _ => false)
  | some a, Γ, o => (match o with | some x => chkE a Γ x | none => false)
def chkEs : List E → Cenv → List Expr → Bool
  | [], _, xs => (match xs with | [] => true | _ => false)
  | .star e :: es, Γ, xs => (match xs with | .Starred x _ :: xs => chkE e Γ x && chkEs es Γ xs | _ => false)
  | e :: es, Γ, xs => (match xs with | x :: xs => noStar x && chkE e Γ x && chkEs es Γ xs | _ => false)
def chkT : T → Cenv → Expr → Bool
  | .not t, Γ, e => (match e with | .UnaryOp .Not x _ => chkT t Γ x | _ => false)
  | .and t u, Γ, e => (match e with | .BoolOp .And (x :: y :: rest) pos => chkT t Γ x && chkT u Γ (tailE .And y rest pos) | _ => false)
  | .or t u, Γ, e => (match e with | .BoolOp .Or (x :: y :: rest) pos => chkT t Γ x && chkT u Γ (tailE .Or y rest pos) | _ => false)
  | .cmp o a b, Γ, e => (match e with | .Compare x [p] [y] _ => cpB o p && chkE a Γ x && chkE b Γ y && notSet y | _ => false)
  | .chain o o' a b c, Γ, e => (match e with | .Compare x [p, q] [y, z] _ => cpB o p && cpB o' q && chkE a Γ x && chkE b Γ y && chkE c Γ z && notSet z | _ => false)
  | .val a, Γ, e => wholeB e && chkE a Γ e
def chkI : I → Cenv → Expr → Expr → Bool
  | .seq a, Γ, _, e => chkE a Γ e
  | .rng1 a, Γ, _, e => (match e with | .Call (.Name x _) [p] [] _ => decide (x = "range") && glB Γ.sc "range" && noStar p && chkE a Γ p | _ => false)
  | .rng2 a b, Γ, _, e => (match e with | .Call (.Name x _) [p, q] [] _ => decide (x = "range") && glB Γ.sc "range" && noStar p && noStar q && chkE a Γ p && chkE b Γ q | _ => false)
  | .rng3 a b c, Γ, _, e => (match e with | .Call (.Name x _) [p, q, s] [] _ => decide (x = "range") && glB Γ.sc "range" && noStar p && noStar q && noStar s && chkE a Γ p && chkE b Γ q && chkE c Γ s | _ => false)
  | .zip a b, Γ, tg, e => isTup tg && (match e with | .Call (.Name x _) [p, q] [] _ => decide (x = "zip") && glB Γ.sc "zip" && noStar p && noStar q && chkE a Γ p && chkE b Γ q | _ => false)
  | .enumz a b, Γ, tg, e => isTup tg && (match e with | .Call (.Name x _) [.Call (.Name y _) [p, q] [] _] [] _ => decide (x = "enumerate") && decide (y = "zip") && glB Γ.sc "enumerate" && glB Γ.sc "zip" && noStar p && noStar q && chkE a Γ p && chkE b Γ q | _ => false)
  | .enum a, Γ, tg, e => isTup tg && (match e with | .Call (.Name x _) [p] [] _ => decide (x = "enumerate") && glB Γ.sc "enumerate" && noStar p && chkE a Γ p | _ => false)
end

theorem bs_repr {X : Cx} {G : Glob} (hK : X.K = G.K) (hg : X.A.guards = some []) (hu : X.A.units + 64 < cLine) : BS G X (.builtin "repr") .repr := by
  refine ⟨_, LX.call_repr hg hu, fun W σV ds S r vs Q l hs p => ?_⟩
  cases hs with
  | nil => exact False.elim p
  | cons h1 h2 =>
    cases h2 with
    | cons _ _ => exact False.elim p
    | nil =>
      rename_i d v
      have p : Post G (Rep G) W σV r (reprO d S) Q := p
      unfold reprO at p
      split at p
      · rename_i t e
        exact ⟨v, txt t, rfl, by rw [hK]; exact repr_ok h1 e, Post.here p l (.str _)⟩
      · exact False.elim p
section
variable {X : Cx} {G : Glob} {W : WX} {cl : Cl} {gc : List D} {Γ : Cenv}
theorem PE.cast {e : Expr} {f g : Env → Store → Out D} (h : PE X e (tD G W f)) (q : ∀ σ S, g σ S = f σ S) : PE X e (tD G W g) := by
  have : g = f := funext fun σ => funext (q σ)
  rw [this]; exact h
theorem PT.cast {e : Expr} {f g : Env → Store → Out Bool} (h : PT X e (tT G W f)) (q : ∀ σ S, g σ S = f σ S) : PT X e (tT G W g) := by
  have : g = f := funext fun σ => funext (q σ)
  rw [this]; exact h
theorem PI.cast {tg e : Expr} {f g : Env → Store → Out (List D)} (h : PI X tg e (tI G W f)) (q : ∀ σ S, g σ S = f σ S) : PI X tg e (tI G W g) := by
  have : g = f := funext fun σ => funext (q σ)
  rw [this]; exact h
theorem PA.cast {es : List Expr} {f g : Env → Store → Out (List D)} (h : PA X es (tDs G W f)) (q : ∀ σ S, g σ S = f σ S) : PA X es (tDs G W g) := by
  have : g = f := funext fun σ => funext (q σ)
  rw [this]; exact h
theorem opB_eq {o : Op} {p : Operator} (h : opB o p = true) : p = opA o := by
  cases o <;> cases p <;> first | rfl | cases h
theorem cpB_eq {o : Cp} {p : CmpOp} (h : cpB o p = true) : p = cpA o := by
  cases o <;> cases p <;> first | rfl | cases h
theorem marks_of {o : CmpOp} {e : Expr} (h : notSet e = true) : behindInMarks o e = false := by
  cases e <;> first | rfl | cases h
theorem lastMarks_of {o p : CmpOp} {b e : Expr} (h : notSet e = true) : lastMarks [o, p] [b, e] = false := by
  show behindInMarks p e = false
  exact marks_of h
theorem plain_of {e : Expr} (h : plainB e = true) : PlainIx e := by
  cases e <;> first | exact fun _ _ => rfl | cases h
theorem whole_of {e : Expr} (h : wholeB e = true) (env : PySem.Env) : ∀ whole, isTrue e env whole = (do let v ← whole; standAt e.pos; holding [v] (truthy v)) := by
  cases e with
  | UnaryOp op _ _ => cases op <;> first | exact fun _ => rfl | cases h
  | BoolOp _ _ _ => cases h
  | IfExp _ _ _ _ => cases h
  | Compare _ _ _ _ => cases h
  | _ => exact fun _ => rfl
theorem setI_of {e : Expr} (h : notSetI e = true) (env : PySem.Env) : ∀ x, foldedSetIterable e env x = pure x := by
  cases e <;> first | exact fun _ => rfl | cases h
theorem XOk.fnAt (h : XOk G Γ X W cl gc) {g : Nat} {x : Str} (q : Γ.fns[g]? = some (some x)) : ∃ n, Room n X.A ∧ X.mg x = some (.ref (G.fnA g)) ∧ PySem.W.keepIn X.K (.ref (G.fnA g)) = true ∧ ∃ fd ps, FnG X.prog X.w X.K X.mg X.base n (G.fnA g) fd ps (spD G cl g) ∧ Binds X.K fd ps [] := by
  obtain ⟨n, hr, _, _, hf⟩ := h.fns
  have hg : g < G.nF := by rw [h.nF]; exact (List.getElem?_eq_some_iff.mp q).1
  obtain ⟨k, fd, ps, F, hb⟩ := hf g hg
  exact ⟨n, hr.mono (Nat.le_succ n), h.gn g x q, k, fd, ps, F, hb⟩
theorem XOk.gl (h : XOk G Γ X W cl gc) {x : Str} (q : glB Γ.sc x = true) : Gl X x := gl_of (by rw [h.sc]; exact q)
theorem XOk.blk (h : XOk G Γ X W cl gc) (scope : Scope) (s : Shared) (H : Hp) (C : Addr) (cs : List (Str × Addr)) (fp : List Addr) : XOk G (Γ.blk scope) (X.blk s H scope (compEnvC scope cs C X.env) fp) W0 cl gc where
  hK := h.hK
  hN := h.hN
  nd := h.nd
  sc := by show relS scope X.env.scope = relS scope Γ.sc; rw [h.sc]
  fn := fun x e => by show (scope.names.lookup x == some NameKind.cell) = true; have e : scope.names.lookup x = some .cell := e; rw [e]; rfl
  calm := h.calm
  un := h.un
  dig := h.dig
  tk := L2.takes0
  gd := h.gd
  fns := h.fns
  gn := h.gn
  nF := h.nF
  cons := h.cons
  blt := h.blt
  ls := h.ls
  lam := fun e => by cases e
  lv := h.lv
  cap0 := h.cap0
  cls := h.cls
  mkl := fun e => let ⟨c, P, M⟩ := h.mkl e; ⟨c, P, M.tb, M.code, M.mem, M.uni⟩
  wd := fun w e => let ⟨g, cdv, sg, bg, cA, k⟩ := h.wd w e; ⟨g, cdv, sg, bg, cA, k.mg, k.kp, ⟨k.ww.lk, k.ww.cd, k.ww.sc, k.ww.va⟩, k.gives, k.d1, k.d2, k.hd⟩
  ex := fun c x e => let k := h.ex c x e; ⟨k.mg, k.kp, k.rs, k.lt, k.how⟩
  exf := h.exf
theorem chkCon_ok {d : D} {e : Expr} (h : chkCon d e = true) : PE X e (tD G W (fun _ S => .ok d S)) := by
  unfold chkCon at h
  split at h
  · exact n_con pe_non fun _ => .non
  · have := eq_of_beq h; subst this; exact n_con pe_bl fun _ => .bl _
  · have := of_decide_eq_true h; subst this; exact n_con pe_int fun _ => .int _
  · have := of_decide_eq_true h; subst this; exact n_con pe_str fun _ => .str _
  · cases h
mutual
theorem okTg (h : XOk G Γ X W cl gc) : ∀ (t : Tg) (e : Expr), chkTg t Γ e = true → PG X e (gD G (tgSlots t) (asg t))
  | .nm i, e, q => by
    unfold chkTg at q
    split at q
    · rename_i x pos
      rw [Bool.and_eq_true, Bool.and_eq_true] at q
      have hi := of_decide_eq_true q.1.1
      have q2 := q.1.2
      have hnl : i ∉ G.F.ls := by rw [← h.ls]; exact of_decide_eq_true q.2
      have hl : Loc X.env.scope x ∧ (X.fn x = true ∨ X.env.scope.names.lookup x = some .local) := by
        rw [h.sc]
        unfold locB at q2
        split at q2
        · rename_i e1
          exact ⟨.inl e1, .inr e1⟩
        · rename_i e1
          split at q2
          · rename_i e2
            exact ⟨.inr e1, .inl (h.fn _ e2)⟩
          · cases q2
        · cases q2
      exact gd_name hnl (h.nc i) (by rw [h.hN]; exact h.nd) (by rw [h.hN]; exact hi) hl.1 hl.2
    · cases q
  | .tp ts, e, q => by
    unfold chkTg at q
    split at q
    · obtain ⟨h1, h2, h3, h4⟩ := okTgs h ts _ q
      exact gd_tup h.hK h.calm h1 h2 h3 h4
    · cases q
  | .sub _ _, e, q => by unfold chkTg at q; cases q
theorem okTgs (h : XOk G Γ X W cl gc) : ∀ (ts : List Tg) (es : List Expr), chkTgs ts Γ es = true → PGs X es (gDs G (tgsSlots ts) (asgs ts)) ∧ ts.length = es.length ∧ (assignEach es X.env).length = es.length ∧ (assignEach es X.env).findIdx? (·.1) = none
  | [], es, q => by
    unfold chkTgs at q
    split at q
    · exact ⟨gd_nil, rfl, rfl, rfl⟩
    · cases q
  | t :: ts, es, q => by
    unfold chkTgs at q
    split at q
    · rename_i e es
      simp only [Bool.and_eq_true] at q
      obtain ⟨h1, h2, h3, h4⟩ := okTgs h ts es q.2
      have e1 : assignEach (e :: es) X.env = (false, assign e X.env) :: assignEach es X.env := by
        have z := q.1.1
        cases e <;> first | rfl | cases z
      refine ⟨gd_cons (okTg h t e q.1.2) h1 (by rw [e1]; rfl), by simp [h2], by rw [e1]; simp [h3], by rw [e1, List.findIdx?_cons]; simp [h4]⟩
    · cases q
end
theorem bltM {x : Str} (h : XOk G Γ X W cl gc) (q : x ∈ bltNames) : X.mg x = none := h.blt x q
theorem own_nd {own : List Nat} {scope : Scope} {tg : Tg} (h : XOk G Γ X W cl gc) (q : ownOk Γ scope tg own = true) : BlkOk X.N X.env.scope scope (ownP Γ own) ∧ (ownP Γ own).map (·.2) = own ∧ ∀ i ∈ tgSlots tg, i ∈ own := by
  unfold ownOk at q
  simp only [Bool.and_eq_true, decide_eq_true_eq, List.all_eq_true] at q
  exact ⟨by rw [h.hN, h.sc]; exact blkOk_by q.1.2, q.1.1, q.2⟩
theorem tail_pe {op : BoolOp} {y : Expr} {rest : List Expr} {pos : Pos} {t : TE} (h : PE X (tailE op y rest pos) t) : PE X (.BoolOp op (y :: rest) pos) t := by
  cases rest with
  | nil => exact pe_one h
  | cons a b => exact h
theorem tail_and {y : Expr} {rest : List Expr} {pos : Pos} {t : TT} (h : PT X (tailE .And y rest pos) t) : PW X (.BoolOp .And (y :: rest) pos) t := by
  cases rest with
  | nil => exact pw_and1 h
  | cons a b => exact pw_bool h
theorem tail_or {y : Expr} {rest : List Expr} {pos : Pos} {t : TT} (h : PT X (tailE .Or y rest pos) t) : PW X (.BoolOp .Or (y :: rest) pos) t := by
  cases rest with
  | nil => exact pw_or1 h
  | cons a b => exact pw_bool h
theorem bi_ok (h : XOk G Γ X W cl gc) {b : Bi} {x : Str} (q : biB b x = true) (hg : Gl X x) {es : List Expr} {fs : Env → Store → Out (List D)} {p pos : Pos} (hs : PA X es (tDs G W fs)) (hn : es.all noStar = true) (hne : es ≠ []) :
    PE X (.Call (.Name x p) es [] pos) (tD G W (fun σ S => (fs σ S).bind fun ds S => bi b ds S)) := by
  have mem : ∀ {y : Str}, y ∈ bltNames → X.mg y = none := fun hy => h.blt _ hy
  cases b with
  | abs => have := of_decide_eq_true q; subst this; exact n_biB bs_abs hg (mem (by simp [bltNames])) rfl (by decide) (by decide) hs hn hne
  | all => have := of_decide_eq_true q; subst this; exact n_biB (bs_all h.hK h.calm) hg (mem (by simp [bltNames])) rfl (by decide) (by decide) hs hn hne
  | any => have := of_decide_eq_true q; subst this; exact n_biB (bs_any h.hK h.calm) hg (mem (by simp [bltNames])) rfl (by decide) (by decide) hs hn hne
  | divmod => have := of_decide_eq_true q; subst this; exact n_biB bs_divmod hg (mem (by simp [bltNames])) rfl (by decide) (by decide) hs hn hne
  | int => have := of_decide_eq_true q; subst this; exact n_biT (bs_int h.dig) hg (mem (by simp [bltNames])) rfl (by decide) (by decide) hs hn hne
  | bool => have := of_decide_eq_true q; subst this; exact n_biT bs_bool hg (mem (by simp [bltNames])) rfl (by decide) (by decide) hs hn hne
  | str => have := of_decide_eq_true q; subst this; exact n_biT bs_str hg (mem (by simp [bltNames])) rfl (by decide) (by decide) hs hn hne
  | len => have := of_decide_eq_true q; subst this; exact n_biB (bs_len h.hK) hg (mem (by simp [bltNames])) rfl (by decide) (by decide) hs hn hne
  | list => have := of_decide_eq_true q; subst this; exact n_biT (bs_list h.hK) hg (mem (by simp [bltNames])) rfl (by decide) (by decide) hs hn hne
  | tuple => have := of_decide_eq_true q; subst this; exact n_biT (bs_tuple h.hK) hg (mem (by simp [bltNames])) rfl (by decide) (by decide) hs hn hne
  | max => have := of_decide_eq_true q; subst this; exact n_biB (bs_max h.calm) hg (mem (by simp [bltNames])) rfl (by decide) (by decide) hs hn hne
  | min => have := of_decide_eq_true q; subst this; exact n_biB (bs_min h.calm) hg (mem (by simp [bltNames])) rfl (by decide) (by decide) hs hn hne
  | minl => have := of_decide_eq_true q; subst this; exact n_biB (bs_minl h.hK h.calm) hg (mem (by simp [bltNames])) rfl (by decide) (by decide) hs hn hne
  | isi ts => cases q
  | sum => have := of_decide_eq_true q; subst this; exact n_biB (bs_sum h.hK h.calm) hg (mem (by simp [bltNames])) rfl (by decide) (by decide) hs hn hne
  | repr => have := of_decide_eq_true q; subst this; exact n_biB (bs_repr h.hK h.gd h.un) hg (mem (by simp [bltNames])) rfl (by decide) (by decide) hs hn hne
theorem isi_ok (h : XOk G Γ X W cl gc) {ts : List Ty} {y c : Expr} {fa : Env → Store → Out D} {p pos : Pos} (hg : glB Γ.sc "isinstance" = true) (hn : noStar y = true) (q : tysB Γ ts c = true) (ha : PE X y (tD G W fa)) :
    PE X (.Call (.Name "isinstance" p) [y, c] [] pos) (tD G W (fun σ S => (fa σ S).bind fun x S => isD ts x S)) := by
  have hm : X.mg "isinstance" = none := h.blt _ (by simp [bltNames])
  unfold tysB at q
  split at q
  · split at q
    · simp only [Bool.and_eq_true, decide_eq_true_eq] at q
      obtain ⟨⟨rfl, q2⟩, q3⟩ := q
      exact n_isi1 h.hK q2 (h.gl hg) hm (h.gl q3) (h.blt _ (blt_ty q2)) ha hn
    · cases q
  · simp only [Bool.and_eq_true, List.all_eq_true] at q
    exact n_isiT h.hK q.1.1 (isOk q.1.2) (h.gl hg) hm (fun t ht => ⟨h.gl (q.2 t ht), h.blt _ (blt_ty (tys_non q.1.1 t ht))⟩) ha hn
  · cases q
end
end DL
end
section
set_option Elab.async false
set_option autoImplicit false
set_option linter.all false
set_option maxRecDepth 100000
set_option maxHeartbeats 2000000
/-! DLl: a checked expression does what its term tells. -/
namespace DL
open PySem PySem.Spec PyProof.Rows L2 LamX LX
section
variable {cl : Cl} {gc : List D}
theorem okEsC {G : Glob} {e : E} {es : List E} {Γ : Cenv} {X : Cx} {W : WX} (h : XOk G Γ X W cl gc) {xs : List Expr} (ns : ∀ z, e = .star z → False) (h1 : ∀ x, chkE e Γ x = true → PE X x (tD G W (evE cl gc e))) (h2 : ∀ xs, chkEs es Γ xs = true → PA X xs (tDs G W (evEs cl gc es)))
    (q : chkEs (e :: es) Γ xs = true) : PA X xs (tDs G W (evEs cl gc (e :: es))) := by
  cases xs with
  | nil =>
    exfalso
    cases e <;> first | exact ns _ rfl | (unfold chkEs at q; cases q)
  | cons x xs =>
    have q2 : (noStar x && chkE e Γ x && chkEs es Γ xs) = true := by
      cases e <;> first | exact absurd rfl (ns _) | (unfold chkEs at q; exact q)
    simp only [Bool.and_eq_true] at q2
    refine PA.cast (n_cons (h1 _ q2.1.2) (h2 _ q2.2) q2.1.1) fun σ S => ?_
    rw [evEs]
    exact ns
mutual
theorem okE : ∀ (e : E) {G : Glob} {Γ : Cenv} {X : Cx} {W : WX} (h : XOk G Γ X W cl gc) (x : Expr), chkE e Γ x = true → PE X x (tD G W (evE cl gc e))
  | .slot i, G, Γ, X, W, h, x, q => by
    unfold chkE at q
    split at q
    · simp only [Bool.and_eq_true, decide_eq_true_eq] at q
      exact n_slot (by rw [← h.ls]; exact q.2) (by rw [h.hN]; exact q.1.1.1) (by rw [h.sc]; exact vis_of q.1.1.2) q.1.2 cl gc
    · cases q
  | .star _, G, Γ, X, W, h, x, q => by unfold chkE at q; cases q
  | .con d, G, Γ, X, W, h, x, q => by
    unfold chkE at q
    exact PE.cast (chkCon_ok q) fun σ S => by rw [evE] <;> rfl
  | .gcon k, G, Γ, X, W, h, x, q => by
    unfold chkE at q
    split at q
    · rename_i y pos
      simp only [Bool.and_eq_true, decide_eq_true_eq] at q
      cases e : gc[k]? with
      | none =>
        refine ⟨fun pins s σ H Q I ⟨σ1, S, r, e1, l, s1, p⟩ => ?_⟩
        rw [evE, e] at p
        exact False.elim p
      | some d =>
        obtain ⟨u, v, h1, h2, h3⟩ := h.cons k _ d q.1.1 e
        exact PE.cast (n_con (pe_glob (h.gl q.1.2) h1 h2 (okN_d q.2)) h3) fun σ S => by rw [evE, e]
    · cases q
  | .tup es, G, Γ, X, W, h, x, q => by
    unfold chkE at q
    split at q
    · exact PE.cast (n_tup (okEs es h _ q)) fun σ S => by rw [evE] <;> rfl
    · cases q
  | .lst es, G, Γ, X, W, h, x, q => by
    unfold chkE at q
    split at q
    · exact PE.cast (n_lst (okEs es h _ q)) fun σ S => by rw [evE] <;> rfl
    · cases q
  | .new es, G, Γ, X, W, h, x, q => by
    unfold chkE at q
    split at q
    · exact PE.cast (n_new (okEs es h _ q)) fun σ S => by rw [evE] <;> rfl
    · cases q
  | .dict0, G, Γ, X, W, h, x, q => by
    unfold chkE at q
    split at q
    · exact PE.cast n_dict0 fun σ S => by rw [evE]
    · cases q
  | .join o a, G, Γ, X, W, h, x, q => by
    unfold chkE at q
    split at q
    · simp only [Bool.and_eq_true, decide_eq_true_eq] at q
      obtain ⟨⟨⟨⟨⟨rfl, q1⟩, q2⟩, q3⟩, q4⟩, q5⟩ := q
      exact PE.cast (n_join h.hK (okE o h _ q4) (okE a h _ q5) q2 (base_of q3) q1) fun σ S => by rw [evE] <;> rfl
    · cases q
  | .mk _, G, Γ, X, W, h, x, q => by unfold chkE at q; cases q
  | .attr _ _, G, Γ, X, W, h, x, q => by unfold chkE at q; cases q
  | .mcall _ _ _ _, G, Γ, X, W, h, x, q => by unfold chkE at q; cases q
  | .make _ _ _, G, Γ, X, W, h, x, q => by unfold chkE at q; cases q
  | .compL _ _ _ _ _, G, Γ, X, W, h, x, q => by unfold chkE at q; cases q
  | .dcomp _ _ _ _ _, G, Γ, X, W, h, x, q => by unfold chkE at q; cases q
  | .bin o a b, G, Γ, X, W, h, x, q => by
    unfold chkE at q
    split at q
    · simp only [Bool.and_eq_true] at q
      have := opB_eq q.1.1
      subst this
      exact PE.cast (n_bin h.hK (okE a h _ q.1.2) (okE b h _ q.2)) fun σ S => by rw [evE] <;> rfl
    · cases q
  | .neg a, G, Γ, X, W, h, x, q => by
    unfold chkE at q
    split at q
    · exact PE.cast (n_neg (okE a h _ q)) fun σ S => by rw [evE] <;> rfl
    · cases q
  | .cmp o a b, G, Γ, X, W, h, x, q => by
    unfold chkE at q
    split at q
    · simp only [Bool.and_eq_true] at q
      have := cpB_eq q.1.1.1
      subst this
      exact PE.cast (n_cmp h.hK h.un (okE a h _ q.1.1.2) (okE b h _ q.1.2) (marks_of q.2)) fun σ S => by rw [evE] <;> rfl
    · cases q
  | .chain o o' a b c, G, Γ, X, W, h, x, q => by
    unfold chkE at q
    split at q
    · simp only [Bool.and_eq_true] at q
      have := cpB_eq q.1.1.1.1.1
      subst this
      have := cpB_eq q.1.1.1.1.2
      subst this
      exact PE.cast (n_chain h.hK h.un (okE a h _ q.1.1.1.2) (okE b h _ q.1.1.2) (okE c h _ q.1.2) (lastMarks_of q.2)) fun σ S => by rw [evE] <;> rfl
    · cases q
  | .notE a, G, Γ, X, W, h, x, q => by
    unfold chkE at q
    split at q
    · exact PE.cast (n_notE h.hK (okE a h _ q)) fun σ S => by rw [evE] <;> rfl
    · cases q
  | .ite t a b, G, Γ, X, W, h, x, q => by
    unfold chkE at q
    split at q
    · simp only [Bool.and_eq_true] at q
      exact PE.cast (n_ite (okT t h _ q.1.1) (okE a h _ q.1.2) (okE b h _ q.2)) fun σ S => by rw [evE] <;> rfl
    · cases q
  | .and a b, G, Γ, X, W, h, x, q => by
    unfold chkE at q
    split at q
    · simp only [Bool.and_eq_true] at q
      exact PE.cast (n_and h.hK (okE a h _ q.1) (tail_pe (okE b h _ q.2))) fun σ S => by rw [evE] <;> rfl
    · cases q
  | .or a b, G, Γ, X, W, h, x, q => by
    unfold chkE at q
    split at q
    · simp only [Bool.and_eq_true] at q
      exact PE.cast (n_or h.hK (okE a h _ q.1) (tail_pe (okE b h _ q.2))) fun σ S => by rw [evE] <;> rfl
    · cases q
  | .idx a i, G, Γ, X, W, h, x, q => by
    unfold chkE at q
    split at q
    · simp only [Bool.and_eq_true] at q
      exact PE.cast (n_idx h.hK (okE a h _ q.1.2) (okE i h _ q.2) (plain_of q.1.1)) fun σ S => by rw [evE] <;> rfl
    · cases q
  | .slc a lo hi, G, Γ, X, W, h, x, q => by
    unfold chkE at q
    split at q
    · simp only [Bool.and_eq_true] at q
      exact PE.cast (n_slc h.hK (okE a h _ q.1.1) (okO lo h _ q.1.2) (okO hi h _ q.2)) fun σ S => by rw [evE] <;> rfl
    · cases q
  | .rev a, G, Γ, X, W, h, x, q => by
    unfold chkE at q
    split at q
    · simp only [Bool.and_eq_true, decide_eq_true_eq] at q
      obtain ⟨rfl, q⟩ := q
      exact PE.cast (n_rev h.hK (okE a h _ q)) fun σ S => by rw [evE] <;> rfl
    · cases q
  | .call g es, G, Γ, X, W, h, x, q => by
    unfold chkE at q
    split at q
    · simp only [Bool.and_eq_true, decide_eq_true_eq, List.isEmpty_iff] at q
      obtain ⟨⟨⟨rfl, q1⟩, q2⟩, q3⟩ := q
      obtain ⟨n, h3, h1, h2, fd, ps, h4, h5⟩ := h.fnAt q1
      exact PE.cast (n_call0 h.gd h1 h2 h3 h4 h5 h.tk (h.gl q2) q3) fun σ S => by rw [evE, evEs]; rfl
    · simp only [Bool.and_eq_true, decide_eq_true_eq] at q
      obtain ⟨n, h3, h1, h2, fd, ps, h4, h5⟩ := h.fnAt q.1.1.1.1
      exact PE.cast (n_call h.gd h1 h2 h3 h4 h5 h.tk (h.gl q.1.1.1.2) q.1.1.2 (okEs es h _ q.2) q.1.2 (by simp)) fun σ S => by rw [evE] <;> rfl
    · cases q
  | .gfn g, G, Γ, X, W, h, x, q => by
    unfold chkE at q
    split at q
    · simp only [Bool.and_eq_true, decide_eq_true_eq] at q
      obtain ⟨_, _, h1, _⟩ := h.fnAt q.1.1
      exact PE.cast (n_gfn (by rw [h.nF]; exact (List.getElem?_eq_some_iff.mp q.1.1).1) h1 (h.gl q.1.2) q.2) fun σ S => by rw [evE]
    · cases q
  | .callv i es lb, G, Γ, X, W, h, x, q => by
    unfold chkE at q
    split at q
    · simp only [Bool.and_eq_true, Bool.or_eq_true, decide_eq_true_eq] at q
      obtain ⟨⟨⟨⟨⟨q1, q2⟩, q3⟩, q4⟩, q5⟩, q6⟩ := q
      refine PE.cast (n_callv (gc := gc) (ds0 := es) (lb := lb) h (by rw [h.hN]; exact q2) (by rw [h.sc]; exact vis_of q3) q4 (okEs es h _ q6) q5 fun j lam hi hl => ?_) fun σ S => by rw [evE] <;> rfl
      rcases q1 with q1 | ⟨q1, q7⟩
      · exact absurd hi q1
      · rcases okLv lb Γ.lv q7 j lam hl with z | ⟨ps, z1, z2, z3, z4, z5, z6⟩
        · exact .inl z
        · exact .inr ⟨q1, ps, z1, z2, z3, z4, z5, fun X' W' h' => z6 h'⟩
    · cases q
  | .guard fine hs b, G, Γ, X, W, h, x, q => by
    unfold chkE at q
    split at q
    · rename_i y p params body scope lp pos wd hwd
      simp only [Bool.and_eq_true, decide_eq_true_eq] at q
      obtain ⟨⟨⟨⟨⟨⟨⟨⟨q1, q2⟩, q3⟩, q4⟩, q5⟩, q6⟩, q7⟩, q8⟩, q9⟩ := q
      subst q2
      subst q3
      subst q4
      exact PE.cast (n_guard h hwd q1 q5 q6 q7 q8 fun X' W' h' => okE b h' _ q9) fun σ S => by rw [evE]
    · cases q
  | .guards fine hs i k es, G, Γ, X, W, h, x, q => by
    unfold chkE at q
    split at q
    · rename_i y p2 c2 p3 p4 c p1 z py scope pos wd ls hwd hls
      simp only [Bool.and_eq_true, decide_eq_true_eq] at q
      obtain ⟨⟨⟨⟨⟨⟨⟨⟨⟨⟨⟨⟨⟨⟨⟨q1, q2⟩, q3⟩, q4⟩, q5⟩, q6⟩, q7⟩, q8⟩, q9⟩, q10⟩, q11⟩, q12⟩, q13⟩, q14⟩, q15⟩, q16⟩ := q
      subst q3
      subst q4
      subst q5
      subst q6
      unfold wordScope at q11
      rw [Bool.and_eq_true] at q11
      obtain ⟨a1, a2⟩ := okLs es h ls q16
      exact PE.cast (n_guards h hwd q1 q2 (by rw [h.hN]; exact q7) (by rw [h.sc]; exact vis_of q8) q9 q10 hls a1 q11.1 q11.2 q12 q13 q14 q15 a2) fun σ S => by rw [evE] <;> rfl
    · cases q
  | .bi b es, G, Γ, X, W, h, x, q => by
    unfold chkE at q
    split at q
    · split at q
      · split at q
        · simp only [Bool.and_eq_true, decide_eq_true_eq] at q
          obtain ⟨⟨⟨⟨rfl, q1⟩, q2⟩, q3⟩, q4⟩ := q
          rename_i a
          refine PE.cast (isi_ok h q1 q2 q3 (okE a h _ q4)) fun σ S => ?_
          have ns : ∀ z, a = .star z → False := fun z e => by
            subst e; unfold chkE at q4; cases q4
          rw [evE, evEs]
          · cases evE cl gc a σ S <;> simp only [Out.bind, evEs]
            rfl
          · exact ns
        · cases q
      · simp only [Bool.and_eq_true] at q
        exact PE.cast (bi_ok h q.1.1.1 (h.gl q.1.1.2) (okEs es h _ q.2) q.1.2 (by simp)) fun σ S => by rw [evE] <;> rfl
    · cases q
  | .mth m o es, G, Γ, X, W, h, x, q => by
    unfold chkE at q
    split at q
    · rename_i a x n apos y cpos
      simp only [Bool.and_eq_true, decide_eq_true_eq] at q
      obtain ⟨⟨⟨⟨⟨rfl, q1⟩, q2⟩, q3⟩, q4⟩, q5⟩ := q
      refine PE.cast (n_split h.hK (okE o h _ q4) (okE a h _ q5) q2 (base_of q3) q1) fun σ S => ?_
      have ns : ∀ z, a = .star z → False := fun z e => by
        subst e; unfold chkE at q5; cases q5
      rw [evE]
      cases evE cl gc o σ S <;> simp only [Out.bind]
      rename_i d S1
      cases d <;> simp only []
      rw [evEs]
      · cases evE cl gc a σ S1 <;> simp only [Out.bind, evEs]
      · exact ns
    · cases q
  | .comp tg it c el own, G, Γ, X, W, h, x, q => by
    unfold chkE at q
    split at q
    · simp only [Bool.and_eq_true] at q
      obtain ⟨⟨⟨⟨⟨q1, q2⟩, q3⟩, q4⟩, q5⟩, q6⟩ := q
      obtain ⟨b1, b2, b3⟩ := own_nd h q1
      refine PE.mono (pe_lc h.calm (by rw [h.hN]; exact h.nd) (okI it h _ _ q3) b1 (fun s H C cs fp => okTg (h.blk _ s H C cs fp) tg _ q2) (fun s H C cs fp => okC c (h.blk _ s H C cs fp) _ q4) (fun s H C cs fp => okE el (h.blk _ s H C cs fp) _ q5) (setI_of q6 _)) fun σV H Q hh => ?_
      rw [b2]
      refine lc_ok b3 (fun i _ => h.nc i) ?_
      have : evE cl gc (.comp tg it c el own) = fun σ S => (evI cl gc it σ S).bind fun ds S => compGo tg (evC cl gc c) (evE cl gc el) (wipeD σ own) ds [] S := by
        funext σ S; rw [evE]
      rw [this] at hh
      exact hh
    · cases q
theorem okLv : ∀ (es : List E) {Γ : Cenv} (ls : List LamA) {n : Nat}, chkLv es Γ ls n = true → ∀ (j : Nat) (lam : LamA), ls[j]? = some lam → (∀ σ S, evLb cl gc es j σ S = .bad) ∨ ∃ ps, parsP lam.params = some ps ∧ ps.length = n ∧ noFree lam.scope = true ∧ lamPB lam.scope lam.scope ps = true ∧ ps.Nodup ∧
    ∀ {G' : Glob} {X' : Cx} {W' : WX}, XOk G' (Γ.lamN lam.scope ps) X' W' cl gc → PE X' lam.body (tD G' W' (evLb cl gc es j))
  | [], Γ, ls, n, q, j, lam, h1 => by
    unfold chkLv at q
    split at q
    · simp at h1
    · cases q
  | e :: es, Γ, ls, n, q, j, lam, h1 => by
    unfold chkLv at q
    split at q
    · rename_i lam' ls
      rw [Bool.and_eq_true] at q
      obtain ⟨q1, q2⟩ := q
      cases j with
      | succ j =>
        rcases okLv es ls q2 j lam (by simpa using h1) with z | ⟨ps, z1, z2, z3, z4, z5, z6⟩
        · exact .inl fun σ S => by rw [evLb]; exact z σ S
        · refine .inr ⟨ps, z1, z2, z3, z4, z5, fun h' => PE.cast (z6 h') fun σ S => by rw [evLb]⟩
      | zero =>
        have h1 : some lam' = some lam := h1
        cases h1
        rw [Bool.or_eq_true] at q1
        rcases q1 with q1 | q1
        · left
          intro σ S
          unfold isStarE at q1
          split at q1
          · rw [evLb, evE]
          · cases q1
        · right
          split at q1
          · rename_i ps hps
            simp only [Bool.and_eq_true, decide_eq_true_eq] at q1
            obtain ⟨⟨⟨⟨a1, a2⟩, a3⟩, a4⟩, a5⟩ := q1
            exact ⟨ps, hps, Nat.eq_of_beq_eq_true a1, a2, a3, a4, fun h' => PE.cast (okE e h' _ a5) fun σ S => by rw [evLb]⟩
          · cases q1
    · cases q
theorem okLs : ∀ (es : List E) {G : Glob} {Γ : Cenv} {X : Cx} {W : WX} (h : XOk G Γ X W cl gc) (ls : List LamA), chkLs es Γ ls = true → ls.length = es.length ∧
    ∀ (j : Nat) (lam : LamA) (e : E), ls[j]? = some lam → es[j]? = some e → lamSB Γ.sc lam.scope = true ∧ noPar lam.params = true ∧ ∀ (X' : Cx) (W' : WX), XOk G (Γ.lam lam.scope) X' W' cl gc → PE X' lam.body (tD G W' (evE cl gc e))
  | [], G, Γ, X, W, h, ls, q => by
    unfold chkLs at q
    split at q
    · exact ⟨rfl, fun j lam e h1 _ => by simp at h1⟩
    · cases q
  | e :: es, G, Γ, X, W, h, ls, q => by
    unfold chkLs at q
    split at q
    · rename_i lam ls
      simp only [Bool.and_eq_true] at q
      obtain ⟨⟨⟨q1, q2⟩, q3⟩, q4⟩ := q
      obtain ⟨a1, a2⟩ := okLs es h ls q4
      refine ⟨by simp [a1], fun j lam' e' h1 h2 => ?_⟩
      cases j with
      | zero =>
        have h1 : some lam = some lam' := h1
        have h2 : some e = some e' := h2
        cases h1
        cases h2
        exact ⟨q1, q2, fun X' W' h' => okE e h' _ q3⟩
      | succ j => exact a2 j lam' e' (by simpa using h1) (by simpa using h2)
    · cases q
theorem okC : ∀ (c : Option T) {G : Glob} {Γ : Cenv} {X : Cx} {W : WX} (h : XOk G Γ X W cl gc) (ifs : List Expr), chkC c Γ ifs = true → PTs X ifs (tT G W (evC cl gc c))
  | none, G, Γ, X, W, h, ifs, q => by
    unfold chkC at q
    split at q
    · refine ⟨fun pins s σ H Q I ⟨σ1, S, r, e, l, s1, p⟩ => pts_nil.run pins s σ H Q I ?_⟩
      subst e
      rw [evC] at p
      exact Post.here p l rfl
    · cases q
  | some t, G, Γ, X, W, h, ifs, q => by
    unfold chkC at q
    split at q
    · have z := PT.cast (g := evC cl gc (some t)) (okT t h _ q) fun σ S => by rw [evC] <;> rfl
      exact pts_one z
    · cases q
theorem okO : ∀ (o : Option E) {G : Glob} {Γ : Cenv} {X : Cx} {W : WX} (h : XOk G Γ X W cl gc) (x : Option Expr), chkO o Γ x = true → PO X x (tO G W (evO cl gc o))
  | none, G, Γ, X, W, h, x, q => by
    unfold chkO at q
    split at q
    · have : evO cl gc none = fun _ S => .ok none S := by funext σ S; rw [evO]
      rw [this]; exact n_onone
    · cases q
  | some a, G, Γ, X, W, h, x, q => by
    unfold chkO at q
    split at q
    · have : evO cl gc (some a) = fun σ S => (evE cl gc a σ S).bind fun x S => match x with | .int i => .ok (some i) S | _ => .bad := by funext σ S; rw [evO] <;> rfl
      rw [this]; exact n_osome (okE a h _ q)
    · cases q
theorem okEs : ∀ (es : List E) {G : Glob} {Γ : Cenv} {X : Cx} {W : WX} (h : XOk G Γ X W cl gc) (xs : List Expr), chkEs es Γ xs = true → PA X xs (tDs G W (evEs cl gc es))
  | [], G, Γ, X, W, h, xs, q => by
    unfold chkEs at q
    split at q
    · exact PA.cast n_nil fun σ S => by rw [evEs] <;> rfl
    · cases q
  | .star e :: es, G, Γ, X, W, h, xs, q => by
    unfold chkEs at q
    split at q
    · simp only [Bool.and_eq_true] at q
      exact PA.cast (n_star h.hK (okE e h _ q.1) (okEs es h _ q.2)) fun σ S => by rw [evEs] <;> rfl
    · cases q
  | .slot i :: es, G, Γ, X, W, h, xs, q => okEsC h (by intro z e; cases e) (fun x hx => okE (.slot i) h x hx) (fun xs hx => okEs es h xs hx) q
  | .con d :: es, G, Γ, X, W, h, xs, q => okEsC h (by intro z e; cases e) (fun x hx => okE (.con d) h x hx) (fun xs hx => okEs es h xs hx) q
  | .gcon k :: es, G, Γ, X, W, h, xs, q => okEsC h (by intro z e; cases e) (fun x hx => okE (.gcon k) h x hx) (fun xs hx => okEs es h xs hx) q
  | .tup ys :: es, G, Γ, X, W, h, xs, q => okEsC h (by intro z e; cases e) (fun x hx => okE (.tup ys) h x hx) (fun xs hx => okEs es h xs hx) q
  | .lst ys :: es, G, Γ, X, W, h, xs, q => okEsC h (by intro z e; cases e) (fun x hx => okE (.lst ys) h x hx) (fun xs hx => okEs es h xs hx) q
  | .new ys :: es, G, Γ, X, W, h, xs, q => okEsC h (by intro z e; cases e) (fun x hx => okE (.new ys) h x hx) (fun xs hx => okEs es h xs hx) q
  | .dict0 :: es, G, Γ, X, W, h, xs, q => okEsC h (by intro z e; cases e) (fun x hx => okE (.dict0) h x hx) (fun xs hx => okEs es h xs hx) q
  | .mk a :: es, G, Γ, X, W, h, xs, q => okEsC h (by intro z e; cases e) (fun x hx => okE (.mk a) h x hx) (fun xs hx => okEs es h xs hx) q
  | .attr a j :: es, G, Γ, X, W, h, xs, q => okEsC h (by intro z e; cases e) (fun x hx => okE (.attr a j) h x hx) (fun xs hx => okEs es h xs hx) q
  | .mcall c g o ys :: es, G, Γ, X, W, h, xs, q => okEsC h (by intro z e; cases e) (fun x hx => okE (.mcall c g o ys) h x hx) (fun xs hx => okEs es h xs hx) q
  | .make c g ys :: es, G, Γ, X, W, h, xs, q => okEsC h (by intro z e; cases e) (fun x hx => okE (.make c g ys) h x hx) (fun xs hx => okEs es h xs hx) q
  | .compL tg it c el own :: es, G, Γ, X, W, h, xs, q => okEsC h (by intro z e; cases e) (fun x hx => okE (.compL tg it c el own) h x hx) (fun xs hx => okEs es h xs hx) q
  | .dcomp tg it k v own :: es, G, Γ, X, W, h, xs, q => okEsC h (by intro z e; cases e) (fun x hx => okE (.dcomp tg it k v own) h x hx) (fun xs hx => okEs es h xs hx) q
  | .bin o a b :: es, G, Γ, X, W, h, xs, q => okEsC h (by intro z e; cases e) (fun x hx => okE (.bin o a b) h x hx) (fun xs hx => okEs es h xs hx) q
  | .neg a :: es, G, Γ, X, W, h, xs, q => okEsC h (by intro z e; cases e) (fun x hx => okE (.neg a) h x hx) (fun xs hx => okEs es h xs hx) q
  | .cmp o a b :: es, G, Γ, X, W, h, xs, q => okEsC h (by intro z e; cases e) (fun x hx => okE (.cmp o a b) h x hx) (fun xs hx => okEs es h xs hx) q
  | .chain o p a b c :: es, G, Γ, X, W, h, xs, q => okEsC h (by intro z e; cases e) (fun x hx => okE (.chain o p a b c) h x hx) (fun xs hx => okEs es h xs hx) q
  | .notE a :: es, G, Γ, X, W, h, xs, q => okEsC h (by intro z e; cases e) (fun x hx => okE (.notE a) h x hx) (fun xs hx => okEs es h xs hx) q
  | .ite t a b :: es, G, Γ, X, W, h, xs, q => okEsC h (by intro z e; cases e) (fun x hx => okE (.ite t a b) h x hx) (fun xs hx => okEs es h xs hx) q
  | .and a b :: es, G, Γ, X, W, h, xs, q => okEsC h (by intro z e; cases e) (fun x hx => okE (.and a b) h x hx) (fun xs hx => okEs es h xs hx) q
  | .or a b :: es, G, Γ, X, W, h, xs, q => okEsC h (by intro z e; cases e) (fun x hx => okE (.or a b) h x hx) (fun xs hx => okEs es h xs hx) q
  | .idx a i :: es, G, Γ, X, W, h, xs, q => okEsC h (by intro z e; cases e) (fun x hx => okE (.idx a i) h x hx) (fun xs hx => okEs es h xs hx) q
  | .slc a lo hi :: es, G, Γ, X, W, h, xs, q => okEsC h (by intro z e; cases e) (fun x hx => okE (.slc a lo hi) h x hx) (fun xs hx => okEs es h xs hx) q
  | .rev a :: es, G, Γ, X, W, h, xs, q => okEsC h (by intro z e; cases e) (fun x hx => okE (.rev a) h x hx) (fun xs hx => okEs es h xs hx) q
  | .call g ys :: es, G, Γ, X, W, h, xs, q => okEsC h (by intro z e; cases e) (fun x hx => okE (.call g ys) h x hx) (fun xs hx => okEs es h xs hx) q
  | .gfn g :: es, G, Γ, X, W, h, xs, q => okEsC h (by intro z e; cases e) (fun x hx => okE (.gfn g) h x hx) (fun xs hx => okEs es h xs hx) q
  | .callv i ys lb :: es, G, Γ, X, W, h, xs, q => okEsC h (by intro z e; cases e) (fun x hx => okE (.callv i ys lb) h x hx) (fun xs hx => okEs es h xs hx) q
  | .guard fine hs b :: es, G, Γ, X, W, h, xs, q => okEsC h (by intro z e; cases e) (fun x hx => okE (.guard fine hs b) h x hx) (fun xs hx => okEs es h xs hx) q
  | .guards fine hs i k ys :: es, G, Γ, X, W, h, xs, q => okEsC h (by intro z e; cases e) (fun x hx => okE (.guards fine hs i k ys) h x hx) (fun xs hx => okEs es h xs hx) q
  | .bi b ys :: es, G, Γ, X, W, h, xs, q => okEsC h (by intro z e; cases e) (fun x hx => okE (.bi b ys) h x hx) (fun xs hx => okEs es h xs hx) q
  | .mth m o ys :: es, G, Γ, X, W, h, xs, q => okEsC h (by intro z e; cases e) (fun x hx => okE (.mth m o ys) h x hx) (fun xs hx => okEs es h xs hx) q
  | .join o a :: es, G, Γ, X, W, h, xs, q => okEsC h (by intro z e; cases e) (fun x hx => okE (.join o a) h x hx) (fun xs hx => okEs es h xs hx) q
  | .comp tg it c el own :: es, G, Γ, X, W, h, xs, q => okEsC h (by intro z e; cases e) (fun x hx => okE (.comp tg it c el own) h x hx) (fun xs hx => okEs es h xs hx) q
theorem okT : ∀ (t : T) {G : Glob} {Γ : Cenv} {X : Cx} {W : WX} (h : XOk G Γ X W cl gc) (x : Expr), chkT t Γ x = true → PT X x (tT G W (evT cl gc t))
  | .not t, G, Γ, X, W, h, x, q => by
    unfold chkT at q
    split at q
    · exact PT.cast (n_not (okT t h _ q)) fun σ S => by rw [evT] <;> rfl
    · cases q
  | .and t u, G, Γ, X, W, h, x, q => by
    unfold chkT at q
    split at q
    · simp only [Bool.and_eq_true] at q
      exact PT.cast (n_andT (okT t h _ q.1) (tail_and (okT u h _ q.2))).pt fun σ S => by rw [evT] <;> rfl
    · cases q
  | .or t u, G, Γ, X, W, h, x, q => by
    unfold chkT at q
    split at q
    · simp only [Bool.and_eq_true] at q
      exact PT.cast (n_orT (okT t h _ q.1) (tail_or (okT u h _ q.2))).pt fun σ S => by rw [evT] <;> rfl
    · cases q
  | .cmp o a b, G, Γ, X, W, h, x, q => by
    unfold chkT at q
    split at q
    · simp only [Bool.and_eq_true] at q
      have := cpB_eq q.1.1.1
      subst this
      exact PT.cast (n_cmpT h.hK h.un (okE a h _ q.1.1.2) (okE b h _ q.1.2) (marks_of q.2)) fun σ S => by rw [evT] <;> rfl
    · cases q
  | .chain o o' a b c, G, Γ, X, W, h, x, q => by
    unfold chkT at q
    split at q
    · simp only [Bool.and_eq_true] at q
      have := cpB_eq q.1.1.1.1.1
      subst this
      have := cpB_eq q.1.1.1.1.2
      subst this
      exact PT.cast (n_chainT h.hK h.un (okE a h _ q.1.1.1.2) (okE b h _ q.1.1.2) (okE c h _ q.1.2) (lastMarks_of q.2)) fun σ S => by rw [evT] <;> rfl
    · cases q
  | .val a, G, Γ, X, W, h, x, q => by
    unfold chkT at q
    rw [Bool.and_eq_true] at q
    exact PT.cast (n_val h.hK (okE a h _ q.2) (whole_of q.1 _)) fun σ S => by rw [evT] <;> rfl
theorem okI : ∀ (i : I) {G : Glob} {Γ : Cenv} {X : Cx} {W : WX} (h : XOk G Γ X W cl gc) (tg x : Expr), chkI i Γ tg x = true → PI X tg x (tI G W (evI cl gc i))
  | .seq a, G, Γ, X, W, h, tg, x, q => by
    unfold chkI at q
    exact PI.cast (n_seq h.hK (okE a h _ q)) fun σ S => by rw [evI] <;> rfl
  | .rng1 a, G, Γ, X, W, h, tg, x, q => by
    unfold chkI at q
    split at q
    · simp only [Bool.and_eq_true, decide_eq_true_eq] at q
      obtain ⟨⟨⟨rfl, q2⟩, q3⟩, q4⟩ := q
      exact PI.cast (n_rng1 (h.gl q2) (h.blt _ (by simp [bltNames])) (okE a h _ q4) q3) fun σ S => by rw [evI] <;> rfl
    · cases q
  | .rng2 a b, G, Γ, X, W, h, tg, x, q => by
    unfold chkI at q
    split at q
    · simp only [Bool.and_eq_true, decide_eq_true_eq] at q
      obtain ⟨⟨⟨⟨⟨rfl, q2⟩, q3⟩, q3'⟩, q4⟩, q5⟩ := q
      exact PI.cast (n_rng2 (h.gl q2) (h.blt _ (by simp [bltNames])) (okE a h _ q4) (okE b h _ q5) q3 q3') fun σ S => by rw [evI] <;> rfl
    · cases q
  | .rng3 a b c, G, Γ, X, W, h, tg, x, q => by
    unfold chkI at q
    split at q
    · simp only [Bool.and_eq_true, decide_eq_true_eq] at q
      obtain ⟨⟨⟨⟨⟨⟨⟨rfl, q2⟩, q3⟩, q3'⟩, q3''⟩, q4⟩, q5⟩, q6⟩ := q
      exact PI.cast (n_rng3 (h.gl q2) (h.blt _ (by simp [bltNames])) (okE a h _ q4) (okE b h _ q5) (okE c h _ q6) q3 q3' q3'') fun σ S => by rw [evI] <;> rfl
    · cases q
  | .zip a b, G, Γ, X, W, h, tg, x, q => by
    unfold chkI at q
    rw [Bool.and_eq_true] at q
    obtain ⟨qt, q⟩ := q
    split at q
    · simp only [Bool.and_eq_true, decide_eq_true_eq] at q
      obtain ⟨⟨⟨⟨⟨rfl, q2⟩, q3⟩, q3'⟩, q4⟩, q5⟩ := q
      cases tg <;> first | exact (PI.cast (n_zip h.hK (h.gl q2) (h.blt _ (by simp [bltNames])) (okE a h _ q4) (okE b h _ q5) q3 q3') fun σ S => by rw [evI] <;> rfl) | cases qt
    · cases q
  | .enumz a b, G, Γ, X, W, h, tg, x, q => by
    unfold chkI at q
    rw [Bool.and_eq_true] at q
    obtain ⟨qt, q⟩ := q
    split at q
    · simp only [Bool.and_eq_true, decide_eq_true_eq] at q
      obtain ⟨⟨⟨⟨⟨⟨⟨rfl, rfl⟩, q2⟩, q2'⟩, q3⟩, q3'⟩, q4⟩, q5⟩ := q
      cases tg <;> first | exact (PI.cast (n_enumz h.hK (h.gl q2) (h.blt _ (by simp [bltNames])) (h.gl q2') (h.blt _ (by simp [bltNames])) (okE a h _ q4) (okE b h _ q5) q3 q3') fun σ S => by rw [evI] <;> rfl) | cases qt
    · cases q
  | .enum a, G, Γ, X, W, h, tg, x, q => by
    unfold chkI at q
    rw [Bool.and_eq_true] at q
    obtain ⟨qt, q⟩ := q
    split at q
    · simp only [Bool.and_eq_true, decide_eq_true_eq] at q
      obtain ⟨⟨⟨rfl, q2⟩, q3⟩, q4⟩ := q
      cases tg <;> first | exact (PI.cast (n_enum h.hK (h.gl q2) (h.blt _ (by simp [bltNames])) (okE a h _ q4) q3) fun σ S => by rw [evI] <;> rfl) | cases qt
    · cases q
end
end
end DL
end
section
set_option Elab.async false
set_option autoImplicit false
set_option linter.all false
set_option maxRecDepth 100000
set_option maxHeartbeats 2000000
/-! DLm: statements: readings and nodes. -/
namespace DL
open PySem PySem.Spec PyProof.Rows L2 LamX LX
section
variable {G : Glob} {W : WX}
def PostS (G : Glob) (W : WX) (D : Ends) (r : RS) : OutS → Prop
  | .nx σ S => ∀ σV r', Ext r r' → Rl G r' S → RSt G r' σ σV → D.nx σV r'.H
  | .bk σ S => ∀ σV r', Ext r r' → Rl G r' S → RSt G r' σ σV → D.bk σV r'.H
  | .ct σ S => ∀ σV r', Ext r r' → Rl G r' S → RSt G r' σ σV → D.ct σV r'.H
  | .ret d S => ∀ v r', Ext r r' → Rl G r' S → Rep G r' d v → D.rt v r'.H
  | .exc x σ S => ∀ cls dd σV r', Ext r r' → Rl G r' S → RSt G r' σ σV → RepX G r' x cls dd → W cls dd σV r'.H
  | .bad => False
theorem PostS.from {D : Ends} {r r1 : RS} {o : OutS} (e : Ext r r1) (h : PostS G W D r o) : PostS G W D r1 o := by
  cases o with
  | nx σ S => exact fun σV r' e' l s => h σV r' (e.trans e') l s
  | bk σ S => exact fun σV r' e' l s => h σV r' (e.trans e') l s
  | ct σ S => exact fun σV r' e' l s => h σV r' (e.trans e') l s
  | ret d S => exact fun v r' e' l s => h v r' (e.trans e') l s
  | exc x σ S => exact fun c d σV r' e' l s => h c d σV r' (e.trans e') l s
  | bad => exact h
def tS (G : Glob) (W : WX) (f : Env → Store → OutS) : TS := fun D σV H => ∃ σ S r, r.H = H ∧ Rl G r S ∧ RSt G r σ σV ∧ PostS G W D r (f σ S)
/-- an expression within a statement -/
theorem PostS.stm {α β : Type} {rel : RS → α → β → Prop} {D : Ends} {σ : Env} {σV : L2.St} {r : RS} {o : Out α} {f : α → Store → OutS} (s : RSt G r σ σV) (h : PostS G W D r (o.stm σ f)) :
    Post G rel W σV r o fun b H1 => ∃ a S r1, r1.H = H1 ∧ Ext r r1 ∧ Rl G r1 S ∧ rel r1 a b ∧ PostS G W D r1 (f a S) := by
  cases o with
  | ok a S => exact fun b r' e l z => ⟨a, S, r', rfl, e, l, z, PostS.from e h⟩
  | exc x S => exact fun c d r' e l z => h c d σV r' e l (s.ext e) z
  | bad => exact h
theorem PostS.seq {D : Ends} {r : RS} {o : OutS} {f : Env → Store → OutS} (h : PostS G W D r (o.andThen f)) : PostS G W { D with nx := tS G W f D } r o := by
  cases o with
  | nx σ S => exact fun σV r' e l s => ⟨σ, S, r', rfl, l, s, PostS.from e h⟩
  | bk σ S => exact h
  | ct σ S => exact h
  | ret d S => exact h
  | exc x σ S => exact h
  | bad => exact h
variable {X : Cx}
theorem tS.step {α β : Type} {rel : RS → α → β → Prop} {f : Env → Store → Out α} {g : Env → α → Store → OutS} {σV : L2.St} {H : Hp} {D : Ends}
    (h : tS G W (fun σ S => (f σ S).stm σ (g σ)) D σV H) {R : β → Hp → Prop}
    (k : ∀ b σ a S r, Rl G r S → RSt G r σ σV → rel r a b → PostS G W D r (g σ a S) → R b r.H) : tX G W rel f σV H R := by
  obtain ⟨σ, S, r, e, l, s, p⟩ := h
  refine ⟨σ, S, r, e, l, s, (PostS.stm s p).mono fun b H1 ⟨a, S1, r1, e1, x, l1, z, p1⟩ => ?_⟩
  subst e1
  exact k b σ a S1 r1 l1 (s.ext x) z p1
theorem PS.cast {st : Stmt} {f g : Env → Store → OutS} (h : PS X st (tS G W f)) (q : ∀ σ S, g σ S = f σ S) : PS X st (tS G W g) := by
  have : g = f := funext fun σ => funext (q σ)
  rw [this]; exact h
/-! simple ones -/
theorem s_pass {pos : Pos} : PS X (.Pass pos) (tS G W (fun σ S => .nx σ S)) :=
  PS.mono ps_pass fun D σV H ⟨σ, S, r, e, l, s, p⟩ => by subst e; exact p σV r (Ext.refl r) l s
theorem s_doc {x : Str} {j : Nat} {p pos : Pos} : PS X (.Expr (.Constant (.str x) j p) pos) (tS G W (fun σ S => .nx σ S)) :=
  PS.mono ps_doc fun D σV H ⟨σ, S, r, e, l, s, p⟩ => by subst e; exact p σV r (Ext.refl r) l s
theorem s_brk {pos : Pos} : PS X (.Break pos) (tS G W (fun σ S => .bk σ S)) :=
  PS.mono ps_break fun D σV H ⟨σ, S, r, e, l, s, p⟩ => by subst e; exact p σV r (Ext.refl r) l s
theorem s_cont {pos : Pos} : PS X (.Continue pos) (tS G W (fun σ S => .ct σ S)) :=
  PS.mono ps_continue fun D σV H ⟨σ, S, r, e, l, s, p⟩ => by subst e; exact p σV r (Ext.refl r) l s
theorem s_never {st : Stmt} : PS X st (tS G W (fun _ _ => .bad)) :=
  PS.mono ps_never fun D σV H ⟨σ, S, r, e, l, s, p⟩ => p
variable {fe fo fi : Env → Store → Out D} {e o i : Expr}
theorem s_ret {pos : Pos} (he : PE X e (tD G W fe)) : PS X (.Return (some e) pos) (tS G W (fun σ S => (fe σ S).stm σ fun d S => .ret d S)) :=
  PS.mono (ps_ret he) fun D σV H h => tS.step (rel := Rep G) h fun v σ d S r l s hd p => p v r (Ext.refl r) l hd
theorem s_retN {pos : Pos} : PS X (.Return none pos) (tS G W (fun _ S => .ret .non S)) :=
  PS.mono ps_retN fun D σV H ⟨σ, S, r, e, l, s, p⟩ => by subst e; exact p .non r (Ext.refl r) l .non
def notComp : Expr → Bool
  | .ListComp _ _ _ _ => false
  | .SetComp _ _ _ _ => false
  | .DictComp _ _ _ _ _ => false
  | _ => true
theorem sw_false {v : Expr} (h : notComp v = true) (t : Option Expr) (l : Nat) (env : PySem.Env) : swapsWith v t l env = pure false := by
  cases v <;> first | rfl | cases h
theorem s_exp {pos : Pos} (he : PE X e (tD G W fe)) (hn : notComp e = true) : PS X (.Expr e pos) (tS G W (fun σ S => (fe σ S).stm σ fun _ S => .nx σ S)) :=
  PS.mono (ps_expr he (sw_false hn _ _ _)) fun D σV H h => tS.step (rel := Rep G) h fun v σ d S r l s hd p => p σV r (Ext.refl r) l s
theorem s_app (hK : X.K = G.K) {apos cpos pos : Pos} (ho : PE X o (tD G W fo)) (he : PE X e (tD G W fe)) (hn : noStar e = true) (hbase : attributeBase o "append" X.env (eval o X.env) = eval o X.env) (hl : (apos.endLine == cpos.line) = true) :
    PS X (.Expr (.Call (.Attribute o "append" apos) [e] [] cpos) pos) (tS G W (fun σ S => (fo σ S).stm σ fun x S => if isRef x then (fe σ S).stm σ fun v S => match appIt x v S with | some S2 => .nx σ S2 | none => .bad else .bad)) := by
  refine PS.mono (ps_expr (pe_bm PySem.F.plainAttrs_list PySem.F.slot_list_append PySem.F.type_list_append mt_append ho (pa_cons he pa_nil (starEach_cons hn)) hbase (by rw [starEach_cons hn]; rfl) hl (starEach_cons hn) rfl) (sw_false rfl _ _ _)) fun E σV H h => ?_
  refine tS.step (rel := Rep G) h fun vx σ x S r l s hx p => ?_
  cases x with
  | ref n =>
    have p : PostS G W E r ((fe σ S).stm σ fun v S => match appIt (.ref n) v S with | some S2 => .nx σ S2 | none => .bad) := p
    cases hx with
    | ref hm hkd =>
      rename_i a
      cases hn : S[n]? with
      | none => exact absurd hn (mu_len l n (by rw [hm]; exact Option.some_ne_none _))
      | some xs =>
        obtain ⟨a', vs, h1, h2, h3⟩ := l.lst hkd hn
        rw [hm] at h1; cases h1
        refine ⟨.inl ⟨rfl, vs, .inl (.inl h2)⟩, σ, S, r, rfl, l, s, (PostS.stm (rel := Rep G) s p).mono fun y H1 ⟨v, S1, r1, e1, x1, l1, hv, p1⟩ => ?_⟩
        subst e1
        have hm1 := x1.mu n a hm
        simp only [appIt] at p1
        cases hn1 : S1[n]? with
        | none => exact absurd hn1 (mu_len l1 n (by rw [hm1]; exact Option.some_ne_none _))
        | some xs1 =>
          rw [hn1] at p1
          dsimp only [Option.bind] at p1
          have hk1 := x1.kd n _ hkd
          obtain ⟨a1, vs1, k1, k2, k3⟩ := l1.lst hk1 hn1
          rw [hm1] at k1; cases k1
          split at p1
          · rename_i S2 e2
            split at e2
            · rename_i hz
              cases e2
              refine ⟨a, vs1, y, rfl, rfl, k2, ?_, ?_⟩
              · rw [← k3.length]; exact isOk hz
              · have x2 := Ext.wr l1 (List.mem_of_getElem? hm1) (vs1 ++ [y])
                exact p1 σV (r1.wr a (vs1 ++ [y])) x2 (Rl.wr l1 hm1 hk1 (k3.append (.cons hv .nil))) ((s.ext x1).ext x2)
            · cases e2
          · exact False.elim p1
  | _ => exact False.elim p
/-- l.extend(e), e any list -/
def rExtR : V → List V → Hp → VK → Prop := fun x vs H Q => ∃ l b xs zs, x = .ref l ∧ vs = [.ref b] ∧ H l = some (.lst xs) ∧ Rd H b (.lst zs) ∧ xs.length + zs.length ≤ sizeLine ∧ Q .non (upd H l (.lst (xs ++ zs)))
theorem mt_extR : MtM X "list.extend" rExtR := by
  intro pins s σ H x vs v us Q I rx rv h
  obtain ⟨l, b, xs, zs, rfl, rfl, hH, hB, hz, q⟩ := h
  cases rx
  obtain ⟨u, rfl, ru⟩ := rv.one
  cases ru
  obtain ⟨z, its, n, r, hl, e⟩ := I.lstM hH
  obtain ⟨z2, its2, n2, r2, hl2, e2⟩ := Inv.lstR I hB
  have hsz : its.toArray.size + its2.toArray.size ≤ sizeLine := by rw [List.size_toArray, List.size_toArray]; omega
  have hlong : ¬ (!its.toArray.isEmpty && Builtin.List.listTooLong (its.toArray.size + its2.toArray.size)) = true := by
    rw [notLongL hsz, Bool.and_false]
    exact Bool.false_ne_true
  refine call_meets PySem.F.slot_list_extend ⟨_, e, rfl⟩ PySem.F.entry_list_extend (PySem.F.args_list_extend_2 _ _)
    (AutoSeq1.list_extend_list_list_0 l its.toArray n b its2.toArray n2 hlong (by rw [List.size_toArray]; omega) (by omega)) ⟨e, e2, ?_⟩
  refine ⟨.non, _, I.lset (its' := its ++ its2) hH e (by simp) (r.append r2) ?_, rfl, q⟩
  rw [List.length_append]
  omega
theorem s_ext (hK : X.K = G.K) {apos cpos pos : Pos} (ho : PE X o (tD G W fo)) (he : PE X e (tD G W fe)) (hn : noStar e = true) (hbase : attributeBase o "extend" X.env (eval o X.env) = eval o X.env) (hl : (apos.endLine == cpos.line) = true) :
    PS X (.Expr (.Call (.Attribute o "extend" apos) [e] [] cpos) pos) (tS G W (fun σ S => (fo σ S).stm σ fun x S => if isRef x then (fe σ S).stm σ fun v S => match extIt x v S with | some S2 => .nx σ S2 | none => .bad else .bad)) := by
  refine PS.mono (ps_expr (pe_bm PySem.F.plainAttrs_list PySem.F.slot_list_extend PySem.F.type_list_extend mt_extR ho (pa_cons he pa_nil (starEach_cons hn)) hbase (by rw [starEach_cons hn]; rfl) hl (starEach_cons hn) rfl) (sw_false rfl _ _ _)) fun E σV H h => ?_
  refine tS.step (rel := Rep G) h fun vx σ x S r l s hx p => ?_
  cases x with
  | ref n =>
    have p : PostS G W E r ((fe σ S).stm σ fun v S => match extIt (.ref n) v S with | some S2 => .nx σ S2 | none => .bad) := p
    cases hx with
    | ref hm hkd =>
      rename_i a
      cases hn : S[n]? with
      | none => exact absurd hn (mu_len l n (by rw [hm]; exact Option.some_ne_none _))
      | some xs =>
        obtain ⟨a', vs, h1, h2, h3⟩ := l.lst hkd hn
        rw [hm] at h1; cases h1
        refine ⟨.inl ⟨rfl, vs, .inl (.inl h2)⟩, σ, S, r, rfl, l, s, (PostS.stm (rel := Rep G) s p).mono fun y H1 ⟨v, S1, r1, e1, x1, l1, hv, p1⟩ => ?_⟩
        subst e1
        have hm1 := x1.mu n a hm
        simp only [extIt] at p1
        cases hn1 : S1[n]? with
        | none => exact absurd hn1 (mu_len l1 n (by rw [hm1]; exact Option.some_ne_none _))
        | some xs1 =>
          rw [hn1] at p1
          dsimp only [Option.bind] at p1
          have hk1 := x1.kd n _ hkd
          obtain ⟨a1, vs1, k1, k2, k3⟩ := l1.lst hk1 hn1
          rw [hm1] at k1; cases k1
          split at p1
          · rename_i S2 e2
            cases v with
            | lst ys =>
              dsimp only at e2
              split at e2
              · rename_i hz
                cases e2
                cases hv with
                | @lst _ b ws f z q =>
                  refine ⟨a, b, vs1, ws, rfl, rfl, k2, f, ?_, ?_⟩
                  · rw [← k3.length, ← q.length]; exact fits_of hz
                  · have x2 := Ext.wr l1 (List.mem_of_getElem? hm1) (vs1 ++ ws)
                    exact p1 σV (r1.wr a (vs1 ++ ws)) x2 (Rl.wr l1 hm1 hk1 (k3.append q)) ((s.ext x1).ext x2)
              · cases e2
            | _ => cases e2
          · exact False.elim p1
  | _ => exact False.elim p
/-! blocks, if, loops -/
variable {ft : Env → Store → Out Bool} {fa fb : Env → Store → OutS} {c : Expr} {as bs : List Stmt}
theorem PSs.cast {st : List Stmt} {f g : Env → Store → OutS} (h : PSs X st (tS G W f)) (q : ∀ σ S, g σ S = f σ S) : PSs X st (tS G W g) := by
  have : g = f := funext fun σ => funext (q σ)
  rw [this]; exact h
theorem ss_nil : PSs X [] (tS G W (fun σ S => .nx σ S)) :=
  PSs.mono pss_nil fun E σV H ⟨σ, S, r, e, l, s, p⟩ => by subst e; exact p σV r (Ext.refl r) l s
theorem ss_cons {st : Stmt} {rest : List Stmt} (h1 : PS X st (tS G W fa)) (h2 : PSs X rest (tS G W fb)) : PSs X (st :: rest) (tS G W (fun σ S => (fa σ S).andThen fb)) :=
  PSs.mono (pss_cons h1 h2) fun E σV H ⟨σ, S, r, e, l, s, p⟩ => ⟨σ, S, r, e, l, s, PostS.seq p⟩
theorem s_if {pos : Pos} (hc : PT X c (tT G W ft)) (ha : PSs X as (tS G W fa)) (hb : PSs X bs (tS G W fb)) : PS X (.If c as bs pos) (tS G W (fun σ S => (ft σ S).stm σ fun c S => match c with | true => fa σ S | false => fb σ S)) := by
  refine PS.mono (ps_if hc ha hb) fun E σV H h => ?_
  refine tS.step (rel := RT) h fun k σ k' S r l s hk p => ?_
  cases hk
  cases k with
  | true => exact ⟨σ, S, r, rfl, l, s, p⟩
  | false => exact ⟨σ, S, r, rfl, l, s, p⟩
theorem s_wh {pos : Pos} (hp : PassesOwn (model X.prog X.w) X.A X.env X.xe) (hc : PT X c (tT G W ft)) (hb : PSs X bs (tS G W fb)) (n : Nat) : PS X (.While c bs [] pos) (tS G W (fun σ S => whGo ft fb n σ S)) := by
  refine PS.mono (ps_while hp hc hb) fun E σV H h => ?_
  refine ⟨fun m σV H => tS G W (fun σ S => whGo ft fb m σ S) E σV H, ⟨n, h⟩, fun m σV H h => ?_⟩
  cases m with
  | zero =>
    obtain ⟨σ, S, r, e, l, s, p⟩ := h
    exact False.elim p
  | succ m =>
    have h : tS G W (fun σ S => (ft σ S).stm σ fun c S => match c with
      | false => .nx σ S
      | true => match fb σ S with
        | .nx σ S => whGo ft fb m σ S
        | .ct σ S => whGo ft fb m σ S
        | .bk σ S => .nx σ S
        | o => o) E σV H := h
    refine tS.step (rel := RT) h fun k σ k' S r l s hk p => ?_
    cases hk
    cases k with
    | false =>
      simp only [Bool.false_eq_true, if_false]
      exact p σV r (Ext.refl r) l s
    | true =>
      simp only [if_true]
      refine ⟨fun σV H => tS G W (fun σ S => whGo ft fb m σ S) E σV H, fun σ' H' q => ⟨m, Nat.lt_succ_self m, q⟩, σ, S, r, rfl, l, s, ?_⟩
      dsimp only at p
      cases h : fb σ S with
      | nx σ1 S1 => rw [h] at p; exact fun σV' r' e' l' s' => ⟨σ1, S1, r', rfl, l', s', PostS.from e' p⟩
      | ct σ1 S1 => rw [h] at p; exact fun σV' r' e' l' s' => ⟨σ1, S1, r', rfl, l', s', PostS.from e' p⟩
      | bk σ1 S1 => rw [h] at p; exact p
      | ret d S1 => rw [h] at p; exact p
      | exc x σ1 S1 => rw [h] at p; exact p
      | bad => rw [h] at p; exact p
theorem s_for {iter tge : Expr} {tg : Tg} {fi : Env → Store → Out (List D)} {pos : Pos} (hp : PassesOwn (model X.prog X.w) X.A X.env X.xe) (hc : X.calm = true) (hi : PI X tge iter (tI G W fi)) (hg : PG X tge (gD G (tgSlots tg) (asg tg))) (hb : PSs X bs (tS G W fb))
    (hs : ∀ x, foldedSetIterable iter X.env x = pure x) : PS X (.For tge iter bs [] pos) (tS G W (fun σ S => (fi σ S).stm σ fun ds S => forGo tg fb ds σ S)) := by
  refine PS.mono (ps_for hp hc hi hg hb hs) fun E σV H h => ?_
  refine tS.step (rel := ItOk G) h fun J σ ds S r l s hJ p => ?_
  refine ⟨fun i m σV H => m = ds.length - i ∧ i ≤ ds.length ∧ ∃ σ S r', r'.H = H ∧ Ext r r' ∧ Rl G r' S ∧ RSt G r' σ σV ∧ PostS G W E r' (forGo tg fb (ds.drop i) σ S), ⟨ds.length, by simp, Nat.zero_le _, σ, S, r, rfl, Ext.refl r, l, s, p⟩, ?_⟩
  rintro i m σV H ⟨rfl, hi, σ, S, r', rfl, x, l, s, p⟩
  obtain ⟨st, go⟩ := hJ r' S x.toGrow l
  by_cases hlt : i < ds.length
  · right
    have ed : ds[i]? = some ds[i] := List.getElem?_eq_getElem hlt
    obtain ⟨g1, g2⟩ := go i _ ed
    rw [List.drop_eq_getElem_cons hlt] at p
    unfold forGo at p
    refine ⟨g1, fun σV H => (∃ σ S r', r'.H = H ∧ Ext r r' ∧ Rl G r' S ∧ RSt G r' σ σV ∧ PostS G W E r' (forGo tg fb (ds.drop (i + 1)) σ S)), fun σV' H' q => ⟨ds.length - (i + 1), by omega, rfl, hlt, q⟩, fun v H' y => ?_⟩
    obtain ⟨r2, rfl, x2, l2, h2⟩ := g2 v H' y
    split at p
    · exact False.elim p
    rename_i σ2 ea
    refine ⟨ds[i], σ, S, r2, σ2, rfl, l2, s.ext x2, h2, ea, fun σV2 s2 df => ⟨σ2, S, r2, rfl, l2, s2, ?_⟩⟩
    have p := PostS.from x2 p
    cases h : fb σ2 S with
    | nx σ1 S1 => rw [h] at p; exact fun σV' r' e' l' s' => ⟨σ1, S1, r', rfl, (x.trans x2).trans e', l', s', PostS.from e' p⟩
    | ct σ1 S1 => rw [h] at p; exact fun σV' r' e' l' s' => ⟨σ1, S1, r', rfl, (x.trans x2).trans e', l', s', PostS.from e' p⟩
    | bk σ1 S1 => rw [h] at p; exact p
    | ret d S1 => rw [h] at p; exact p
    | exc x σ1 S1 => rw [h] at p; exact p
    | bad => rw [h] at p; exact p
  · left
    have e : i = ds.length := by omega
    subst e
    refine ⟨st _ (Nat.le_refl _), ?_⟩
    rw [List.drop_length] at p
    unfold forGo at p
    exact p σV r' (Ext.refl r') l s

theorem s_forT {iter tge : Expr} {tg : Tg} {fg : List Nat} {fi : Env → Store → Out (List D)} {pos : Pos} (hp : PassesOwn (model X.prog X.w) X.A X.env X.xe) (hc : X.calm = true) (hi : PI X tge iter (tI G W fi)) (hg : PG X tge (gD G (tgSlots tg) (asg tg))) (hb : PSs X bs (tS G W fb))
    (hs : ∀ x, foldedSetIterable iter X.env x = pure x) : PS X (.For tge iter bs [] pos) (tS G W (fun σ S => (fi σ S).stm σ fun ds S => forTGo tg fb S.length fg ds σ S)) := by
  refine PS.mono (ps_for hp hc hi hg hb hs) fun E σV H h => ?_
  refine tS.step (rel := ItOk G) h fun J σ ds S r l0 s hJ p => ?_
  generalize hn0 : S.length = n0 at p
  refine ⟨fun i m σV H => m = ds.length - i ∧ i ≤ ds.length ∧ ∃ σ S' r', r'.H = H ∧ Ext r r' ∧ Rl G r' S' ∧ RSt G r' σ σV ∧ PostS G W E r (forTGo tg fb n0 fg (ds.drop i) σ S'), ⟨ds.length, by simp, Nat.zero_le _, σ, S, r, rfl, Ext.refl r, l0, s, p⟩, ?_⟩
  rintro i m σV H ⟨rfl, hi, σ, S', r', rfl, x, l, s, p⟩
  obtain ⟨st, go⟩ := hJ r' S' x.toGrow l
  by_cases hlt : i < ds.length
  · right
    have ed : ds[i]? = some ds[i] := List.getElem?_eq_getElem hlt
    obtain ⟨g1, g2⟩ := go i _ ed
    rw [List.drop_eq_getElem_cons hlt] at p
    unfold forTGo at p
    refine ⟨g1, fun σV H => (∃ σ S' r', r'.H = H ∧ Ext r r' ∧ Rl G r' S' ∧ RSt G r' σ σV ∧ PostS G W E r (forTGo tg fb n0 fg (ds.drop (i + 1)) σ S')), fun σV' H' q => ⟨ds.length - (i + 1), by omega, rfl, hlt, q⟩, fun v H' y => ?_⟩
    obtain ⟨r2, rfl, x2, l2, h2⟩ := g2 v H' y
    split at p
    · exact False.elim p
    rename_i σ2 ea
    refine ⟨ds[i], σ, S', r2, σ2, rfl, l2, s.ext x2, h2, ea, fun σV2 s2 df => ⟨σ2, S', r2, rfl, l2, s2, ?_⟩⟩
    have turn : ∀ (σ1 : Env) (S1 : Store), PostS G W E r (forTGo tg fb n0 fg (ds.drop (i + 1)) (wipeD σ1 fg) (tidyS n0 (wipeD σ1 fg) S1)) → ∀ (σV' : L2.St) (r' : RS), Ext r2 r' → Rl G r' S1 → RSt G r' σ1 σV' →
        ∃ σ S' r'', r''.H = r'.H ∧ Ext r r'' ∧ Rl G r'' S' ∧ RSt G r'' σ σV' ∧ PostS G W E r (forTGo tg fb n0 fg (ds.drop (i + 1)) σ S') := fun σ1 S1 p σV' r' e' l' s' => by
      obtain ⟨r3, k1, k2, k3, k4⟩ := tidy_ok l0 ((x.trans x2).trans e') l' (s'.forget fg)
      rw [hn0] at k3
      exact ⟨_, _, r3, k1, k2, k3, k4, p⟩
    cases h : fb σ2 S' with
    | nx σ1 S1 => rw [h] at p; exact turn σ1 S1 p
    | ct σ1 S1 => rw [h] at p; exact turn σ1 S1 p
    | bk σ1 S1 => rw [h] at p; exact PostS.from (x.trans x2) p
    | ret d S1 => rw [h] at p; exact PostS.from (x.trans x2) p
    | exc x1 σ1 S1 => rw [h] at p; exact PostS.from (x.trans x2) p
    | bad => rw [h] at p; exact p
  · left
    have e : i = ds.length := by omega
    subst e
    refine ⟨st _ (Nat.le_refl _), ?_⟩
    rw [List.drop_length] at p
    unfold forTGo at p
    exact p σV r' x l s

/-! ### targets of assignments -/
def PostN (G : Glob) (W : WX) (r : RS) (Q : L2.St → Hp → Prop) : OutS → Prop
  | .nx σ S => ∀ σV r', Ext r r' → Rl G r' S → RSt G r' σ σV → Q σV r'.H
  | .exc x σ S => ∀ cls dd σV r', Ext r r' → Rl G r' S → RSt G r' σ σV → RepX G r' x cls dd → W cls dd σV r'.H
  | _ => False
theorem PostN.from {Q : L2.St → Hp → Prop} {r r1 : RS} {o : OutS} (e : Ext r r1) (h : PostN G W r Q o) : PostN G W r1 Q o := by
  cases o with
  | nx σ S => exact fun σV r' e' l s => h σV r' (e.trans e') l s
  | exc x σ S => exact fun c d σV r' e' l s => h c d σV r' (e.trans e') l s
  | _ => exact h
def gG (G : Glob) (W : WX) (f : D → Env → Store → OutS) : TG := fun v σV H Q => ∃ d σ S r, r.H = H ∧ Rl G r S ∧ RSt G r σ σV ∧ Rep G r d v ∧ PostN G W r Q (f d σ S)
def gGs (G : Glob) (W : WX) (f : List D → Env → Store → OutS) : TGs := fun vs σV H Q => ∃ ds σ S r, r.H = H ∧ Rl G r S ∧ RSt G r σ σV ∧ Reps G r ds vs ∧ PostN G W r Q (f ds σ S)
theorem PostN.stm {Q : L2.St → Hp → Prop} {α β : Type} {rel : RS → α → β → Prop} {σ : Env} {σV : L2.St} {r : RS} {o : Out α} {f : α → Store → OutS} (s : RSt G r σ σV) (h : PostN G W r Q (o.stm σ f)) :
    Post G rel W σV r o fun b H1 => ∃ a S r1, r1.H = H1 ∧ Ext r r1 ∧ Rl G r1 S ∧ rel r1 a b ∧ PostN G W r1 Q (f a S) := by
  cases o with
  | ok a S => exact fun b r' e l z => ⟨a, S, r', rfl, e, l, z, PostN.from e h⟩
  | exc x S => exact fun c d r' e l z => h c d σV r' e l (s.ext e) z
  | bad => exact h
theorem gg_name {i : Nat} {x : Str} {pos : Pos} {cl : Cl} {gc : List D} (hnl : i ∉ G.F.ls) (hnc : i ∉ G.cs) (hN : X.N.Nodup) (hi : X.N[i]? = some x) (hx : Loc X.env.scope x) (hf : X.fn x = true ∨ X.env.scope.names.lookup x = some .local) : PG X (.Name x pos) (gG G W (asgG cl gc (.nm i))) := by
  refine PG.mono (pg_name hN hi hx hf) fun v σV H Q ⟨d, σ, S, r, e, l, s, hd, p⟩ => ?_
  subst e
  rw [asgG] at p
  exact p _ r (Ext.refl r) l (s.set hd i hnl hnc)
theorem gg_sub {o i : Expr} {eo ei : E} {pos : Pos} {cl : Cl} {gc : List D} (ho : PE X o (tD G W (evE cl gc eo))) (hi : PE X i (tD G W (evE cl gc ei))) (hp : plainB i = true) : PG X (.Subscript o i pos) (gG G W (asgG cl gc (.sub eo ei))) := by
  refine PG.mono (pg_sub ho hi set_list (by intro v; cases i <;> first | rfl | cases hp)) fun v σV H Q ⟨d, σ, S, r, e, l, s, hd, p⟩ => ?_
  subst e
  rw [asgG] at p
  refine ⟨σ, S, r, rfl, l, s, (PostN.stm (rel := Rep G) s p).mono fun vo H1 ⟨x, S1, r1, e1, x1, l1, hx, p1⟩ => ?_⟩
  subst e1
  refine ⟨σ, S1, r1, rfl, l1, s.ext x1, (PostN.stm (rel := Rep G) (s.ext x1) p1).mono fun vi H2 ⟨k, S2, r2, e2, x2, l2, hk, p2⟩ => ?_⟩
  subst e2
  have hx := hx.ext x2
  have hd := (hd.ext x1).ext x2
  cases x with
  | ref n =>
    cases k with
    | int j =>
      cases hx with
      | @ref _ a hm hkd =>
        cases hk
        simp only [setIt] at p2
        cases hn : S2[n]? with
        | none => rw [hn] at p2; exact False.elim p2
        | some xs =>
          rw [hn] at p2
          obtain ⟨a', vs, h1, h2, h3⟩ := l2.lst hkd hn
          rw [hm] at h1; cases h1
          cases hj : ixAt xs.length j with
          | none => simp only [Option.bind, hj, Option.map] at p2; exact False.elim p2
          | some m =>
            simp only [Option.bind, hj, Option.map] at p2
            refine ⟨a, vs, j, m, rfl, rfl, h2, ?_, ?_⟩
            · rw [← h3.length]; exact hj
            · have x3 := Ext.wr l2 (List.mem_of_getElem? hm) (vs.set m v)
              exact p2 σV (r2.wr a (vs.set m v)) x3 (Rl.wr l2 hm hkd (h3.set hd m)) (((s.ext x1).ext x2).ext x3)
    | _ => exact False.elim p2
  | _ => exact False.elim p2
theorem gg_nil {cl : Cl} {gc : List D} : PGs X [] (gGs G W (asgsG cl gc [])) := by
  refine PGs.mono pgs_nil fun v σV H Q ⟨d, σ, S, r, e, l, s, hd, p⟩ => ?_
  subst e
  cases d with
  | nil =>
    cases hd
    rw [asgsG] at p
    exact ⟨rfl, p σV r (Ext.refl r) l s⟩
  | cons a b => rw [asgsG] at p; exact False.elim p; all_goals (intros; simp_all)
theorem gg_cons {cl : Cl} {gc : List D} {t : Tg} {ts : List Tg} {e : Expr} {es : List Expr} (h1 : PG X e (gG G W (asgG cl gc t))) (h2 : PGs X es (gGs G W (asgsG cl gc ts)))
    (hs : (assignEach (e :: es) X.env).map (·.2) = assign e X.env :: (assignEach es X.env).map (·.2)) : PGs X (e :: es) (gGs G W (asgsG cl gc (t :: ts))) := by
  refine PGs.mono (pgs_cons h1 h2 hs) fun v σV H Q ⟨d, σ, S, r, e, l, s, hd, p⟩ => ?_
  subst e
  cases d with
  | nil => rw [asgsG] at p; exact False.elim p; all_goals (intros; simp_all)
  | cons a b =>
    rw [asgsG] at p
    cases hd with
    | cons h hs =>
      refine ⟨_, _, rfl, a, σ, S, r, rfl, l, s, h, ?_⟩
      cases hq : asgG cl gc t a σ S with
      | nx σ1 S1 =>
        rw [hq] at p
        exact fun σV' r' e' l' s' => ⟨b, σ1, S1, r', rfl, l', s', hs.ext e', PostN.from e' p⟩
      | exc x σ1 S1 => rw [hq] at p; exact p
      | ret d S1 => rw [hq] at p; exact p
      | bk σ1 S1 => rw [hq] at p; exact p
      | ct σ1 S1 => rw [hq] at p; exact p
      | bad => rw [hq] at p; exact p
theorem gg_tup (hK : X.K = G.K) {cl : Cl} {gc : List D} {ts : List Tg} {es : List Expr} {k : Nat} {pos : Pos} (hc : X.calm = true) (h : PGs X es (gGs G W (asgsG cl gc ts))) (hl : ts.length = es.length)
    (hn : (assignEach es X.env).length = es.length) (hst : (assignEach es X.env).findIdx? (·.1) = none) : PG X (.Tuple es k pos) (gG G W (asgG cl gc (.tp ts))) := by
  refine PG.mono (pg_tup hc h hn hst) fun v σV H Q ⟨d, σ, S, r, e, l, s, hd, p⟩ => ?_
  subst e
  cases d with
  | tup ds =>
    rw [asgG] at p
    split at p
    · rename_i hz
      cases hd with
      | tup f hs =>
        refine ⟨_, _, rfl, by rw [hK]; exact f.sq, ?_, ds, σ, S, r, rfl, l, s, hs, p⟩
        rw [← hs.length, ← hl]
        exact Nat.eq_of_beq_eq_true hz
    · exact False.elim p
  | _ => rw [asgG] at p; exact False.elim p; all_goals (intros; simp_all)
def isN : OutS → Bool
  | .nx _ _ => true
  | .exc _ _ _ => true
  | .bad => true
  | _ => false
theorem isN_seq {o : OutS} {f : Env → Store → OutS} (h : isN o = true) (q : ∀ σ S, isN (f σ S) = true) : isN (o.andThen f) = true := by
  cases o <;> first | exact q _ _ | rfl | cases h
theorem isN_stm {α : Type} {o : Out α} {σ : Env} {f : α → Store → OutS} (q : ∀ a S, isN (f a S) = true) : isN (o.stm σ f) = true := by
  cases o <;> first | exact q _ _ | rfl
mutual
theorem asgG_isN (cl : Cl) (gc : List D) : ∀ (t : Tg) (d : D) (σ : Env) (S : Store), isN (asgG cl gc t d σ S) = true
  | .nm i, d, σ, S => by rw [asgG]; rfl
  | .tp ts, d, σ, S => by
    cases d with
    | tup ds =>
      rw [asgG]
      split
      · exact asgsG_isN cl gc ts ds σ S
      · rfl
    | _ => rw [asgG]; rfl; all_goals (intros; simp_all)
  | .sub o i, d, σ, S => by
    rw [asgG]
    refine isN_stm fun x S => isN_stm fun k S => ?_
    split <;> rfl
  | .att o j, d, σ, S => by
    rw [asgG]
    refine isN_stm fun x S => ?_
    split <;> rfl
theorem asgsG_isN (cl : Cl) (gc : List D) : ∀ (ts : List Tg) (ds : List D) (σ : Env) (S : Store), isN (asgsG cl gc ts ds σ S) = true
  | [], [], σ, S => by rw [asgsG]; rfl
  | [], _ :: _, σ, S => by rw [asgsG]; rfl; all_goals (intros; simp_all)
  | _ :: _, [], σ, S => by rw [asgsG]; rfl; all_goals (intros; simp_all)
  | t :: ts, d :: ds, σ, S => by
    rw [asgsG]
    exact isN_seq (asgG_isN cl gc t d σ S) fun σ S => asgsG_isN cl gc ts ds σ S
end
theorem PostS.toN {E : Ends} {r : RS} {o : OutS} (h : PostS G W E r o) (n : isN o = true) : PostN G W r E.nx o := by
  cases o with
  | nx σ S => exact h
  | exc x σ S => exact h
  | bad => exact h
  | _ => cases n
theorem assign1 {t : Expr} (h : noStar t = true) (env : PySem.Env) : (assignEach [t] env).map (·.2) = [assign t env] := by
  cases t <;> first | rfl | cases h
theorem s_asg {cl : Cl} {gc : List D} {tg : Tg} {t : Expr} {pos : Pos} (he : PE X e (tD G W fe)) (hg : PG X t (gG G W (asgG cl gc tg))) (hn : notComp e = true) (hw : swappedStores [t] e X.env = pure none) (hs : noStar t = true) :
    PS X (.Assign [t] e pos) (tS G W (fun σ S => (fe σ S).stm σ fun d S => asgG cl gc tg d σ S)) := by
  refine PS.mono (ps_asg he hg (sw_false hn _ _ _) hw (assign1 hs _)) fun E σV H h => ?_
  refine tS.step (rel := Rep G) h fun v σ d S r l s hd p => ?_
  exact ⟨d, σ, S, r, rfl, l, s, hd, p.toN (asgG_isN cl gc tg d σ S)⟩
/-- name = value, a comprehension that is not stored straight, too -/
theorem s_asgC {cl : Cl} {gc : List D} {tg : Tg} {t : Expr} {pos : Pos} (he : PE X e (tD G W fe)) (hg : PG X t (gG G W (asgG cl gc tg))) (hn : swapsWith e (some t) pos.line X.env = pure false) (hw : swappedStores [t] e X.env = pure none) (hs : noStar t = true) :
    PS X (.Assign [t] e pos) (tS G W (fun σ S => (fe σ S).stm σ fun d S => asgG cl gc tg d σ S)) := by
  refine PS.mono (ps_asg he hg hn hw (assign1 hs _)) fun E σV H h => ?_
  refine tS.step (rel := Rep G) h fun v σ d S r l s hd p => ?_
  exact ⟨d, σ, S, r, rfl, l, s, hd, p.toN (asgG_isN cl gc tg d σ S)⟩
theorem tup_stm (o : Out (List D)) (σ : Env) (f : D → Store → OutS) : ((o.bind fun ds S => if fits ds.length then .ok (.tup ds) S else .bad).stm σ f) = o.stm σ fun ds S => if fits ds.length then f (.tup ds) S else .bad := by
  cases o with
  | ok ds S =>
    show (Out.stm (if fits ds.length = true then .ok (.tup ds) S else .bad) σ f) = if fits ds.length = true then f (.tup ds) S else .bad
    split <;> rfl
  | exc x S => rfl
  | bad => rfl
/-- x, y = a, b stored from the right -/
theorem s_par {cl : Cl} {gc : List D} {i j : Nat} {x y : Str} {a b : Expr} {fs : Env → Store → Out (List D)} {px py pt pos : Pos} {kt k2 pt2} (hc : X.calm = true) (hN : X.N.Nodup) (hi : X.N[i]? = some x) (hj : X.N[j]? = some y) (hij : i ≠ j) (ni : i ∉ G.F.ls) (nj : j ∉ G.F.ls) (nc : ∀ i, i ∉ G.cs)
    (hx : X.env.scope.names.lookup x = some .local) (hy : X.env.scope.names.lookup y = some .local) (ha : PA X [a, b] (tDs G W fs))
    (hw : swappedStores [.Tuple [.Name x px, .Name y py] kt pt] (.Tuple [a, b] k2 pt2) X.env = pure (some [x, y])) :
    PS X (.Assign [.Tuple [.Name x px, .Name y py] kt pt] (.Tuple [a, b] k2 pt2) pos) (tS G W (fun σ S => ((fs σ S).bind fun ds S => if fits ds.length then .ok (.tup ds) S else .bad).stm σ fun d S => asgG cl gc (.tp [.nm i, .nm j]) d σ S)) := by
  refine PS.mono (ps_par hc hN hi hj hij hx hy ha hw) fun E σV H h => ?_
  have h : tS G W (fun σ S => (fs σ S).stm σ fun ds S => if fits ds.length then asgG cl gc (.tp [.nm i, .nm j]) (.tup ds) σ S else .bad) E σV H := by
    obtain ⟨σ, S, r, e, l, s, p⟩ := h
    exact ⟨σ, S, r, e, l, s, by dsimp only at p; rw [tup_stm] at p; exact p⟩
  refine tS.step (rel := Reps G) h fun vs σ ds S r l s hd p => ?_
  split at p
  · rw [asgG] at p
    split at p
    · rename_i hz
      have hz := Nat.eq_of_beq_eq_true hz
      cases hd with
      | nil => cases hz
      | cons h1 q1 =>
        cases q1 with
        | nil => cases hz
        | cons h2 q2 =>
          cases q2 with
          | cons _ _ => simp at hz
          | nil =>
            refine ⟨_, _, rfl, ?_⟩
            simp only [asgsG, asgG, OutS.andThen] at p
            exact p _ r (Ext.refl r) l ((s.set h1 i ni (nc i)).set h2 j nj (nc j))
    · exact False.elim p
  · exact False.elim p
theorem s_par3 {cl : Cl} {gc : List D} {i j k : Nat} {x y z : Str} {a b c : Expr} {fs : Env → Store → Out (List D)} {px py pz pt pos : Pos} {kt k2 pt2} (hc : X.calm = true) (hN : X.N.Nodup) (hi : X.N[i]? = some x) (hj : X.N[j]? = some y) (hk : X.N[k]? = some z) (hij : i ≠ j) (hik : i ≠ k) (hjk : j ≠ k) (ni : i ∉ G.F.ls) (nj : j ∉ G.F.ls) (nk : k ∉ G.F.ls) (nc : ∀ i, i ∉ G.cs)
    (hx : X.env.scope.names.lookup x = some .local) (hy : X.env.scope.names.lookup y = some .local) (hz : X.env.scope.names.lookup z = some .local) (ha : PA X [a, b, c] (tDs G W fs))
    (hw : swappedStores [.Tuple [.Name x px, .Name y py, .Name z pz] kt pt] (.Tuple [a, b, c] k2 pt2) X.env = pure (some [x, y, z])) :
    PS X (.Assign [.Tuple [.Name x px, .Name y py, .Name z pz] kt pt] (.Tuple [a, b, c] k2 pt2) pos) (tS G W (fun σ S => ((fs σ S).bind fun ds S => if fits ds.length then .ok (.tup ds) S else .bad).stm σ fun d S => asgG cl gc (.tp [.nm i, .nm j, .nm k]) d σ S)) := by
  refine PS.mono (ps_par3 hc hN hi hj hk hij hik hjk hx hy hz ha hw) fun E σV H h => ?_
  have h : tS G W (fun σ S => (fs σ S).stm σ fun ds S => if fits ds.length then asgG cl gc (.tp [.nm i, .nm j, .nm k]) (.tup ds) σ S else .bad) E σV H := by
    obtain ⟨σ, S, r, e, l, s, p⟩ := h
    exact ⟨σ, S, r, e, l, s, by dsimp only at p; rw [tup_stm] at p; exact p⟩
  refine tS.step (rel := Reps G) h fun vs σ ds S r l s hd p => ?_
  split at p
  · rw [asgG] at p
    split at p
    · rename_i hz
      have hz := Nat.eq_of_beq_eq_true hz
      cases hd with
      | nil => cases hz
      | cons h1 q1 =>
        cases q1 with
        | nil => cases hz
        | cons h2 q2 =>
          cases q2 with
          | nil => cases hz
          | cons h3 q3 =>
            cases q3 with
            | cons _ _ => simp at hz
            | nil =>
              refine ⟨_, _, _, rfl, ?_⟩
              simp only [asgsG, asgG, OutS.andThen] at p
              exact p _ r (Ext.refl r) l (((s.set h1 i ni (nc i)).set h2 j nj (nc j)).set h3 k nk (nc k))
    · exact False.elim p
  · exact False.elim p
/-! ### raise -/
theorem s_raise0 {cl : Cl} {gc : List D} {Γ : Cenv} (h : XOk G Γ X W cl gc) {c : Nat} {x m : Str} {j : Nat} {p p2 p3 pos : Pos} (hx : Γ.exs[c]? = some x) (hF : G.exF c = none) (hg : glB Γ.sc x = true) (ho : okN x = true) :
    PS X (.Raise (some (.Call (.Name x p) [.Constant (.str m) j p2] [] p3)) none pos) (tS G W (fun σ S => .exc ⟨c, .non⟩ σ S)) := by
  have k := h.ex c x hx
  rcases k.how with ⟨_, B, n1, n2, bmB, F, q⟩ | ⟨f, e, _⟩
  · refine PS.mono (ps_raise h.calm h.tk (pmk_own F q k.mg k.kp k.rs (gl_of (by rw [h.sc]; exact hg)) (okN_d ho))) fun D σV H ⟨σ, S, r, e, l, s, p⟩ => ?_
    subst e
    exact p _ none σV r (Ext.refl r) l s ⟨⟨rfl, k.lt⟩, .inl hF⟩
  · rw [hF] at e
    cases e
theorem s_raise1 {cl : Cl} {gc : List D} {Γ : Cenv} (h : XOk G Γ X W cl gc) (hR : ∃ n, Room (n + 1) X.A) {c : Nat} {x f : Str} {p p3 pos : Pos} (hx : Γ.exs[c]? = some x) (hF : G.exF c = some f) (hg : glB Γ.sc x = true) (ho : okN x = true) (he : PE X e (tD G W fe)) (hn : noStar e = true) :
    PS X (.Raise (some (.Call (.Name x p) [e] [] p3)) none pos) (tS G W (fun σ S => (fe σ S).stm σ fun d S => .exc ⟨c, d⟩ σ S)) := by
  have k := h.ex c x hx
  obtain ⟨n, hr⟩ := hR
  rcases k.how with ⟨e, _⟩ | ⟨f', e, ms, ⟨T⟩⟩
  · rw [hF] at e
    cases e
  · rw [hF] at e
    cases e
    refine PS.mono (ps_raise h.calm h.tk (pmk_sup T hr (gl_of (by rw [h.sc]; exact hg)) k.mg k.kp ms k.rs he (by rw [starEach_cons hn]; rfl) (okN_d ho))) fun D σV H hh => ?_
    refine tS.step (rel := Rep G) hh fun v σ d S r l s hd p a ha => ?_
    have x1 := Ext.put l ha (.xd [(f, v)])
    refine p _ (some a) σV (r.put a (.xd [(f, v)])) x1 (Rl.put l ha _) (s.ext x1) ⟨⟨rfl, k.lt⟩, .inr ⟨f, a, v, hF, rfl, put_at, Rl.noZ l ha, hd.ext x1⟩⟩
/-! ### lambdas kept -/
def lamOf : Expr → Option LamA
  | .Lambda p b s _ => some ⟨p, b, s⟩
  | _ => none
def lamsOf : List Expr → Option (List LamA)
  | [] => some []
  | e :: es => (match lamOf e, lamsOf es with
    | some l, some ls => some (l :: ls)
    | _, _ => none)
def tLams (T : List (Addr × Str)) (q : Str) (cells : List (Str × Addr)) : List LamA → TA
  | [] => tNil
  | l :: ls => tCons (tLamV T q l.params l.body l.scope (cloFrom cells l.scope.names [])) (tLams T q cells ls)
theorem pa_lams {T : List (Addr × Str)} {c P : Addr} (M : Maker X T c P) : ∀ {es : List Expr} {ls : List LamA}, lamsOf es = some ls → (∀ l ∈ ls, LamS X.env.scope l.scope ∧ noPar l.params = true) → PA X es (tLams T (X.env.qual ++ "<lambda>") X.env.cells ls)
  | [], ls, h, _ => by
    cases h
    exact pa_nil
  | e :: es, ls, h, k => by
    unfold lamsOf at h
    split at h
    · rename_i l ls' h1 h2
      cases h
      unfold lamOf at h1
      split at h1
      · cases h1
        obtain ⟨k1, k2⟩ := k _ (.head _)
        exact pa_cons (pe_lam M k1 (noPar_def k2 _)) (pa_lams M h2 fun l hl => k l (.tail _ hl)) rfl
      · cases h1
    · cases h
/-- the lambdas stand -/
def LamsAt (r : RS) (q : Str) (cells : List (Str × Addr)) (ls : List LamA) (fs : List Addr) : Prop := fs.length = ls.length ∧ ∀ (j : Nat) (f : Addr) (lam : LamA), fs[j]? = some f → ls[j]? = some lam →
  ∃ c' : Addr, r.H f = some (LamO f q lam.params lam.body lam.scope (cloFrom cells lam.scope.names []) c') ∧ ¬ r.Z f ∧ r.H c' = some (CodeO c' q) ∧ ¬ r.Z c'
theorem LamsAt.ext {r r' : RS} {q : Str} {cells : List (Str × Addr)} {ls : List LamA} {fs : List Addr} (h : LamsAt r q cells ls fs) (e : Ext r r') : LamsAt r' q cells ls fs := ⟨h.1, fun j f lam a b => by
  obtain ⟨c', k1, k2, k3, k4⟩ := h.2 j f lam a b
  exact ⟨c', (e.frz _ _ k1 k2 lamO_ne).1, (e.frz _ _ k1 k2 lamO_ne).2, (e.frz _ _ k3 k4 codeO_ne).1, (e.frz _ _ k3 k4 codeO_ne).2⟩⟩
theorem lams_go {q : Str} {cells : List (Str × Addr)} {S : Store} {σV : L2.St} : ∀ (ls : List LamA) (r : RS) (R : List V → Hp → Prop), Rl G r S → (∀ (r1 : RS) (fs : List Addr), Ext r r1 → Rl G r1 S → LamsAt r1 q cells ls fs → R (fs.map V.ref) r1.H) → tLams G.T q cells ls σV r.H R
  | [], r, R, l, k => k r [] (Ext.refl r) l ⟨rfl, fun j f lam a _ => by simp at a⟩
  | lam :: ls, r, R, l, k => by
    refine ⟨l.tabs, fun H1 f c' eN t1 nf hf hc => ?_⟩
    obtain ⟨x1, l1⟩ := lamExt l eN t1
    refine lams_go ls { r with H := H1 } _ l1 fun r2 fs x2 l2 k2 => ?_
    refine k r2 (f :: fs) (x1.trans x2) l2 ⟨by simp [k2.1], fun j f' lam' a b => ?_⟩
    cases j with
    | succ j => exact k2.2 j f' lam' (by simpa using a) (by simpa using b)
    | zero =>
      have a : some f = some f' := a
      have b : some lam = some lam' := b
      cases a
      cases b
      have z1 : ¬ r.Z f := fun z => l.zH f z nf
      have z2 : ¬ r.Z c' := fun z => by
        rcases l.zT c' z with ⟨o, w, t⟩ | ⟨q', w⟩
        · have := eN c' _ w t.1
          rw [hc] at this
          exact t.2 _ _ (Option.some.inj this).symm
        · obtain ⟨ps, h1, _⟩ := t1 _ w
          have h1 : H1 c' = _ := h1
          rw [hc] at h1
          exact codeO_ne ps (Option.some.inj h1)
      exact ⟨c', (x2.frz _ _ hf z1 lamO_ne).1, (x2.frz _ _ hf z1 lamO_ne).2, (x2.frz _ _ hc z2 codeO_ne).1, (x2.frz _ _ hc z2 codeO_ne).2⟩
end
end DL
end
section
set_option Elab.async false
set_option autoImplicit false
set_option linter.all false
set_option maxRecDepth 100000
set_option maxHeartbeats 2000000
/-! DLn: which statement says what a term says. -/
namespace DL
open PySem PySem.Spec PyProof.Rows L2 LamX LX

def swB (sc : Scope) (y : Str) (py pos : Pos) (scope : Scope) : Bool := (sc.names.lookup y == some .local) && (py.line == pos.line) && !(scope.names.any fun (n, k) => n == y && (k == .local || k == .cell))
theorem sw_eq {elt : Expr} {gs : List Comprehension} {scope : Scope} {pos py : Pos} {y : Str} {l : Nat} {env : PySem.Env} (hk : env.scope.kind = .function) :
    swapsWith (.ListComp elt gs scope pos) (some (.Name y py)) l env = pure (swB env.scope y py pos scope) := by
  have hb : env.blockKind = .function := by unfold Env.blockKind; rw [hk]; rfl
  unfold swapsWith swB
  simp only [hb, Expr.pos]
  rfl
def isStar : Expr → Bool
  | .Starred _ _ => true
  | _ => false
def swName (sc : Scope) (line : Nat) : Expr → Option Str
  | .Name id pos => if sc.names.lookup id == some .local && pos.line == line then some id else none
  | _ => none
def swT (sc : Scope) (ts vs : List Expr) : Option (Option (List Str)) :=
  if !(ts.length == 2 || ts.length == 3) || vs.length != ts.length then some none else
  if vs.any isStar then some none else
  if (ts.filterMap (swName sc ((ts.head?.map (·.pos.line)).getD 0))).length != ts.length || (ts.filterMap (swName sc ((ts.head?.map (·.pos.line)).getD 0))).eraseDups.length != (ts.filterMap (swName sc ((ts.head?.map (·.pos.line)).getD 0))).length then some none else
  if vs.all (foldedForSure 8) then some none else
  if vs.all (constantsAlone 8) then none else some (some (ts.filterMap (swName sc ((ts.head?.map (·.pos.line)).getD 0))))
theorem swT_ok {ts vs : List Expr} {k k2 : Nat} {p p2 : Pos} {env : PySem.Env} {o : Option (List Str)} (hk : env.scope.kind = .function) (h : swT env.scope ts vs = some o) :
    swappedStores [.Tuple ts k p] (.Tuple vs k2 p2) env = pure o := by
  have hb : env.blockKind = .function := by unfold Env.blockKind; rw [hk]; rfl
  unfold swappedStores
  unfold swT at h
  simp only [hb]
  have e2 : (ScopeKind.function != ScopeKind.function) = false := rfl
  rw [e2, Bool.or_false]
  refine Eq.trans (b := if (!(ts.length == 2 || ts.length == 3) || vs.length != ts.length) = true then pure none else
    if vs.any isStar = true then pure none else
    if ((ts.filterMap (swName env.scope ((ts.head?.map (·.pos.line)).getD 0))).length != ts.length || (ts.filterMap (swName env.scope ((ts.head?.map (·.pos.line)).getD 0))).eraseDups.length != (ts.filterMap (swName env.scope ((ts.head?.map (·.pos.line)).getD 0))).length) = true then pure none else
    if vs.all (foldedForSure 8) = true then pure none else
    if vs.all (constantsAlone 8) = true then (do unsupported "assign.tuple-of-constant-expressions:order-of-the-stores"; pure (some (ts.filterMap (swName env.scope ((ts.head?.map (·.pos.line)).getD 0))))) else pure (some (ts.filterMap (swName env.scope ((ts.head?.map (·.pos.line)).getD 0))))) rfl ?_
  split at h
  · cases h; rw [if_pos (by assumption)]
  rw [if_neg (by assumption)]
  split at h
  · cases h; rw [if_pos (by assumption)]
  rw [if_neg (by assumption)]
  split at h
  · cases h; rw [if_pos (by assumption)]
  rw [if_neg (by assumption)]
  split at h
  · cases h; rw [if_pos (by assumption)]
  rw [if_neg (by assumption)]
  split at h
  · cases h
  · cases h; rw [if_neg (by assumption)]

theorem sw_none {t v : Expr} {env : PySem.Env} (h : isTup t = false ∨ isTup v = false) (hl : ∀ es p, t ≠ .List es p) : swappedStores [t] v env = pure none := by
  unfold swappedStores
  cases t <;> first
    | rfl
    | (exact absurd rfl (hl _ _))
    | (cases v <;> first | rfl | (rcases h with h | h <;> cases h))
def notList : Expr → Bool
  | .List _ _ => false
  | _ => true
mutual
def chkG : Tg → Cenv → Expr → Bool
  | .nm i, Γ, e => (match e with | .Name x _ => decide (Γ.N[i]? = some x) && locB Γ x && decide (i ∉ Γ.ls) | _ => false)
  | .tp ts, Γ, e => (match e with | .Tuple es _ _ => chkGs ts Γ es | _ => false)
  | .sub o i, Γ, e => (match e with | .Subscript x y _ => plainB y && chkE o Γ x && chkE i Γ y | _ => false)
  | .att _ _, _, _ => false
def chkGs : List Tg → Cenv → List Expr → Bool
  | [], Γ, es => (match es with | [] => true | _ => false)
  | t :: ts, Γ, es => (match es with | e :: es => noStar e && chkG t Γ e && chkGs ts Γ es | _ => false)
end
def isLoc (Γ : Cenv) (x : Str) : Bool := match Γ.sc.names.lookup x with
  | some .local => true
  | _ => false
def chkPar (Γ : Cenv) (tg : Tg) (e : E) (ts vs : List Expr) : Bool := match ts, vs, tg, e with
  | [.Name x _, .Name y _], [a, b], .tp [.nm i, .nm j], .tup es => decide (Γ.N[i]? = some x) && decide (Γ.N[j]? = some y) && decide (i ≠ j) && isLoc Γ x && isLoc Γ y && decide (i ∉ Γ.ls) && decide (j ∉ Γ.ls) && chkEs es Γ [a, b] && decide (swT Γ.sc ts vs = some (some [x, y]))
  | [.Name x _, .Name y _, .Name z _], [a, b, c], .tp [.nm i, .nm j, .nm k], .tup es => decide (Γ.N[i]? = some x) && decide (Γ.N[j]? = some y) && decide (Γ.N[k]? = some z) && decide (i ≠ j) && decide (i ≠ k) && decide (j ≠ k) && isLoc Γ x && isLoc Γ y && isLoc Γ z && decide (i ∉ Γ.ls) && decide (j ∉ Γ.ls) && decide (k ∉ Γ.ls) && chkEs es Γ [a, b, c] && decide (swT Γ.sc ts vs = some (some [x, y, z]))
  | _, _, _, _ => false
def chkAsg (Γ : Cenv) (tg : Tg) (e : E) (t v : Expr) : Bool := noStar t && notList t && (match t, v with
  | .Name y py, .ListComp elt gs scope pos => (match swB Γ.sc y py pos scope with
    | true => (match tg, e, gs with
      | .nm i, .comp tg' it c el own, [⟨te, ie, ifs, 0⟩] => decide (Γ.N[i]? = some y) && isLoc Γ y && decide (i ∉ Γ.ls) && ownOk Γ scope tg' own && chkTg tg' (Γ.blk scope) te && chkI it Γ te ie && chkC c (Γ.blk scope) ifs && chkE el (Γ.blk scope) elt && notSetI ie
      | _, _, _ => false)
    | false => chkG tg Γ t && chkE e Γ v)
  | .Tuple ts _ _, .Tuple vs _ _ => (match swT Γ.sc ts vs with
    | some none => chkG tg Γ t && chkE e Γ v
    | some (some _) => chkPar Γ tg e ts vs
    | none => false)
  | _, _ => notComp v && (!isTup t || !isTup v) && chkG tg Γ t && chkE e Γ v)
mutual
def chkS : DL.St → Cenv → Stmt → Bool
  | .pass, _, s => (match s with | .Pass _ => true | .Expr (.Constant (.str _) _ _) _ => true | _ => false)
  | .cont, _, s => (match s with | .Continue _ => true | _ => false)
  | .brk, _, s => (match s with | .Break _ => true | _ => false)
  | .ret e, Γ, s => (match s with | .Return (some x) _ => chkE e Γ x | _ => false)
  | .retN, _, s => (match s with | .Return none _ => true | _ => false)
  | .asg tg e, Γ, s => (match s with | .Assign [t] v _ => chkAsg Γ tg e t v | _ => false)
  | .app o e, Γ, s => (match s with | .Expr (.Call (.Attribute x n apos) [y] [] cpos) _ => decide (n = "append") && (apos.endLine == cpos.line) && noStar y && notCall x && chkE o Γ x && chkE e Γ y | _ => false)
  | .ext o e, Γ, s => (match s with | .Expr (.Call (.Attribute x n apos) [y] [] cpos) _ => decide (n = "extend") && (apos.endLine == cpos.line) && noStar y && notCall x && chkE o Γ x && chkE e Γ y | _ => false)
  | .augN _ _ _, _, _ => false
  | .augA _ _ _ _, _, _ => false
  | .forL _ _ _, _, _ => false
  | .forC _ _ _, _, _ => false
  | .forT tg it b _, Γ, s => (match s with | .For te ie bs [] _ => chkTg tg Γ te && chkI it Γ te ie && chkB b Γ bs && notSetI ie | _ => false)
  | .exp e, Γ, s => (match s with | .Expr x _ => notComp x && chkE e Γ x | _ => false)
  | .ite t a b, Γ, s => (match s with | .If c as bs _ => chkT t Γ c && chkB a Γ as && chkB b Γ bs | _ => false)
  | .wh t b, Γ, s => (match s with | .While c bs [] _ => chkT t Γ c && chkB b Γ bs | _ => false)
  | .for_ tg it b, Γ, s => (match s with | .For te ie bs [] _ => chkTg tg Γ te && chkI it Γ te ie && chkB b Γ bs && notSetI ie | _ => false)
  | .raise_ c none, Γ, s => (match s with | .Raise (some (.Call (.Name x _) [.Constant (.str _) _ _] [] _)) none _ => decide (Γ.exs[c]? = some x) && decide (Γ.exf[c]? = some none) && glB Γ.sc x && okN x | _ => false)
  | .raise_ c (some e), Γ, s => (match s, Γ.exf[c]? with | .Raise (some (.Call (.Name x _) [y] [] _)) none _, some (some _) => decide (Γ.exs[c]? = some x) && glB Γ.sc x && okN x && noStar y && chkE e Γ y | _, _ => false)
  | .lams _ _, _, _ => false
  | .never, _, _ => true
def chkB : List DL.St → Cenv → List Stmt → Bool
  | [], _, ss => (match ss with | [] => true | _ => false)
  | s :: ss, Γ, xs => (match xs with | x :: xs => chkS s Γ x && chkB ss Γ xs | _ => false)
end
section
variable {G : Glob} {cl : Cl} {gc : List D} {Γ : Cenv} {X : Cx} {W : WX}
mutual
theorem okG (h : XOk G Γ X W cl gc) : ∀ (t : Tg) (e : Expr), chkG t Γ e = true → PG X e (gG G W (asgG cl gc t))
  | .nm i, e, q => by
    unfold chkG at q
    split at q
    · rename_i x pos
      rw [Bool.and_eq_true, Bool.and_eq_true] at q
      have hi := of_decide_eq_true q.1.1
      have q2 := q.1.2
      have hnl : i ∉ G.F.ls := by rw [← h.ls]; exact of_decide_eq_true q.2
      have hl : Loc X.env.scope x ∧ (X.fn x = true ∨ X.env.scope.names.lookup x = some .local) := by
        rw [h.sc]
        unfold locB at q2
        split at q2
        · rename_i e1
          exact ⟨.inl e1, .inr e1⟩
        · rename_i e1
          split at q2
          · rename_i e2
            exact ⟨.inr e1, .inl (h.fn _ e2)⟩
          · cases q2
        · cases q2
      exact gg_name hnl (h.nc i) (by rw [h.hN]; exact h.nd) (by rw [h.hN]; exact hi) hl.1 hl.2
    · cases q
  | .tp ts, e, q => by
    unfold chkG at q
    split at q
    · obtain ⟨h1, h2, h3, h4⟩ := okGs h ts _ q
      exact gg_tup h.hK h.calm h1 h2 h3 h4
    · cases q
  | .sub o i, e, q => by
    unfold chkG at q
    split at q
    · simp only [Bool.and_eq_true] at q
      exact gg_sub (okE o h _ q.1.2) (okE i h _ q.2) q.1.1
    · cases q
  | .att _ _, e, q => by unfold chkG at q; cases q
theorem okGs (h : XOk G Γ X W cl gc) : ∀ (ts : List Tg) (es : List Expr), chkGs ts Γ es = true → PGs X es (gGs G W (asgsG cl gc ts)) ∧ ts.length = es.length ∧ (assignEach es X.env).length = es.length ∧ (assignEach es X.env).findIdx? (·.1) = none
  | [], es, q => by
    unfold chkGs at q
    split at q
    · exact ⟨gg_nil, rfl, rfl, rfl⟩
    · cases q
  | t :: ts, es, q => by
    unfold chkGs at q
    split at q
    · rename_i e es
      simp only [Bool.and_eq_true] at q
      obtain ⟨h1, h2, h3, h4⟩ := okGs h ts es q.2
      have e1 : assignEach (e :: es) X.env = (false, assign e X.env) :: assignEach es X.env := by
        have z := q.1.1
        cases e <;> first | rfl | cases z
      refine ⟨gg_cons (okG h t e q.1.2) h1 (by rw [e1]; rfl), by simp [h2], by rw [e1]; simp [h3], by rw [e1, List.findIdx?_cons]; simp [h4]⟩
    · cases q
end
theorem isLoc_of {x : Str} (h : isLoc Γ x = true) : Γ.sc.names.lookup x = some .local := by
  unfold isLoc at h
  split at h
  · assumption
  · cases h
theorem okAsg (h : XOk G Γ X W cl gc) (hk : Γ.sc.kind = .function) (tg : Tg) (e : E) {t v : Expr} (q : chkAsg Γ tg e t v = true) (pos : Pos) : PS X (.Assign [t] v pos) (tS G W (fun σ S => (evE cl gc e σ S).stm σ fun d S => asgG cl gc tg d σ S)) := by
  have hk' : X.env.scope.kind = .function := by rw [h.sc]; exact hk
  unfold chkAsg at q
  rw [Bool.and_eq_true, Bool.and_eq_true] at q
  obtain ⟨⟨q0, ql⟩, q⟩ := q
  have ql : ∀ es p, t ≠ .List es p := fun es p z => by subst z; cases ql
  split at q
  · rename_i y py elt gs scope p
    split at q
    · rename_i hs
      split at q
      · rename_i i tg' it c el own te ie ifs
        simp only [Bool.and_eq_true, decide_eq_true_eq] at q
        obtain ⟨⟨⟨⟨⟨⟨⟨⟨p1, p2⟩, p3⟩, q1⟩, q2⟩, q3⟩, q4⟩, q5⟩, q6⟩ := q
        obtain ⟨b1, b2, b3⟩ := own_nd h q1
        refine PS.mono (ps_setLc h.calm (by rw [h.hN]; exact h.nd) (by rw [h.hN]; exact p1) (by rw [h.sc]; exact isLoc_of p2) (by rw [sw_eq hk', h.sc, hs]) (okI it h _ _ q3) b1 (fun s H C cs fp => okTg (h.blk _ s H C cs fp) tg' _ q2) (fun s H C cs fp => okC c (h.blk _ s H C cs fp) _ q4) (fun s H C cs fp => okE el (h.blk _ s H C cs fp) _ q5) (setI_of q6 _)) fun E σV H hh => ?_
        rw [b2]
        refine lc_ok (W := W) b3 (fun i _ => h.nc i) ?_
        have : evE cl gc (.comp tg' it c el own) = fun σ S => (evI cl gc it σ S).bind fun ds S => compGo tg' (evC cl gc c) (evE cl gc el) (wipeD σ own) ds [] S := by
          funext σ S; rw [evE]
        rw [← this]
        refine tS.step (rel := Rep G) hh fun v σ d S r l s hd p => ?_
        rw [asgG] at p
        exact p _ r (Ext.refl r) l (s.set hd i (by rw [← h.ls]; exact p3) (h.nc i))
      · cases q
    · rename_i hs
      rw [Bool.and_eq_true] at q
      exact s_asgC (okE e h _ q.2) (okG h tg _ q.1) (by rw [sw_eq hk', h.sc, hs]) (sw_none (.inl rfl) ql) q0
  · rename_i ts k p vs k2 p2
    split at q
    · rename_i hs
      rw [Bool.and_eq_true] at q
      exact s_asg (okE e h _ q.2) (okG h tg _ q.1) rfl (swT_ok hk' (by rw [h.sc]; exact hs)) q0
    · rename_i o hs
      unfold chkPar at q
      split at q
      · simp only [Bool.and_eq_true, decide_eq_true_eq] at q
        obtain ⟨⟨⟨⟨⟨⟨⟨⟨p1, p2⟩, p3⟩, p4⟩, p5⟩, n1⟩, n2⟩, p6⟩, p7⟩ := q
        refine PS.cast (s_par h.calm (by rw [h.hN]; exact h.nd) (by rw [h.hN]; exact p1) (by rw [h.hN]; exact p2) p3 (by rw [← h.ls]; exact n1) (by rw [← h.ls]; exact n2) h.nc (by rw [h.sc]; exact isLoc_of p4) (by rw [h.sc]; exact isLoc_of p5) (okEs _ h _ p6) (swT_ok hk' (by rw [h.sc]; exact p7))) fun σ S => by rw [evE] <;> rfl
      · simp only [Bool.and_eq_true, decide_eq_true_eq] at q
        obtain ⟨⟨⟨⟨⟨⟨⟨⟨⟨⟨⟨⟨⟨p1, p2⟩, p2'⟩, p3⟩, p3'⟩, p3''⟩, p4⟩, p5⟩, p5'⟩, n1⟩, n2⟩, n3⟩, p6⟩, p7⟩ := q
        refine PS.cast (s_par3 h.calm (by rw [h.hN]; exact h.nd) (by rw [h.hN]; exact p1) (by rw [h.hN]; exact p2) (by rw [h.hN]; exact p2') p3 p3' p3'' (by rw [← h.ls]; exact n1) (by rw [← h.ls]; exact n2) (by rw [← h.ls]; exact n3) h.nc (by rw [h.sc]; exact isLoc_of p4) (by rw [h.sc]; exact isLoc_of p5) (by rw [h.sc]; exact isLoc_of p5') (okEs _ h _ p6) (swT_ok hk' (by rw [h.sc]; exact p7))) fun σ S => by rw [evE] <;> rfl
      · cases q
    · cases q
  · simp only [Bool.and_eq_true, Bool.or_eq_true] at q
    obtain ⟨⟨⟨q1, q2⟩, q3⟩, q4⟩ := q
    exact s_asg (okE e h _ q4) (okG h tg _ q3) q1 (sw_none (q2.imp (fun z => by simpa using z) (fun z => by simpa using z)) ql) q0
mutual
theorem okS (h : XOk G Γ X W cl gc) (hR : ∃ n, Room (n + 1) X.A) (hk : Γ.sc.kind = .function) (hp : PassesOwn (model X.prog X.w) X.A X.env X.xe) : ∀ (s : DL.St) (x : Stmt), chkS s Γ x = true → PS X x (tS G W (evS cl gc s))
  | .pass, x, q => by
    unfold chkS at q
    split at q
    · exact PS.cast s_pass fun σ S => by rw [evS]
    · exact PS.cast s_doc fun σ S => by rw [evS]
    · cases q
  | .cont, x, q => by
    unfold chkS at q
    split at q
    · exact PS.cast s_cont fun σ S => by rw [evS]
    · cases q
  | .brk, x, q => by
    unfold chkS at q
    split at q
    · exact PS.cast s_brk fun σ S => by rw [evS]
    · cases q
  | .ret e, x, q => by
    unfold chkS at q
    split at q
    · exact PS.cast (s_ret (okE e h _ q)) fun σ S => by rw [evS]
    · cases q
  | .retN, x, q => by
    unfold chkS at q
    split at q
    · exact PS.cast s_retN fun σ S => by rw [evS]
    · cases q
  | .asg tg e, x, q => by
    unfold chkS at q
    split at q
    · exact PS.cast (okAsg h hk tg e q _) fun σ S => by rw [evS]
    · cases q
  | .app o e, x, q => by
    unfold chkS at q
    split at q
    · simp only [Bool.and_eq_true, decide_eq_true_eq] at q
      obtain ⟨⟨⟨⟨⟨rfl, q1⟩, q2⟩, q3⟩, q4⟩, q5⟩ := q
      exact PS.cast (s_app h.hK (okE o h _ q4) (okE e h _ q5) q2 (base_of q3) q1) fun σ S => by rw [evS] <;> rfl
    · cases q
  | .ext o e, x, q => by
    unfold chkS at q
    split at q
    · simp only [Bool.and_eq_true, decide_eq_true_eq] at q
      obtain ⟨⟨⟨⟨⟨rfl, q1⟩, q2⟩, q3⟩, q4⟩, q5⟩ := q
      exact PS.cast (s_ext h.hK (okE o h _ q4) (okE e h _ q5) q2 (base_of q3) q1) fun σ S => by rw [evS] <;> rfl
    · cases q
  | .augN _ _ _, x, q => by unfold chkS at q; cases q
  | .augA _ _ _ _, x, q => by unfold chkS at q; cases q
  | .forL _ _ _, x, q => by unfold chkS at q; cases q
  | .forC _ _ _, x, q => by unfold chkS at q; cases q
  | .forT tg it b fg, x, q => by
    unfold chkS at q
    split at q
    · simp only [Bool.and_eq_true] at q
      exact PS.cast (s_forT hp h.calm (okI it h _ _ q.1.1.2) (okTg h tg _ q.1.1.1) (okB h hR hk hp b _ q.1.2) (setI_of q.2 _)) fun σ S => by rw [evS]
    · cases q
  | .exp e, x, q => by
    unfold chkS at q
    split at q
    · rw [Bool.and_eq_true] at q
      exact PS.cast (s_exp (okE e h _ q.2) q.1) fun σ S => by rw [evS]
    · cases q
  | .ite t a b, x, q => by
    unfold chkS at q
    split at q
    · simp only [Bool.and_eq_true] at q
      exact PS.cast (s_if (okT t h _ q.1.1) (okB h hR hk hp a _ q.1.2) (okB h hR hk hp b _ q.2)) fun σ S => by rw [evS] <;> rfl
    · cases q
  | .wh t b, x, q => by
    unfold chkS at q
    split at q
    · simp only [Bool.and_eq_true] at q
      exact PS.cast (s_wh hp (okT t h _ q.1) (okB h hR hk hp b _ q.2) turns) fun σ S => by rw [evS]
    · cases q
  | .for_ tg it b, x, q => by
    unfold chkS at q
    split at q
    · simp only [Bool.and_eq_true] at q
      exact PS.cast (s_for hp h.calm (okI it h _ _ q.1.1.2) (okTg h tg _ q.1.1.1) (okB h hR hk hp b _ q.1.2) (setI_of q.2 _)) fun σ S => by rw [evS]
    · cases q
  | .raise_ c none, x, q => by
    unfold chkS at q
    split at q
    · simp only [Bool.and_eq_true, decide_eq_true_eq] at q
      exact PS.cast (s_raise0 h q.1.1.1 (h.exf _ _ q.1.1.2) q.1.2 q.2) fun σ S => by rw [evS]
    · cases q
  | .raise_ c (some e), x, q => by
    unfold chkS at q
    split at q
    · rename_i hf
      simp only [Bool.and_eq_true, decide_eq_true_eq] at q
      exact PS.cast (s_raise1 h hR q.1.1.1.1 (h.exf _ _ hf) q.1.1.1.2 q.1.1.2 (okE e h _ q.2) q.1.2) fun σ S => by rw [evS]
    · cases q
  | .lams _ _, x, q => by unfold chkS at q; cases q
  | .never, x, q => PS.cast s_never fun σ S => by rw [evS]
theorem okB (h : XOk G Γ X W cl gc) (hR : ∃ n, Room (n + 1) X.A) (hk : Γ.sc.kind = .function) (hp : PassesOwn (model X.prog X.w) X.A X.env X.xe) : ∀ (ss : List DL.St) (xs : List Stmt), chkB ss Γ xs = true → PSs X xs (tS G W (evB cl gc ss))
  | [], xs, q => by
    unfold chkB at q
    split at q
    · exact PSs.cast ss_nil fun σ S => by rw [evB]
    · cases q
  | s :: ss, xs, q => by
    unfold chkB at q
    split at q
    · rw [Bool.and_eq_true] at q
      exact PSs.cast (ss_cons (okS h hR hk hp s _ q.1) (okB h hR hk hp ss _ q.2)) fun σ S => by rw [evB]
    · cases q
end
variable {σ : Env}
/-- calls = [lambda: .., ..] -/
theorem s_lams {cl : Cl} {gc : List D} {Γ : Cenv} (h : XOk G Γ X W cl gc) (hmk : Γ.mkl = true) (htop : Γ.top = true) {i k : Nat} {y : Str} {py lp pos : Pos} {es : List Expr} {ls : List LamA} (he : lamsOf es = some ls) (hk : Γ.lt[k]? = some ls) (hi : i ∈ Γ.ls) (hz : Nat.ble es.length 1000 = true)
    (hl : ls.all (fun l => lamSB Γ.sc l.scope && noPar l.params) = true) (hN : X.N[i]? = some y) (hx : Loc X.env.scope y) (hf : X.fn y = true ∨ X.env.scope.names.lookup y = some .local) :
    PS X (.Assign [.Name y py] (.List es lp) pos) (tS G W (fun σ S => .nx (σ.set i (some (.lams k))) S)) := by
  obtain ⟨c, P, M⟩ := h.mkl hmk
  obtain ⟨ht1, ht2, ht3⟩ := h.lam htop
  rw [List.all_eq_true] at hl
  have ha := pa_lams M he fun l hm => by
    have := hl l hm
    rw [Bool.and_eq_true] at this
    exact ⟨lamS_by (by rw [h.sc]; exact this.1), this.2⟩
  refine PS.mono (ps_asg (pe_lst ha) (pg_name (by rw [h.hN]; exact h.nd) hN hx hf) rfl (sw_none (.inl rfl) fun es p z => by cases z) rfl) fun D σV H ⟨σ, S, r, e, l, s, p⟩ => ?_
  subst e
  refine lams_go ls r _ l fun r1 fs x1 l1 k1 => ?_
  have lenE : es.length = ls.length := by
    have : ∀ (es : List Expr) (ls : List LamA), lamsOf es = some ls → es.length = ls.length := by
      intro es
      induction es with
      | nil => intro ls h; cases h; rfl
      | cons e es ih =>
        intro ls h
        unfold lamsOf at h
        split at h
        · rename_i l ls' h1 h2
          cases h
          rw [List.length_cons, List.length_cons, ih _ h2]
        · cases h
    exact this es ls he
  refine ⟨by rw [List.length_map, k1.1, ← lenE, sizeLine_eq]; exact Nat.le_trans (Nat.le_of_ble_eq_true hz) (by decide), fun q hq => ?_⟩
  have x2 := Ext.put l1 hq (.lst (fs.map V.ref))
  have l2 := Rl.put l1 hq (.lst (fs.map V.ref))
  have k2 := k1.ext x2
  refine p (σV.set i (some (.ref q))) (r1.put q (.lst (fs.map V.ref))) (x1.trans x2) l2 (((s.ext x1).ext x2).setS i (.inr ⟨by rw [← h.ls]; exact hi, .inl ⟨k, ls, q, fs, rfl, rfl, by rw [← ht1]; exact hk, put_at, Rl.noZ l1 hq, k2.1, ?_⟩⟩) (h.nc i))
  rw [ht2, ht3]
  exact k2.2
/-! for x in (f, g, lambda ..) -/
def chkCs (Γ : Cenv) : Nat → List D → List Expr → Bool
  | _, [], [] => true
  | m, .fn g :: ds, .Name x _ :: es => decide (Γ.fns[g]? = some (some x)) && glB Γ.sc x && okN x && chkCs Γ m ds es
  | m, .lam j :: ds, .Lambda p b s _ :: es => Nat.beq j m && noFree s && (parsP p).isSome && chkCs Γ (m + 1) ds es
  | _, _, _ => false
def lvE : List Expr → List LamA
  | [] => []
  | e :: es => (match lamOf e with
    | some l => l :: lvE es
    | none => lvE es)
def tCs (T : List (Addr × Str)) (q : Str) (cells : List (Str × Addr)) (fnA : Nat → Addr) : List D → List Expr → TA
  | .fn g :: ds, _ :: es => tCons (tC (.ref (fnA g))) (tCs T q cells fnA ds es)
  | .lam _ :: ds, .Lambda p b s _ :: es => tCons (tLamV T q p b s (cloFrom cells s.names [])) (tCs T q cells fnA ds es)
  | _, _ => tNil
theorem pa_cs {T : List (Addr × Str)} {c P : Addr} (M : Maker X T c P) (h : XOk G Γ X W cl gc) : ∀ {ds : List D} {es : List Expr} {m : Nat}, chkCs Γ m ds es = true → PA X es (tCs T (X.env.qual ++ "<lambda>") X.env.cells G.fnA ds es)
  | [], [], m, q => pa_nil
  | .fn g :: ds, .Name x p :: es, m, q => by
    simp only [chkCs, Bool.and_eq_true, decide_eq_true_eq] at q
    obtain ⟨⟨⟨q1, q2⟩, q3⟩, q4⟩ := q
    obtain ⟨_, _, h1, _⟩ := h.fnAt q1
    exact pa_cons (pe_glob (h.gl q2) h1 rfl (okN_d q3)) (pa_cs M h q4) rfl
  | .lam j :: ds, .Lambda p b s pos :: es, m, q => by
    simp only [chkCs, Bool.and_eq_true] at q
    obtain ⟨⟨⟨q1, q2⟩, q3⟩, q4⟩ := q
    obtain ⟨ps, hps⟩ := Option.isSome_iff_exists.mp q3
    exact pa_cons (pe_lamF M (fun _ _ _ _ _ y hy e => absurd e (noFree_of q2 y hy)) (parsP_def hps _)) (pa_cs M h q4) rfl
/-- the callables stand -/
def CsAt (G : Glob) (r : RS) (ds : List D) (vs : List V) : Prop := ds.length = vs.length ∧ ∀ (j : Nat) (d : D), ds[j]? = some d → ∃ v, vs[j]? = some v ∧ LamC G r d v
theorem CsAt.grow {r r' : RS} {ds : List D} {vs : List V} (h : CsAt G r ds vs) (e : Grow r r') : CsAt G r' ds vs := ⟨h.1, fun j d a => let ⟨v, b, c⟩ := h.2 j d a; ⟨v, b, c.grow e⟩⟩
theorem CsAt.cons {r : RS} {d : D} {ds : List D} {v : V} {vs : List V} (a : LamC G r d v) (h : CsAt G r ds vs) : CsAt G r (d :: ds) (v :: vs) := ⟨by simp [h.1], fun j d' e => by
  cases j with
  | zero =>
    have e : some d = some d' := e
    cases e
    exact ⟨v, rfl, a⟩
  | succ j =>
    obtain ⟨w, b, c⟩ := h.2 j d' (by simpa using e)
    exact ⟨w, by simpa using b, c⟩⟩
theorem cs_go {S : Store} {σV : L2.St} (hF : G.nF = Γ.fns.length) (hlv : Γ.lv = G.F.lv) : ∀ {ds : List D} {es : List Expr} {m : Nat} (r : RS) (R : List V → Hp → Prop), chkCs Γ m ds es = true → (∀ k lam, (lvE es)[k]? = some lam → Γ.lv[m + k]? = some lam) → Rl G r S →
    (∀ (r1 : RS) (vs : List V), Ext r r1 → Rl G r1 S → CsAt G r1 ds vs → R vs r1.H) → tCs G.T (G.F.qual ++ "<lambda>") G.F.cells G.fnA ds es σV r.H R
  | [], [], m, r, R, q, hm, l, k => k r [] (Ext.refl r) l ⟨rfl, fun j d e => by simp at e⟩
  | .fn g :: ds, .Name x p :: es, m, r, R, q, hm, l, k => by
    simp only [chkCs, Bool.and_eq_true, decide_eq_true_eq] at q
    obtain ⟨⟨⟨q1, q2⟩, q3⟩, q4⟩ := q
    refine cs_go (ds := ds) (es := es) hF hlv r (fun vs H2 => R (.ref (G.fnA g) :: vs) H2) q4 (fun k lam e => hm k lam (by simp only [lvE, lamOf]; exact e)) l fun r1 vs x1 l1 c1 => ?_
    exact k r1 _ x1 l1 (.cons (.inr (.inr ⟨g, rfl, .fn (by rw [hF]; exact (List.getElem?_eq_some_iff.mp q1).1)⟩)) c1)
  | .lam j :: ds, .Lambda p b s pos :: es, m, r, R, q, hm, l, k => by
    simp only [chkCs, Bool.and_eq_true] at q
    obtain ⟨⟨⟨q1, q2⟩, q3⟩, q4⟩ := q
    have q1 := Nat.eq_of_beq_eq_true q1
    subst q1
    refine ⟨l.tabs, fun H1 f c' eN t1 nf hf hc => ?_⟩
    obtain ⟨x1, l1⟩ := lamExt l eN t1
    have hm0 := hm 0 ⟨p, b, s⟩ (by simp only [lvE, lamOf]; rfl)
    refine cs_go (ds := ds) (es := es) hF hlv { r with H := H1 } (fun vs H2 => R (.ref f :: vs) H2) q4 (fun k lam e => ?_) l1 fun r2 vs x2 l2 c2 => ?_
    · have := hm (k + 1) lam (by simp only [lvE, lamOf]; simpa using e)
      rw [show j + (k + 1) = j + 1 + k by omega] at this
      exact this
    · have z1 : ¬ r.Z f := fun z => l.zH f z nf
      have z2 : ¬ r.Z c' := fun z => by
        rcases l.zT c' z with ⟨o, w, t⟩ | ⟨q', w⟩
        · have := eN c' _ w t.1
          rw [hc] at this
          exact t.2 _ _ (Option.some.inj this).symm
        · obtain ⟨ps, h1, _⟩ := t1 _ w
          have h1 : H1 c' = _ := h1
          rw [hc] at h1
          exact codeO_ne ps (Option.some.inj h1)
      refine k r2 _ (x1.trans x2) l2 (.cons (.inr (.inl ⟨j, ⟨p, b, s⟩, f, c', rfl, rfl, by rw [← hlv]; exact hm0, (x2.frz _ _ hf z1 lamO_ne).1, (x2.frz _ _ hf z1 lamO_ne).2, (x2.frz _ _ hc z2 codeO_ne).1, (x2.frz _ _ hc z2 codeO_ne).2⟩)) c2)
theorem s_forC {cl : Cl} {gc : List D} {Γ : Cenv} (h : XOk G Γ X W cl gc) (hmk : Γ.mkl = true) (htop : Γ.top = true) (hp : PassesOwn (model X.prog X.w) X.A X.env X.xe) {i m k : Nat} {y : Str} {py p pos : Pos} {ds : List D} {es : List Expr} {bs : List Stmt} {fb : Env → Store → OutS} (q : chkCs Γ m ds es = true) (hlv : ∀ k lam, (lvE es)[k]? = some lam → Γ.lv[m + k]? = some lam) (hz : Nat.ble ds.length 1000 = true)
    (hi : i ∈ Γ.ls) (hN : X.N[i]? = some y) (hx : Loc X.env.scope y) (hf : X.fn y = true ∨ X.env.scope.names.lookup y = some .local) (hb : PSs X bs (tS G W fb)) :
    PS X (.For (.Name y py) (.Tuple es k p) bs [] pos) (tS G W (fun σ S => forGo (.nm i) fb ds σ S)) := by
  obtain ⟨c, P, M⟩ := h.mkl hmk
  obtain ⟨ht1, ht2, ht3⟩ := h.lam htop
  refine PS.mono (ps_for hp h.calm (pi_tup (pe_tup (pa_cs M h q))) (pg_name (by rw [h.hN]; exact h.nd) hN hx hf) hb fun _ => rfl) fun E σV H ⟨σ, S, r0, e, l0, s0, p0⟩ => ?_
  subst e
  show tCs G.T _ _ _ ds es σV r0.H _
  rw [← ht2, ← ht3]
  refine cs_go h.nF h.lv r0 _ q hlv l0 fun r1 vs x1 l1 c1 => ?_
  refine ⟨by rw [← c1.1, sizeLine_eq]; exact Nat.le_trans (Nat.le_of_ble_eq_true hz) (by decide), fun T hT => ?_⟩
  have x2 := Ext.put l1 hT (.tup vs)
  have l2 := Rl.put l1 hT (.tup vs)
  have at2 : (r1.put T (.tup vs)).H T = some (.tup vs) := put_at
  have zT : ¬ (r1.put T (.tup vs)).Z T := Rl.noZ l1 hT
  have c2 := c1.grow x2.toGrow
  have s2 := (s0.ext x1).ext x2
  have p2 := PostS.from (x1.trans x2) p0
  obtain ⟨r, hr⟩ : ∃ r, r = r1.put T (.tup vs) := ⟨_, rfl⟩
  have eH : upd r1.H T (.tup vs) = r.H := by rw [hr]; rfl
  rw [← hr] at x2 l2 at2 zT c2 s2 p2
  rw [eH]
  refine ⟨T, rfl, ⟨_, .inl (.inl at2)⟩, fun i m σV H => m = ds.length - i ∧ i ≤ ds.length ∧ ∃ σ S r', r'.H = H ∧ Ext r r' ∧ Rl G r' S ∧ RSt G r' σ σV ∧ PostS G W E r' (forGo (.nm _) fb (ds.drop i) σ S), ⟨ds.length, by simp, Nat.zero_le _, σ, S, r, rfl, Ext.refl r, l2, s2, p2⟩, ?_⟩
  rintro n m' σV H ⟨rfl, hi2, σ, S, r', rfl, x, l, s, p⟩
  have sq : SqT X.K r'.H T vs := .inl (.inl (x.frz _ _ at2 zT nt_tup).1)
  by_cases hlt : n < ds.length
  · right
    have ed : ds[n]? = some ds[n] := List.getElem?_eq_getElem hlt
    obtain ⟨v, ev, lc⟩ := c2.2 n _ ed
    rw [List.drop_eq_getElem_cons hlt] at p
    unfold forGo at p
    refine ⟨⟨vs, v, sq, ev⟩, fun σV H => (∃ σ S r', r'.H = H ∧ Ext r r' ∧ Rl G r' S ∧ RSt G r' σ σV ∧ PostS G W E r' (forGo (.nm i) fb (ds.drop (n + 1)) σ S)), fun σV' H' q => ⟨ds.length - (n + 1), by omega, rfl, hlt, q⟩, fun v' H' ⟨eH, yy⟩ => ?_⟩
    subst eH
    have e2 := yy vs sq
    rw [ev] at e2
    cases e2
    unfold asg at p
    dsimp only at p
    have s3 : RSt G r' (σ.set i (some ds[n])) (σV.set i (some v)) := s.setS i (.inr ⟨by rw [← h.ls]; exact hi, lc.grow x.toGrow⟩) (h.nc i)
    refine ⟨σ.set i (some ds[n]), S, r', rfl, l, s3, ?_⟩
    cases hq : fb (σ.set i (some ds[n])) S with
    | nx σ1 S1 => rw [hq] at p; exact fun σV' r' e' l' s' => ⟨σ1, S1, r', rfl, x.trans e', l', s', PostS.from e' p⟩
    | ct σ1 S1 => rw [hq] at p; exact fun σV' r' e' l' s' => ⟨σ1, S1, r', rfl, x.trans e', l', s', PostS.from e' p⟩
    | bk σ1 S1 => rw [hq] at p; exact p
    | ret d S1 => rw [hq] at p; exact p
    | exc x σ1 S1 => rw [hq] at p; exact p
    | bad => rw [hq] at p; exact p
  · left
    have e : n = ds.length := by omega
    subst e
    refine ⟨⟨vs, sq, by rw [c2.1]; exact Nat.le_refl _⟩, ?_⟩
    rw [List.drop_length] at p
    unfold forGo at p
    exact p σV r' (Ext.refl r') l s
/-- the lambdas that a def's loops go over -/
def ownLv : Stmt → List LamA
  | .For _ (.Tuple es _ _) _ _ _ => lvE es
  | _ => []
def lvOf : List Stmt → List LamA
  | [] => []
  | s :: ss => ownLv s ++ lvOf ss
/-- a statement's own lambdas -/
def ownLt : Stmt → Option (List LamA)
  | .Assign [.Name _ _] (.List (x :: xs) _) _ => lamsOf (x :: xs)
  | _ => none
/-- the lambdas that a def keeps -/
def ltOf : List Stmt → List (List LamA)
  | [] => []
  | s :: ss => (match ownLt s with
    | some l => l :: ltOf ss
    | none => ltOf ss)
def chkLam (Γ : Cenv) (i : Nat) (ls : List LamA) : Stmt → Bool
  | .Assign [.Name y _] (.List es _) _ => decide (Γ.N[i]? = some y) && locB Γ y && decide (i ∈ Γ.ls) && Nat.ble es.length 1000 && ls.all (fun l => lamSB Γ.sc l.scope && noPar l.params)
  | _ => false
def isLams : DL.St → Option (Nat × Nat)
  | .lams i k => some (i, k)
  | _ => none
def chkFor (Γ : Cenv) (i m : Nat) (ds : List D) (b : List DL.St) : Stmt → Bool
  | .For (.Name y _) (.Tuple es _ _) bs [] _ => decide (Γ.N[i]? = some y) && locB Γ y && decide (i ∈ Γ.ls) && Nat.ble ds.length 1000 && chkCs Γ m ds es && chkB b Γ bs
  | _ => false
def isForC : DL.St → Option (Nat × List D × List DL.St)
  | .forC i ds b => some (i, ds, b)
  | _ => none
/-- a def's body; n: so many lists of lambdas were kept ahead; m: so many lambdas stood ahead in loops' tuples -/
def chkTop : List DL.St → Cenv → Nat → Nat → List Stmt → Bool
  | [], _, _, _, xs => (match xs with | [] => true | _ => false)
  | s :: ss, Γ, n, m, xs => (match xs with
    | x :: xs => (match isForC s with
      | some (i, ds, b) => Γ.mkl && Γ.top && chkFor Γ i m ds b x && chkTop ss Γ n (m + (ownLv x).length) xs
      | none => (match isLams s, ownLt x with
        | some (i, k), some ls => Nat.beq k n && Γ.mkl && Γ.top && chkLam Γ i ls x && chkTop ss Γ (n + 1) (m + (ownLv x).length) xs
        | none, none => chkS s Γ x && chkTop ss Γ n (m + (ownLv x).length) xs
        | _, _ => false))
    | _ => false)
theorem loc_of (h : XOk G Γ X W cl gc) {y : Str} (a2 : locB Γ y = true) : Loc X.env.scope y ∧ (X.fn y = true ∨ X.env.scope.names.lookup y = some .local) := by
  rw [h.sc]
  unfold locB at a2
  split at a2
  · rename_i e1
    exact ⟨.inl e1, .inr e1⟩
  · rename_i e1
    split at a2
    · rename_i e2
      exact ⟨.inr e1, .inl (h.fn _ e2)⟩
    · cases a2
  · cases a2
theorem okTop (h : XOk G Γ X W cl gc) (hR : ∃ n, Room (n + 1) X.A) (hk : Γ.sc.kind = .function) (hp : PassesOwn (model X.prog X.w) X.A X.env X.xe) : ∀ (ss : List DL.St) (n m : Nat) (pre : List (List LamA)) (preV : List LamA) (xs : List Stmt), pre.length = n → preV.length = m → Γ.lt = pre ++ ltOf xs → Γ.lv = preV ++ lvOf xs → chkTop ss Γ n m xs = true → PSs X xs (tS G W (evB cl gc ss))
  | [], n, m, pre, preV, xs, _, _, _, _, q => by
    unfold chkTop at q
    split at q
    · exact PSs.cast ss_nil fun σ S => by rw [evB]
    · cases q
  | s :: ss, n, m, pre, preV, xs, hn, hm, hl, hv, q => by
    unfold chkTop at q
    split at q
    · rename_i x xs
      have hv2 : Γ.lv = (preV ++ ownLv x) ++ lvOf xs := by rw [hv, lvOf, List.append_assoc]
      have hm2 : (preV ++ ownLv x).length = m + (ownLv x).length := by rw [List.length_append, hm]
      split at q
      · rename_i i ds b e1
        simp only [Bool.and_eq_true] at q
        obtain ⟨⟨⟨q1, q2⟩, q3⟩, q4⟩ := q
        have hs : s = .forC i ds b := by
          unfold isForC at e1
          split at e1
          · cases e1; rfl
          · cases e1
        subst hs
        unfold chkFor at q3
        split at q3
        · rename_i y py es k p bs pos
          simp only [Bool.and_eq_true, decide_eq_true_eq] at q3
          obtain ⟨⟨⟨⟨⟨a1, a2⟩, a3⟩, a4⟩, a5⟩, a6⟩ := q3
          have hlt : ltOf (Stmt.For (.Name y py) (.Tuple es k p) bs [] pos :: xs) = ltOf xs := by rw [ltOf]; rfl
          refine PSs.cast (ss_cons (?_ : PS X _ (tS G W (evS cl gc (.forC i ds b)))) (okTop h hR hk hp ss n _ pre _ xs hn hm2 (by rw [hl, hlt]) hv2 q4)) fun σ S => by rw [evB]
          obtain ⟨b1, b2⟩ := loc_of h a2
          refine PS.cast (s_forC h q1 q2 hp a5 (fun k lam e => ?_) a4 a3 (by rw [h.hN]; exact a1) b1 b2 (okB h hR hk hp b _ a6)) fun σ S => by rw [evS]
          rw [hv2, List.getElem?_append_left, List.getElem?_append_right (by omega), hm, Nat.add_sub_cancel_left]
          · exact e
          · have e : (lvE es)[k]? = some lam := e
            have := (List.getElem?_eq_some_iff.mp e).1
            rw [hm2]
            show m + k < m + (lvE es).length
            omega
        · cases q3
      split at q
      · rename_i i k ls e1 e2
        simp only [Bool.and_eq_true] at q
        obtain ⟨⟨⟨⟨q1, q2⟩, q3⟩, q4⟩, q5⟩ := q
        have q1 := Nat.eq_of_beq_eq_true q1
        have hs : s = .lams i k := by
          unfold isLams at e1
          split at e1
          · cases e1; rfl
          · cases e1
        subst hs
        have hlt : ltOf (x :: xs) = ls :: ltOf xs := by rw [ltOf, e2]
        have hgk : Γ.lt[k]? = some ls := by
          rw [hl, hlt, q1, ← hn, List.getElem?_append_right (Nat.le_refl _)]
          simp
        refine PSs.cast (ss_cons (?_ : PS X x (tS G W (evS cl gc (.lams i k)))) (okTop h hR hk hp ss (n + 1) _ (pre ++ [ls]) _ xs (by simp [hn]) hm2 (by rw [hl, hlt]; simp) hv2 q5)) fun σ S => by rw [evB]
        unfold ownLt at e2
        split at e2
        · rename_i y py e es lp pos
          unfold chkLam at q4
          simp only [Bool.and_eq_true, decide_eq_true_eq] at q4
          obtain ⟨⟨⟨⟨a1, a2⟩, a3⟩, a4⟩, a5⟩ := q4
          have hl := loc_of h a2
          exact PS.cast (s_lams h q2 q3 e2 hgk a3 a4 a5 (by rw [h.hN]; exact a1) hl.1 hl.2) fun σ S => by rw [evS]
        · cases e2
      · rename_i e1 e2
        rw [Bool.and_eq_true] at q
        have hlt : ltOf (x :: xs) = ltOf xs := by rw [ltOf, e2]
        exact PSs.cast (ss_cons (okS h hR hk hp s _ q.1) (okTop h hR hk hp ss n _ pre _ xs hn hm2 (by rw [hl, hlt]) hv2 q.2)) fun σ S => by rw [evB]
      · cases q
    · cases q
end
end DL
end
section
set_option Elab.async false
set_option autoImplicit false
set_option linter.all false
set_option maxRecDepth 100000
set_option maxHeartbeats 2000000
/-! DLo: defs. -/
namespace DL
open PySem PySem.Spec PyProof.Rows L2 LamX LX
section
variable {G : Glob} {r r' : RS} {S S' : Store} {W : WX}
/-- a body's end is the call's -/
theorem end_ok {E : XK} {Q : VK} (l : Rl G r S) {o : OutS} (p : Post G (Rep G) (fun c d _ H => E c d H) [] r (endOf S.length o) Q) : PostS G (fun c d _ H => E c d H) { nx := fun _ H' => Q .non H', rt := Q } r o := by
  cases o with
  | nx σ S1 =>
    intro σV r1 e1 l1 s1
    obtain ⟨r2, eH, e2, l2, k, _⟩ := trim_ok (d := .non) l e1 l1
    have := p .non r2 e2 l2 .non
    rw [eH] at this; exact this
  | ret d S1 =>
    intro v r1 e1 l1 h1
    obtain ⟨r2, eH, e2, l2, k, _⟩ := trim_ok (d := d) l e1 l1
    have := p v r2 e2 l2 (k v h1)
    rw [eH] at this; exact this
  | exc x σ S1 =>
    intro cls dd σV r1 e1 l1 s1 h1
    obtain ⟨r2, eH, e2, l2, _, k⟩ := trim_ok (d := x.arg) l e1 l1
    have := p cls dd r2 e2 l2 (k x cls dd rfl h1)
    show E cls dd r1.H
    rw [eH] at this; exact this
  | bk σ S1 => exact False.elim p
  | ct σ S1 => exact False.elim p
  | bad => exact False.elim p
theorem start_ok {ds : List D} {vs : List V} {N : List Str} {n : Nat} (h : Reps G r ds vs) (hn : N.length = n) (hls : ∀ i ∈ G.F.ls, ds.length ≤ i) (hc0 : G.F.cap = []) : RSt G r (startD n ds) (L2.start N vs) := by
  unfold startD L2.start
  refine ⟨by simp [h.length, hn], fun i d q => ?_, fun p hp => by rw [hc0] at hp; cases hp⟩
  by_cases hi : i < ds.length
  · rw [List.getElem?_append_left (by simpa using hi), List.getElem?_map] at q
    cases e : ds[i]? with
    | none => rw [e] at q; cases q
    | some d' =>
      rw [e] at q
      have q : some (some d') = some (some d) := q
      cases q
      obtain ⟨v, h1, h2⟩ := h.get e
      refine ⟨v, ?_, .inl ⟨fun m => absurd (hls i m) (by omega), h2⟩⟩
      rw [List.getElem?_append_left (by rw [List.length_map, ← h.length]; exact hi), List.getElem?_map, h1]; rfl
  · rw [List.getElem?_append_right (by simpa using hi), List.getElem?_replicate] at q
    split at q <;> cases q
end
structure Rowd where
  f : Fn
  d : He.DefD
  N : List Str
  ps : List Str
  ls : List Nat := []
  mkl : Bool := false
def kindF (sc : Scope) : Bool := match sc.kind with
  | .function => true
  | _ => false
def notFree : NameKind → Bool
  | .free => false
  | _ => true
def scopeB (N ps : List Str) (sc : Scope) : Bool := kindF sc && !sc.isCoroutine && !sc.isGenerator && decide N.Nodup && decide (N.take ps.length = ps) &&
  ps.all (fun x => match sc.names.lookup x with | some .local => true | some .cell => true | _ => false) && sc.names.all (fun y => notFree y.2)
theorem kind_of {sc : Scope} (h : kindF sc = true) : sc.kind = .function := by
  unfold kindF at h
  split at h
  · assumption
  · cases h
theorem scope_of {N ps : List Str} {sc : Scope} (h : scopeB N ps sc = true) : FnScope N ps sc := by
  unfold scopeB at h
  simp only [Bool.and_eq_true, List.all_eq_true, decide_eq_true_eq, Bool.not_eq_true'] at h
  obtain ⟨⟨⟨⟨⟨⟨h1, h2⟩, h3⟩, h4⟩, h5⟩, h6⟩, h7⟩ := h
  refine ⟨kind_of h1, h2, h3, h4, h5, fun x hx => ?_, fun y hy e => ?_⟩
  · have := h6 x hx
    split at this
    · exact .inl (by assumption)
    · exact .inr (by assumption)
    · cases this
  · have := h7 y hy
    rw [e] at this; cases this
/-- what the law's text has beside its defs -/
structure Side where
  fns : List (Option Str)
  cons : List Str
  wd : Option WdA
  exs : List Str
  exf : List (Option Str)
  cls : List ClsA
def Rowd.env (r : Rowd) (s : Side) : Cenv := ⟨r.N, r.d.scope, r.d.scope, s.fns, s.cons, r.ls, ltOf r.d.body, r.mkl, true, if r.mkl then s.wd else none, s.exs, s.exf, lvOf r.d.body, true, s.cls⟩
def rowB (s : Side) (r : Rowd) : Bool := scopeB r.N r.ps r.d.scope && Nat.beq r.N.length r.f.sl && Nat.beq r.ps.length r.f.ar && chkTop r.f.body (r.env s) 0 0 r.d.body && r.ls.all (fun i => Nat.ble r.f.ar i)
/-- the law's word of errors, wherever -/
structure WordK (K : PySem.W.Frag) (mg : Str → Option Value) (G : Glob) (wd : WdA) (g : Addr) (cdv : Value) (sg : Scope) (bg : List Stmt) (cA : Str → Addr) : Prop where
  mgx : mg wd.x = some (.ref g)
  kp : PySem.W.keepIn K (.ref g) = true
  lk : ∃ (oc : Value) (od : Option Addr) (osl : Array (Option Value)) (pg : Arguments) (dV kV doc pm ct : Value) (an : Option Addr), K.lookup g = some ⟨oc, od, .func (PySem.W.fnOf wd.x wd.x pg bg sg dV kV doc pm an cdv ct), osl⟩ ∧ L2.Binds K (PySem.W.fnOf wd.x wd.x pg bg sg dV kV doc pm an cdv ct) [wd.a] []
  cd : PySem.W.codeIn K cdv wd.x = true
  sc : FnScope [wd.a, wd.n] [wd.a] sg
  va : Vis sg wd.a
  body : wordB wd.a wd.n (txt wd.fine) wd.hcs bg = true
  ln : sg.names.lookup wd.n = some .local
  n1 : (wd.n == ("__debug__" : Str)) = false
  n2 : (wd.n == ("__classdict__" : Str)) = false
  d1 : (wd.a == ("__debug__" : Str)) = false
  d2 : (wd.a == ("__classdict__" : Str)) = false
  hc : ∀ z ∈ wd.hcs, HcOk K mg sg cA z
  hd : HdsOk G cA wd.hcs wd.hds
theorem HdsOk.fr {G : Glob} {F : Frm} {cA : Str → Addr} : ∀ {cs : List HC} {hs : List Hd}, HdsOk G cA cs hs → HdsOk (G.fr F) cA cs hs
  | [], [], h => h
  | [], _ :: _, h => h
  | _ :: _, [], h => h
  | .plain c w :: cs, _ :: hs, ⟨h1, h2⟩ => ⟨h1, HdsOk.fr h2⟩
  | .kept c f w m :: cs, _ :: hs, ⟨h1, h2⟩ => ⟨h1, HdsOk.fr h2⟩
theorem WordK.ok {K : PySem.W.Frag} {mg : Str → Option Value} {G : Glob} {F : Frm} {wd : WdA} {g : Addr} {cdv : Value} {sg : Scope} {bg : List Stmt} {cA : Str → Addr} (h : WordK K mg G wd g cdv sg bg cA) {X : Cx} (hK : X.K = K) (hm : X.mg = mg) (hg : X.A.guards = some []) (hun : ∀ e : PySem.Env, (X.A.deeper e).units + 64 < cLine) : WordOk (G.fr F) X wd g cdv sg bg cA := by
  subst hK
  subst hm
  exact ⟨h.mgx, h.kp, ⟨h.lk, h.cd, h.sc, h.va⟩, fun q => word_gives h.body h.sc.nd h.ln hg hun h.n1 h.n2 h.hc, h.d1, h.d2, h.hd.fr⟩
/-- an exception class, wherever -/
structure ExK (P : Program) (K : PySem.W.Frag) (mg : Str → Option Value) (G : Glob) (c : Nat) (x : Str) : Prop where
  mgx : mg x = some (.ref (G.exA c))
  kp : PySem.W.keepIn K (.ref (G.exA c)) = true
  su : PySem.W.subIn K (.ref (G.exA c)) (.type "BaseException") = some true
  ty : PySem.W.typeIn K (.ref (G.exA c)) = some (.type "type")
  lt : c < G.nE
  how : (G.exF c = none ∧ ∃ (B newId initId : String) (bmB : List Value), ExcBaseFacts B newId initId bmB ∧ PySem.W.excIn K (G.exA c) bmB newId = true) ∨ (∃ f, G.exF c = some f ∧ mg "super" = none ∧ Nonempty (SupW P K (G.exA c) f))
theorem ExK.ok {P : Program} {K : PySem.W.Frag} {mg : Str → Option Value} {G : Glob} {F : Frm} {c : Nat} {x : Str} (h : ExK P K mg G c x) {X : Cx} (hP : X.prog = P) (hK : X.K = K) (hm : X.mg = mg) : ExOk (G.fr F) X c x := by
  subst hP
  subst hK
  subst hm
  exact ⟨h.mgx, h.kp, raises_own h.su h.ty, h.lt, h.how⟩
structure Setting (P : Program) (w : World) (K : PySem.W.Frag) (mg : Str → Option Value) (G : Glob) (rows : List Rowd) (s : Side) (gc : List D) : Prop where
  hK : G.K = K
  nF : G.nF = s.fns.length
  nR : G.nF = rows.length
  row : ∀ r ∈ rows, rowB s r = true
  fn : ∀ (g : Nat) (r : Rowd), rows[g]? = some r → ∃ fd, FunD K r.d.name r.d.qual r.d.params r.d.body r.d.scope [] [] (G.fnA g) fd ∧ Binds K fd r.ps []
  names : ∀ (g : Nat) (x : Str), s.fns[g]? = some (some x) → mg x = some (.ref (G.fnA g))
  cons : ∀ (k : Nat) (x : Str) (d : D), s.cons[k]? = some x → gc[k]? = some d → ∃ u v, mg x = some u ∧ RelV v u ∧ ∀ r, Rep G r d v
  blt : ∀ x ∈ bltNames, mg x = none
  dig : PySem.W.nsIn K cStatics "sys.int_max_str_digits" = some none
  wd : ∀ wd, s.wd = some wd → ∃ g cdv sg bg cA, WordK K mg G wd g cdv sg bg cA
  ex : ∀ (c : Nat) (x : Str), s.exs[c]? = some x → ExK P K mg G c x
  exf : ∀ (c : Nat) (o : Option Str), s.exf[c]? = some o → G.exF c = o
  cls : ∀ (c : Nat) (a : ClsA), s.cls[c]? = some a → ClsK G K mg c a
/-- the tables of the defs that make lambdas -/
def TabsB (K : PySem.W.Frag) (mg : Str → Option Value) (base : Heap) (G : Glob) (rows : List Rowd) : Prop := ∀ (g : Nat) (r : Rowd) (fd : FuncData), rows[g]? = some r → r.mkl = true → FunD K r.d.name r.d.qual r.d.params r.d.body r.d.scope [] [] (G.fnA g) fd →
  ∃ c P, fd.code = .ref c ∧ TabB base mg c P ∧ (P, r.d.qual ++ ".<locals>." ++ "<lambda>") ∈ G.T ∧ ∀ p ∈ G.T, p.1 = P → p.2 = r.d.qual ++ ".<locals>." ++ "<lambda>"
theorem run_len {fs : List Fn} {gc : List D} {k g : Nat} {ds : List D} {S : Store} {f : Fn} (hf : fs[g]? = some f) (h : run fs gc k g ds S ≠ .bad) : ds.length = f.ar := by
  cases k with
  | zero => exact absurd rfl h
  | succ k =>
    unfold run at h
    rw [hf] at h
    dsimp only at h
    split at h
    · rename_i e; exact Nat.eq_of_beq_eq_true e
    · exact absurd rfl h
theorem sp_len {G : Glob} {fs : List Fn} {gc : List D} {k g : Nat} {f : Fn} (hf : fs[g]? = some f) {vs : List V} {H : Hp} {Q : VK} {E : XK} (h : spD G (run fs gc k) g vs H Q E) : vs.length = f.ar := by
  obtain ⟨ds, S, r, e, l, hs, p⟩ := h
  rw [← hs.length]
  refine run_len hf (S := S) (k := k) (gc := gc) fun z => ?_
  rw [z] at p; exact p
theorem all_ok {P : Program} {w : World} {K : PySem.W.Frag} {mg : Str → Option Value} {base : Heap} {G : Glob} {rows : List Rowd} {sd : Side} {gc : List D} (T : Setting P w K mg G rows sd gc) (HB : TabsB K mg base G rows) :
    ∀ (k g : Nat) (r : Rowd) (fd : FuncData), rows[g]? = some r → FunD K r.d.name r.d.qual r.d.params r.d.body r.d.scope [] [] (G.fnA g) fd → FnG P w K mg base (5 * k) (G.fnA g) fd r.ps (spD G (run (rows.map (·.f)) gc k) g) := by
  intro k
  induction k with
  | zero =>
    intro g r fd hr F
    refine ⟨fun vs H Q E ⟨ds, S, r, e, l, hs, p⟩ => False.elim p, fun A outer s H args us vs Q E _ _ _ _ _ ⟨ds, S, r, e, l, hs, p⟩ => False.elim p⟩
  | succ k ih =>
    intro g r fd hr F
    have hf : (rows.map (·.f))[g]? = some r.f := by rw [List.getElem?_map, hr]; rfl
    have rb := T.row r (List.mem_of_getElem? hr)
    unfold rowB at rb
    simp only [Bool.and_eq_true] at rb
    obtain ⟨⟨⟨⟨b1, b2⟩, b3⟩, b4⟩, b5⟩ := rb
    have hN := Nat.eq_of_beq_eq_true b2
    have hP := Nat.eq_of_beq_eq_true b3
    have sc := scope_of b1
    have HB' := HB g r fd hr
    have HBF := fun hm => HB' hm F
    obtain ⟨oc, od, dV, kV, doc, pm, an, cdv, ct, osl, rfl, lk, hcd, _, _⟩ := F.ex
    have e3 : 5 * (k + 1) = (5 * k + 4) + 1 := by omega
    rw [e3]
    have len : ∀ vs H Q E, spD G (run (rows.map (·.f)) gc (k + 1)) g vs H Q E → vs.length = r.ps.length := fun vs H Q E h => by rw [hP]; exact sp_len hf h
    refine ⟨len, fun A outer s H args us vs Q E hgd hr0 e0 hbt rv h => run_ofS lk hcd sc hr0 e0 hbt rv (len _ _ _ _ h) fun hrm => ?_⟩
    have hlen := sp_len hf h
    generalize hX : cxOf (L2.CX P w) P w K mg base r.N r.d.qual r.d.scope (G.fnA g) cdv A outer s H E = X
    have hF : ∃ F : Frm, F = ⟨X.env.cells, X.env.qual, ltOf r.d.body, r.ls, lvOf r.d.body, []⟩ := ⟨_, rfl⟩
    obtain ⟨F0, hF0⟩ := hF
    rw [← spD_fr (F := F0)] at h
    obtain ⟨ds, S, rs, e, l, hs, p⟩ := h
    refine ⟨tS (G.fr F0) (fun c d _ H => E c d H) (evB (run (rows.map (·.f)) gc k) gc r.f.body), ?_, startD r.f.sl ds, S, rs, e, l, start_ok hs hN ?_ (by rw [hF0]; rfl), ?_⟩
    · have ok : XOk (G.fr F0) (r.env sd) X (fun c d _ H => E c d H) (run (rows.map (·.f)) gc k) gc := by
        subst hX
        have a1 : (A.deeper (envOfC r.d.qual r.d.scope s.heap.objs.size (G.fnA g) cdv)).units + 64 < cLine := by
          have := hrm.un
          omega
        have a2 : FnsN (G.fr F0) (cxOf (L2.CX P w) P w K mg base r.N r.d.qual r.d.scope (G.fnA g) cdv A outer s H E) (run (rows.map (·.f)) gc k) (5 * k) := fun g' hg' => by
          have hg2 : g' < rows.length := by rw [← T.nR]; exact hg'
          have hr' : rows[g']? = some rows[g'] := List.getElem?_eq_getElem hg2
          obtain ⟨fd', F', hb'⟩ := T.fn g' _ hr'
          rw [spD_fr]
          exact ⟨F'.kp, fd', rows[g'].ps, ih g' _ fd' hr' F', hb'⟩
        have a3 : ∀ (k : Nat) (x : Str) (d : D), sd.cons[k]? = some x → gc[k]? = some d → ∃ u v, mg x = some u ∧ RelV v u ∧ ∀ r, Rep (G.fr F0) r d v := fun k x d h1 h2 => by
          obtain ⟨u, v, k1, k2, k3⟩ := T.cons k x d h1 h2
          exact ⟨u, v, k1, k2, fun r => (k3 r).fr⟩
        refine { hK := T.hK.symm, hN := rfl, nd := sc.nd, sc := rfl, fn := fun _ _ => rfl, calm := rfl, un := a1, dig := T.dig, tk := takes_of rfl rfl rfl rfl, gd := hgd, fns := ⟨5 * k, hrm.mono (by omega), fun _ => hrm.mono (by omega), fun _ => hrm, a2⟩, gn := T.names, nF := T.nF, cons := a3, blt := T.blt, ls := by rw [hF0]; rfl, lam := fun _ => by rw [hF0]; exact ⟨rfl, rfl, rfl⟩, mkl := ?m1, lv := by rw [hF0]; rfl, cap0 := by rw [hF0]; rfl, cls := fun c a e => (T.cls c a e).fr, wd := ?m2, ex := fun c x hx => (T.ex c x hx).ok rfl rfl rfl, exf := T.exf }
        case m1 =>
          intro hm
          obtain ⟨c, Pt, k1, k2, k3, k4⟩ := HBF hm
          exact ⟨c, Pt, k2, k1, k3, k4⟩
        case m2 =>
          intro w hw
          have hw : (if r.mkl then sd.wd else none) = some w := hw
          split at hw
          · obtain ⟨g2, cdv2, sg, bg, cA, kw⟩ := T.wd w hw
            refine ⟨g2, cdv2, sg, bg, cA, kw.ok rfl rfl hgd fun e => ?_⟩
            have r1 : Room 1 (A.deeper (envOfC r.d.qual r.d.scope s.heap.objs.size (G.fnA g) cdv)) := Room.mono (j := 1) (k := 5 * k + 4) hrm (by omega)
            have := (Room.deeper (k := 0) r1 e).un
            show ((A.deeper (envOfC r.d.qual r.d.scope s.heap.objs.size (G.fnA g) cdv)).deeper e).units + 64 < cLine
            omega
          · cases hw
      subst hX
      exact okTop ok ⟨_, hrm.mono (by omega : 1 ≤ 5 * k + 4)⟩ sc.kind (passes_of rfl) _ 0 0 [] [] _ rfl rfl rfl rfl b4
    · intro i hi
      rw [show (G.fr F0).F.ls = r.ls by rw [hF0]; rfl] at hi
      have := Nat.le_of_ble_eq_true (List.all_eq_true.mp b5 i hi)
      rw [hs.length, hlen]
      exact this
    · refine end_ok l ?_
      have hb : Nat.beq ds.length r.f.ar = true := by
        rw [hs.length, hlen]; exact Nat.beq_refl _
      unfold run at p
      rw [hf] at p
      dsimp only at p
      rw [if_pos hb] at p
      exact p
end DL
end
section
set_option Elab.async false
set_option autoImplicit false
set_option linter.all false
set_option maxRecDepth 100000
set_option maxHeartbeats 2000000
/-! DLq: exception classes and the head's facts. -/
namespace DL
open PySem PySem.Spec PyProof.Rows L2 LamX LX
/-- the built-in classes under the text's own ones -/
inductive Bs where | value | index | over | arith | lookup
def Bs.nm : Bs → String
  | .value => "ValueError"
  | .index => "IndexError"
  | .over => "OverflowError"
  | .arith => "ArithmeticError"
  | .lookup => "LookupError"
def Bs.newId : Bs → String
  | .value => "ValueError.__new__"
  | .index => "IndexError.__new__"
  | .over => "OverflowError.__new__"
  | .arith => "ArithmeticError.__new__"
  | .lookup => "LookupError.__new__"
def Bs.initId : Bs → String
  | .value => "ValueError.__init__"
  | .index => "IndexError.__init__"
  | .over => "OverflowError.__init__"
  | .arith => "ArithmeticError.__init__"
  | .lookup => "LookupError.__init__"
def Bs.bm : Bs → List Value
  | .value => [.type "ValueError", .type "Exception", .type "BaseException", .type "object"]
  | .index => [.type "IndexError", .type "LookupError", .type "Exception", .type "BaseException", .type "object"]
  | .over => [.type "OverflowError", .type "ArithmeticError", .type "Exception", .type "BaseException", .type "object"]
  | .arith => [.type "ArithmeticError", .type "Exception", .type "BaseException", .type "object"]
  | .lookup => [.type "LookupError", .type "Exception", .type "BaseException", .type "object"]
theorem Bs.FB : ∀ b : Bs, ExcBaseFacts b.nm b.newId b.initId b.bm
  | .value => F.excBase_ValueError
  | .index => F.excBase_IndexError
  | .over => F.excBase_OverflowError
  | .arith => F.excBase_ArithmeticError
  | .lookup => F.excBase_LookupError
theorem Bs.SF : ∀ b : Bs, StoreFacts b.nm b.bm "object.__setattr__" "object"
  | .value => F.store_ValueError
  | .index => F.store_IndexError
  | .over => F.store_OverflowError
  | .arith => F.store_ArithmeticError
  | .lookup => F.store_LookupError
theorem Bs.KF : ∀ b : Bs, PySem.W.KxsFacts b.nm b.initId
  | .value => PySem.W.kxs_ValueError
  | .index => PySem.W.kxs_IndexError
  | .over => PySem.W.kxs_OverflowError
  | .arith => PySem.W.kxs_ArithmeticError
  | .lookup => PySem.W.kxs_LookupError
/-- an __init__ that says super().__init__(arg) and keeps arg -/
structure ExI where
  f : Str
  b : Bs
  self : Str
  arg : Str
  d : He.DefD
structure ExA where
  x : Str
  b : Bs
  i : Option ExI
def supB (self x f : Str) : List Stmt → Bool
  | [.Expr (.Call (.Attribute (.Call (.Name s _) [] [] _) n apos) [.Name x1 _] [] cpos) _, .Assign [.Attribute (.Name s2 _) f2 _] (.Name x2 _) _] =>
    decide (s = "super") && decide (n = "__init__") && decide (x1 = x) && decide (s2 = self) && decide (f2 = f) && decide (x2 = x) && (apos.endLine == cpos.line)
  | _ => false
theorem supB_ok {self x f : Str} {b : List Stmt} (h : supB self x f b = true) : ∃ qp, b = supBody self x f qp ∧ ((qp 4).endLine == (qp 6).line) = true := by
  unfold supB at h
  split at h
  · rename_i s p2 p3 n p4 x1 p5 p6 p7 s2 p8 f2 p9 x2 p10 p11
    simp only [Bool.and_eq_true, decide_eq_true_eq] at h
    obtain ⟨⟨⟨⟨⟨⟨e1, e2⟩, e3⟩, e4⟩, e5⟩, e6⟩, e7⟩ := h
    refine ⟨fun i => match i with | 2 => p2 | 3 => p3 | 4 => p4 | 5 => p5 | 6 => p6 | 7 => p7 | 8 => p8 | 9 => p9 | 10 => p10 | _ => p11, ?_, e7⟩
    rw [e1, e2, e3, e4, e5, e6]
    rfl
  · cases h
def parB (self x : Str) : Arguments → Bool
  | ⟨[], [a, b], none, [], [], none, []⟩ => decide (a.arg = self) && decide (b.arg = x)
  | _ => false
def initB (i : ExI) : Bool := decide (i.d.name = "__init__") && supB i.self i.arg i.f i.d.body && parB i.self i.arg i.d.params && !(i.self == i.arg) && i.d.scope.names.all (fun y => !decide (y.2 = .cell)) && decide (i.d.scope.names.lookup i.self = some .local) && decide (i.d.scope.names.lookup i.arg = some .local) &&
  decide (i.d.scope.names.lookup ("super" : Str) = some .globalImplicit) && decide (i.d.scope.names.lookup ("__class__" : Str) = some .free) && kindFn i.d.scope && !i.d.scope.isCoroutine && !i.d.scope.isGenerator && okN i.arg && okN i.self
/-- what is looked at of a def that closes over __class__ -/
abbrev FnC : Type := Option (Str × Str × Arguments × FuncBody × Scope × Addr × List Str × Value × Addr)
def fnC (K : PySem.W.Frag) (p : Str × Option Str) : FnC := match K.lookup (He.fAd K p) with
  | some ⟨_, _, .func fd, _⟩ => some (fd.name, fd.qualname, fd.params, fd.body, fd.scope, fd.globals, fd.closure.map (·.1), fd.defaults, fd.builtins)
  | _ => none
def valC (d : He.DefD) : FnC := some (d.name, d.qual, d.params, .stmts d.body, d.scope, mainGlobals, ["__class__"], .none, builtinsNs)
/-- the code object's file; what the closure's cell holds -/
def fileB (K : PySem.W.Frag) (P : Program) (cd : Value) : Bool := match cd with
  | .ref c => (match K.lookup c with
    | some ⟨_, _, .fields vs, _⟩ => (match (vs[2]? : Option Value) with
      | some (.str f _) => ((P.main.file : Str) == f)
      | _ => false)
    | _ => false)
  | _ => false
def cellB (K : PySem.W.Frag) (C : Addr) (clo : List (Str × Addr)) : Bool := match clo with
  | [(_, cc)] => (match K.lookup cc with
    | some ⟨_, _, .cell (some (.ref D)), _⟩ => decide (D = C)
    | _ => false)
  | _ => false
def fdB (K : PySem.W.Frag) (P : Program) (C fI : Addr) (q : Str) : Bool := match K.lookup fI with
  | some ⟨_, _, .func fd, _⟩ => PySem.W.codeIn K fd.code q && fileB K P fd.code && cellB K C fd.closure
  | _ => false
def optB (a b : Option Bool) : Bool := decide (a = b)
def exIB (K : PySem.W.Frag) (P : Program) (x : Str) (i : ExI) : Bool :=
  He.eqO (PySem.W.findIn K (.ref (He.ga K x)) "__init__") (some (some (.ref (He.fAd K i.d.at_)))) && PySem.W.excInitIn K (He.ga K x) i.b.bm i.b.newId && PySem.W.isFn K (.ref (He.fAd K i.d.at_)) && fdB K P (He.ga K x) (He.fAd K i.d.at_) i.d.qual &&
  (PySem.W.clsIn K (He.ga K x)).isSome && decide (PySem.W.mroIn K (He.ga K x) (.ref (He.ga K x)) = some true) && He.eqO (PySem.W.nsIn K cStatics "thirdparty.any") (some none) && He.eqO (PySem.W.ks_superIn K (He.ga K x) (He.ga K x) "__init__") (some (some (.builtin i.b.initId))) &&
  decide (PySem.W.subIn K (.ref (He.ga K x)) (.type i.b.nm) = some true) && He.eqO (PySem.W.findIn K (.ref (He.ga K x)) "__setattr__") (some (some (.builtin "object.__setattr__"))) && PySem.W.excOver K (He.ga K x) i.b.bm && He.eqO (PySem.W.takerIn K (He.ga K x) i.f) (some none) && PySem.W.hasDictIn K (He.ga K x)
def P0B (P : Program) : Bool := !(P.main.scope.names.lookup ("super" : Str)).isSome
/-- how the two arguments are bound -/
def BndI (i : ExI) : Prop := ∀ (q : Str) (kV doc pm : Value) (an : Option Addr) (cdv ct : Value) (cc : Addr) (e v : Value), bindArgs (PySem.W.ksFn "__init__" q i.d.params i.d.body i.d.scope .none kV doc pm an cdv ct cc) ⟨[e, v], []⟩ = pure [(i.self, e), (i.arg, v)]
theorem supW_of {K : PySem.W.Frag} {P : Program} {x : Str} {i : ExI} (e : fnC K i.d.at_ = valC i.d) (h : exIB K P x i = true) (hi : initB i = true) (hb : BndI i) (hP : P0B P = true) : Nonempty (SupW P K (He.ga K x) i.f) := by
  unfold exIB at h
  simp only [Bool.and_eq_true, decide_eq_true_eq] at h
  obtain ⟨⟨⟨⟨⟨⟨⟨⟨⟨⟨⟨⟨h1, h2⟩, h3⟩, h4⟩, h5⟩, h6⟩, h7⟩, h8⟩, h9⟩, h10⟩, h11⟩, h12⟩, h13⟩ := h
  unfold initB at hi
  simp only [Bool.and_eq_true, decide_eq_true_eq, Bool.not_eq_true'] at hi
  obtain ⟨⟨⟨⟨⟨⟨⟨⟨⟨⟨⟨⟨⟨s1, s2⟩, s3⟩, s4⟩, s5⟩, s6⟩, s7⟩, s8⟩, s9⟩, s10⟩, s11⟩, s12⟩, s13⟩, s14⟩ := hi
  obtain ⟨qp, eb, hln⟩ := supB_ok s2
  obtain ⟨cd, hcd⟩ := Option.isSome_iff_exists.mp h5
  unfold fnC at e
  unfold fdB at h4
  cases q : K.lookup (He.fAd K i.d.at_) with
  | none => rw [q] at h4; cases h4
  | some o =>
    obtain ⟨oc, od, dt, osl⟩ := o
    rw [q] at h4 e
    cases dt with
    | func fd =>
      simp only [Bool.and_eq_true] at h4
      obtain ⟨⟨k1, k2⟩, k3⟩ := h4
      obtain ⟨n1, n2, n3, n4, n5, n6, n7, n8, n9, n10, n11, n12, n13, n14, n15⟩ := fd
      have e2 : (some (n1, n2, n3, n4, n5, n6, (n7.map (·.1) : List Str), n8, n15) : FnC) = some (i.d.name, i.d.qual, i.d.params, FuncBody.stmts i.d.body, i.d.scope, mainGlobals, (["__class__"] : List Str), .none, builtinsNs) := by unfold valC at e; exact e
      simp only [Option.some.injEq, Prod.mk.injEq] at e2
      obtain ⟨g1, g2, g3, g4, g5, g6, g7, g9, g8⟩ := e2
      dsimp only at k1 k2 k3
      unfold cellB at k3
      split at k3
      · rename_i nm cc
        split at k3
        · rename_i cl cld D csl lc
          have := of_decide_eq_true k3
          subst this
          have g7 : ([nm] : List Str) = (["__class__"] : List Str) := g7
          have hnm : nm = ("__class__" : Str) := (List.cons.inj g7).1
          subst hnm
          unfold fileB at k2
          split at k2
          · rename_i cda
            split at k2
            · rename_i ccl cdd vs ccs lcd
              split at k2
              · rename_i file tf lf
                unfold parB at s3
                split at s3
                · rename_i a b ep
                  simp only [Bool.and_eq_true, decide_eq_true_eq] at s3
                  have lk : K.lookup (He.fAd K i.d.at_) = some ⟨oc, od, .func (PySem.W.ksFn "__init__" i.d.qual i.d.params (supBody i.self i.arg i.f qp) i.d.scope .none n9 n10 n11 n12 (.ref cda) n14 cc), osl⟩ := by
                    rw [q, g1, g2, g3, g4, g5, g6, g8, g9, s1, eb]
                  exact ⟨{ B := i.b.nm, newId := i.b.newId, initId := i.b.initId, bmB := i.b.bm, fI := He.fAd K i.d.at_, cc := cc, cda := cda, qual := i.d.qual, self := i.self, x := i.arg, qp := qp, params := i.d.params, scope := i.d.scope, dV := .none, kV := n9, doc := n10, pm := n11, ct := n14, oc := oc, ccl := ccl, cl := cl, an := n12, od := od, cdd := cdd, cld := cld, osl := osl, ccs := ccs, csl := csl, vs := vs, file := file, tf := tf, cd := cd, ar := a, FB := i.b.FB, SF := i.b.SF, KF := i.b.KF, hi := He.eqO_ok h1, qC := h2, hf := h3, lk := lk, hcd := k1, hcode := lcd, hvs := lf, hfile := k2, htop := (by unfold P0B at hP; simpa using hP), hcell := lc, hC := hcd, hsub := h6, ho := He.eqO_ok h7, hm := He.eqO_ok h8, hB := h9, hsa := He.eqO_ok h10, hov := h11, htk := He.eqO_ok h12, hh := h13, hp := (by rw [ep]; rfl), har := s3.1, hsx := s4, hbind := (fun s e v => .of_eq (by rw [← eb]; exact hb _ _ _ _ _ _ _ _ _ _)), kc := s5, ks := s6, kx := s7, ksu := s8, kcl := s9, kk := kindFn_eq s10, hln := hln, kco := s11, kge := s12, kd := okN_d s13, kds := okN_d s14 }⟩
                · cases s3
              · cases k2
            · cases k2
          · cases k2
        · cases k3
      · cases k3
    | _ => exact absurd h4 Bool.false_ne_true
end DL
end
section
set_option Elab.async false
set_option autoImplicit false
set_option linter.all false
set_option maxRecDepth 100000
set_option maxHeartbeats 2000000
/-! LXn: the law's call, by a promise that wants no repr under way. -/
namespace LX
open PySem PySem.Spec PyProof.Rows L2 LamX
/-- at the start: tables at tb, the script at a where it is not a written one -/
def H0 (K : PySem.W.Frag) (a : Addr) (o : Obj) (xs : List V) (tb : List Addr) : Hp := fun b =>
  if b ∈ tb then some (.tbl #[]) else if b = a ∧ K.lookup a = none then some (.frz o (.lst xs)) else none
section
variable {K : PySem.W.Frag} {a : Addr} {o : Obj} {xs : List V} {tb : List Addr}
theorem H0.tab {b : Addr} (h : b ∈ tb) : H0 K a o xs tb b = some (.tbl #[]) := by
  unfold H0
  rw [if_pos h]
theorem H0.scr (h : a ∉ tb) (k : K.lookup a = none) : H0 K a o xs tb a = some (.frz o (.lst xs)) := by
  unfold H0
  rw [if_neg h, if_pos ⟨rfl, k⟩]
theorem H0.inv {b : Addr} {u : HO} (h : H0 K a o xs tb b = some u) : (b ∈ tb ∧ u = .tbl #[]) ∨ (b ∉ tb ∧ b = a ∧ K.lookup a = none ∧ u = .frz o (.lst xs)) := by
  unfold H0 at h
  by_cases h1 : b ∈ tb
  · rw [if_pos h1] at h
    exact .inl ⟨h1, (Option.some.inj h).symm⟩
  · rw [if_neg h1] at h
    by_cases h2 : b = a ∧ K.lookup a = none
    · rw [if_pos h2] at h
      exact .inr ⟨h1, h2.1, h2.2, (Option.some.inj h).symm⟩
    · rw [if_neg h2] at h
      cases h
theorem H0.none {b : Addr} (h1 : b ∉ tb) (h2 : ¬ (b = a ∧ K.lookup a = none)) : H0 K a o xs tb b = none := by
  unfold H0
  rw [if_neg h1, if_neg h2]
end
/-- neither a list's nor an empty record's data -/
def Plain (d : Data) : Prop := (∀ vs n, d ≠ .seq vs n) ∧ d ≠ .fields #[]
theorem Plain.dict {es : Array DictEntry} {ep : Nat} : Plain (.dict es ep) := ⟨fun vs n h => (by cases h), fun h => (by cases h)⟩
section
variable {P : Program} {w : World} {K : PySem.W.Frag} {mg mb : Str → Option Value} {k : Nat} {f a : Addr} {cs : List (Addr × Addr)} {fd : FuncData} {x : Str} {sp : Sp} {s : Shared} {vs : List Value} {ns : List Int}
theorem law_callG (kin : K.In s.heap) (gl : s.heap.Ns mainGlobals mg) (bl : s.heap.Ns builtinsNs mb) (bl2 : ∀ y : Str, y ≠ "__name__" → mb y = bootBuiltins y) (nl : s.heap.NoLimit) (gens : s.gens = #[])
    (tab : ∀ p ∈ cs, s.heap.get? p.2 = some { cls := .none, data := .fields #[] }) (tabK : ∀ p ∈ cs, K.lookup p.2 = none) (code : ∀ p ∈ cs, PySem.W.CodeHd s.heap p.1 p.2)
    (bmod : ∃ (m : Addr) (om : Obj), mg "__builtins__" = some (.ref m) ∧ m ≠ builtinsNs ∧ s.heap.get? m = some om ∧ om.cls = .type "module" ∧ om.dict = some builtinsNs ∧ om.data = .plain)
    (scr : s.heap.get? a = some { cls := .type "list", data := .seq vs.toArray }) (hints : IntsAre vs ns) (few : ns.length ≤ sizeLine) (room : Room k callerA)
    (F : ∀ base : Heap, K.In base → base.Ns mainGlobals mg → (∀ p ∈ cs, TabB base mg p.1 p.2) → FnG P w K mg base k f fd [x] sp) (bind : ∀ (s : Shared) (u : Value), BindsTo s fd ⟨[u], []⟩ [(x, u)])
    (says : ∀ H : Hp, (∀ p ∈ cs, H p.2 = some (.tbl #[])) → SqL K H a (ns.map V.int) → sp [.ref a] H (fun v _ => v = .bl true) fun _ _ _ => False) :
    codeAny (model P w) callerA (.call (.ref f) ⟨[.ref a], []⟩) (fun r s' => r = .ok (.ret (.bool true)) ∧ OldK s.heap s'.heap ∧ s'.os = s.os ∧ AllBare s'.gens) s := by
  obtain ⟨tb, etb⟩ : ∃ tb, tb = cs.map (fun p => p.2) := ⟨_, rfl⟩
  obtain ⟨H, eH⟩ : ∃ H, H = H0 K a { cls := .type "list", data := .seq vs.toArray } (ns.map V.int) tb := ⟨_, rfl⟩
  have inT : ∀ {b : Addr}, b ∈ tb → ∃ p ∈ cs, p.2 = b := fun {b} hb => by
    rw [etb] at hb
    exact List.mem_map.mp hb
  have toT : ∀ {p : Addr × Addr}, p ∈ cs → p.2 ∈ tb := fun {p} hp => by
    rw [etb]
    exact List.mem_map.mpr ⟨p, hp, rfl⟩
  have atT : ∀ {b : Addr}, b ∈ tb → s.heap.get? b = some { cls := .none, data := .fields #[] } := fun {b} hb => by
    obtain ⟨p, hp, e⟩ := inT hb
    rw [← e]
    exact tab p hp
  have aOut : a ∉ tb := fun hb => by
    have q := (atT hb).symm.trans scr
    injection q with q
    cases q
  have inv : ∀ {b : Addr} {u : HO}, H b = some u → (b ∈ tb ∧ u = .tbl #[]) ∨ (b ∉ tb ∧ b = a ∧ K.lookup a = none ∧ u = .frz { cls := .type "list", data := .seq vs.toArray } (.lst (ns.map V.int))) := fun {b u} h => by
    rw [eH] at h
    exact H0.inv h
  -- what is not tracked
  have free : ∀ {b : Addr} {o : Obj}, s.heap.get? b = some o → Plain o.data → H b = none := fun {b o} e pl => by
    cases q : H b with
    | none => rfl
    | some u =>
      exfalso
      rcases inv q with ⟨h1, _⟩ | ⟨_, h1, _, _⟩
      · rw [atT h1] at e
        injection e with e
        subst e
        exact pl.2 rfl
      · rw [h1, scr] at e
        injection e with e
        subst e
        exact pl.1 _ _ rfl
  have low : ∀ {b : Addr} {o : Obj}, s.heap.get? b = some o → Plain o.data → (hidT s.heap H).get? b = some o := fun {b o} e pl => hidT_get e (free e pl)
  have lowNs : ∀ {b : Addr} {m : Str → Option Value}, s.heap.Ns b m → (hidT s.heap H).Ns b m := fun {b m} ⟨o, es, ep, e, d, r⟩ => ⟨o, es, ep, low e (by rw [d]; exact Plain.dict), d, r⟩
  have kinB : K.In (hidT s.heap H) := fun b o e => by
    refine hidT_get (kin b o e) ?_
    cases q : H b with
    | none => rfl
    | some u =>
      exfalso
      rcases inv q with ⟨h1, _⟩ | ⟨_, h1, h2, _⟩
      · obtain ⟨p, hp, ep⟩ := inT h1
        have := tabK p hp
        rw [ep, e] at this
        cases this
      · rw [h1, h2] at e
        cases e
  have hok : HOk P w H s.heap := fun b u hb => by
    rcases inv hb with ⟨h1, rfl⟩ | ⟨_, rfl, _, rfl⟩
    · exact atT h1
    · exact ⟨scr, by rw [List.length_map]; exact few, vs, _, vals_ints hints, scr⟩
  have sq : SqL K H a (ns.map V.int) := by
    cases q : K.lookup a with
    | none => exact .inl (.inr ⟨_, by rw [eH]; exact H0.scr aOut q⟩)
    | some o =>
      have e := (kin a o q).symm.trans scr
      injection e with e
      subst e
      exact .inr ⟨_, vs.toArray, _, q, rfl, rfl, rfl, by rw [List.size_toArray, hints.length]; exact few, by simpa using vals_ints hints⟩
  have tabH : ∀ p ∈ cs, H p.2 = some (.tbl #[]) := fun p hp => by
    rw [eH]
    exact H0.tab (toT hp)
  have tabB : ∀ p ∈ cs, TabB (hidT s.heap H) mg p.1 p.2 := fun p hp => by
    have t := tab p hp
    obtain ⟨go, ges, gep, ge, gd, _⟩ := id gl
    constructor
    · obtain ⟨o, us, file, tf, flags, tg, inF, text, tt, e, r1, r2, r3, r4⟩ := code p hp
      refine ⟨o, us, file, tf, flags, tg, inF, text, tt, low e ?_, r1, r2, r3, r4⟩
      rw [r2]
      refine ⟨fun vs n h => (by cases h), fun h => ?_⟩
      injection h with h
      rw [h] at r3
      simp at r3
    · obtain ⟨m, om, m1, m2, m3, m4, m5, m6⟩ := bmod
      refine ⟨m, om, m1, m2, fun h => ?_, fun h => ?_, low m3 (by rw [m6]; exact ⟨fun vs n h => (by cases h), fun h => (by cases h)⟩), m4, m5, m6⟩
      · rw [h, ge] at m3
        injection m3 with m3
        rw [← m3, gd] at m6
        cases m6
      · rw [h, t] at m3
        injection m3 with m3
        rw [← m3] at m6
        cases m6
    · intro h
      rw [h, t] at ge
      injection ge with ge
      rw [← ge] at gd
      cases gd
  have mod : L2.Mod K mg (hidT s.heap H) := by
    refine ⟨kinB, lowNs gl, ⟨mb, lowNs bl, bl2⟩, ?_⟩
    obtain ⟨mc, h1, h2⟩ := nl
    exact ⟨mc, lowNs h1, h2⟩
  have env : Env0 P w K mg (hidT s.heap H) callerA [] s H := {
    frames := rfl
    mod := mod
    bs := fun b o e => of_hidT e
    bsz := Nat.le_of_eq (hidT_size s.heap H)
    funs := trivial
    frf := fun b hb => absurd (show b ∈ ([] : List Addr) from hb) List.not_mem_nil
    hok := hok
    bare := .of_eq gens }
  have ran := (F _ kinB (lowNs gl) tabB).run callerA [] s H ⟨[.ref a], []⟩ [.ref a] [.ref a] (fun v _ => v = .bl true) (fun _ _ _ => False) rfl room env (bind s _) (.cons rfl .nil) (says H tabH sq)
  refine codeAny_mono ran fun r s' hr => ?_
  rcases r with e | fl
  · obtain ⟨_, _, _, _, _, _, _, _, _, _, _, _, z⟩ := (show L2.CX P w [] H s (fun _ _ _ => False) e s' from hr)
    exact z.elim
  · cases fl with
    | next => exact (show False from hr).elim
    | brk => exact (show False from hr).elim
    | cont => exact (show False from hr).elim
    | ret u =>
      obtain ⟨v, H1, os, bare, un, hok1, rv, ev⟩ := (show CE [] P w H s _ u s' from hr)
      have ev : v = .bl true := ev
      subst ev
      obtain rfl : u = Value.bool true := rv
      have grown : ∀ {b : Addr}, b ∈ tb → ∃ more : Array Value, s'.heap.get? b = some { cls := .none, data := .fields more } := fun {b} hb => by
        obtain ⟨more, q⟩ := un.tbls b #[] (by rw [eH]; exact H0.tab hb)
        exact ⟨_, hok1 b _ q⟩
      have same : ∀ {b : Addr} {o : Obj}, b ∉ tb → s.heap.get? b = some o → s'.heap.get? b = some o := fun {b o} hb e => by
        cases q : H b with
        | none => exact un.keep b o e q (show b ∉ ([] : List Addr) from List.not_mem_nil) List.not_mem_nil
        | some u =>
          rcases inv q with ⟨h1, _⟩ | ⟨_, rfl, _, rfl⟩
          · exact absurd h1 hb
          · obtain ⟨e2, _⟩ := hok1 b _ (un.frzs b _ _ q)
            rw [scr] at e
            injection e with e
            rw [← e]
            exact e2
      refine ⟨rfl, ⟨fun b o e => ?_, fun b o e => ?_⟩, os, bare⟩
      · by_cases hb : b ∈ tb
        · obtain ⟨p, hp, rfl⟩ := inT hb
          obtain ⟨more, hm⟩ := grown hb
          rw [tab p hp] at e
          injection e with e
          subst e
          refine .inr (.inl ⟨((code p hp).tab (tab p hp)).isCodeTable, rfl, #[], more, rfl, ?_⟩)
          rw [Array.empty_append]
          exact hm
        · exact .inl (same hb e)
      · by_cases hb : b ∈ tb
        · obtain ⟨more, hm⟩ := grown hb
          exact ⟨_, hm⟩
        · exact ⟨o, same hb e⟩
end
end LX
end
section
set_option Elab.async false
set_option autoImplicit false
set_option linter.all false
set_option maxRecDepth 100000
set_option maxHeartbeats 2000000
/-! DLp: a law's end. -/
namespace DL
open PySem PySem.Spec PyProof.Rows L2 LamX LX
/-! ### constants -/
mutual
def dB (K : PySem.W.Frag) : D → Value → Bool
  | .non, u => (match u with | .none => true | _ => false)
  | .bl b, u => (match u with | .bool c => b == c | _ => false)
  | .int i, u => (match u with | .int j _ => decide (i = j) | _ => false)
  | .str x, u => (match u with | .str y _ => decide (y = txt x) | _ => false)
  | .tup ds, u => (match u with | .ref T => (match K.lookup T with | some ⟨.type c, _, .seq its _, _⟩ => decide (c = "tuple") && decide (its.size ≤ sizeLine) && dsB K ds its.toList | _ => false) | _ => false)
  | .lst _, _ => false
  | .ref _, _ => false
  | .fn _, _ => false
  | .exn _ _, _ => false
  | .scr _, _ => false
  | .map _ _, _ => false
  | .lams _, _ => false
  | .lam _, _ => false
  | .obj _ _, _ => false
  | .dct _, _ => false
def dsB (K : PySem.W.Frag) : List D → List Value → Bool
  | [], us => (match us with | [] => true | _ => false)
  | d :: ds, us => (match us with | u :: us => dB K d u && dsB K ds us | _ => false)
end
mutual
theorem dB_ok {G : Glob} : ∀ {d : D} {u : Value}, dB G.K d u = true → ∃ v, RelV v u ∧ ∀ r, Rep G r d v
  | .non, u, h => by
    unfold dB at h
    split at h
    · exact ⟨.non, rfl, fun _ => .non⟩
    · cases h
  | .bl b, u, h => by
    unfold dB at h
    split at h
    · have := eq_of_beq h; subst this; exact ⟨.bl _, rfl, fun _ => .bl _⟩
    · cases h
  | .int i, u, h => by
    unfold dB at h
    split at h
    · have := of_decide_eq_true h; subst this; exact ⟨.int _, ⟨_, rfl⟩, fun _ => .int _⟩
    · cases h
  | .str x, u, h => by
    unfold dB at h
    split at h
    · have := of_decide_eq_true h; subst this; exact ⟨.str _, ⟨_, rfl⟩, fun _ => .str _⟩
    · cases h
  | .tup ds, u, h => by
    cases u with
    | ref T =>
      have h : (match G.K.lookup T with | some ⟨.type c, _, .seq its _, _⟩ => decide (c = "tuple") && decide (its.size ≤ sizeLine) && dsB G.K ds its.toList | _ => false) = true := by
        unfold dB at h; exact h
      split at h
      · rename_i c od its n sl e
        simp only [Bool.and_eq_true, decide_eq_true_eq] at h
        obtain ⟨⟨rfl, h2⟩, h3⟩ := h
        obtain ⟨vs, h4, h5⟩ := dsB_ok h3
        exact ⟨.ref T, rfl, fun r => .tup (.inr ⟨_, its, n, e, rfl, rfl, h2, h4⟩) (h5 r)⟩
      · cases h
    | _ => unfold dB at h; cases h
  | .lst _, u, h => by unfold dB at h; cases h
  | .ref _, u, h => by unfold dB at h; cases h
  | .fn _, u, h => by unfold dB at h; cases h
  | .exn _ _, u, h => by unfold dB at h; cases h
  | .scr _, u, h => by unfold dB at h; cases h
  | .map _ _, u, h => by unfold dB at h; cases h
  | .lams _, u, h => by unfold dB at h; cases h
  | .lam _, u, h => by unfold dB at h; cases h
  | .obj _ _, u, h => by unfold dB at h; cases h
  | .dct _, u, h => by unfold dB at h; cases h
theorem dsB_ok {G : Glob} : ∀ {ds : List D} {us : List Value}, dsB G.K ds us = true → ∃ vs, Vals vs us ∧ ∀ r, Reps G r ds vs
  | [], us, h => by
    unfold dsB at h
    split at h
    · exact ⟨[], .nil, fun _ => .nil⟩
    · cases h
  | d :: ds, us, h => by
    unfold dsB at h
    split at h
    · rw [Bool.and_eq_true] at h
      obtain ⟨v, h1, h2⟩ := dB_ok h.1
      obtain ⟨vs, h3, h4⟩ := dsB_ok h.2
      exact ⟨v :: vs, .cons h1 h3, fun r => .cons (h2 r) (h4 r)⟩
    · cases h
end
def conB (cons : List Str) (gc : List D) (K : PySem.W.Frag) : Bool := (cons.zip gc).all fun p => match PySem.W.nsIn K mainGlobals p.1 with
  | some (some u) => dB K p.2 u
  | _ => false
/-! ### a law's parts -/
structure LawP where
  rows : List Rowd
  cons : List Str
  gc : List D
  exs : List ExA
  wd : Option (WdA × He.DefD)
namespace LawP
variable (L : LawP)
def side : Side := ⟨L.rows.map (fun r => some r.d.at_.1), L.cons, L.wd.map (·.1), L.exs.map (·.x), L.exs.map fun a => a.i.map (·.f), []⟩
def tf : List Rowd := L.rows.filter (·.mkl)
def inits : List ExI := L.exs.filterMap (·.i)
def fn : List He.DefD := L.rows.map (·.d) ++ (L.wd.map (·.2)).toList
def fa : List He.Fa := L.rows.map (fun r => .glo r.d.at_.1) ++ bltNames.map .free ++ [.free "super"] ++ (match L.wd with | some p => .glo p.1.x :: p.1.hcs.map (fun c => .glo c.c) | none => [])
end LawP
/-! ### the facts of the head -/
def digB (K : PySem.W.Frag) : Bool := decide (PySem.W.nsIn K cStatics "sys.int_max_str_digits" = some none)
/-- the exception classes -/
def exOne (P : Program) (K : PySem.W.Frag) (a : ExA) : Bool := He.eqO (PySem.W.nsIn K mainGlobals a.x) (some (some (.ref (He.ga K a.x)))) && PySem.W.keepIn K (.ref (He.ga K a.x)) && decide (PySem.W.subIn K (.ref (He.ga K a.x)) (.type "BaseException") = some true) &&
  decide (PySem.W.typeIn K (.ref (He.ga K a.x)) = some (.type "type")) && (match a.i with | none => PySem.W.excIn K (He.ga K a.x) a.b.bm a.b.newId | some i => exIB K P a.x i)
/-- the clauses of the word -/
def hdOne (K : PySem.W.Frag) (exs : List ExA) (c : HC) (h : Hd) : Bool :=
  ((exs.zipIdx).all fun a => decide (PySem.W.exmOne K (.ref (He.ga K a.1.x)) (.ref (He.ga K c.c)) = some (h.cs.elem a.2))) && (match c with
  | .plain c w => decide (h.m = none) && decide (w = txt h.w)
  | .kept c f w m => decide (h.m = some m) && decide (w = txt h.w) && xfB K (He.ga K c) && He.eqO (PySem.W.findIn K (.ref (He.ga K c)) f) (some none) && (exs.zipIdx).all fun a => !(h.cs.elem a.2) || (decide (He.ga K a.1.x = He.ga K c) && decide (a.1.i.map (·.f) = some f)))
def hdAll (K : PySem.W.Frag) (exs : List ExA) : List HC → List Hd → Bool
  | [], [] => true
  | c :: cs, h :: hs => hdOne K exs c h && hdAll K exs cs hs
  | _, _ => false
def tabA (K : PySem.W.Frag) (r : Rowd) : Addr := (He.cT K r.d.at_).2
def lamQ (r : Rowd) : Str := r.d.qual ++ ".<locals>." ++ "<lambda>"
def exAll (L : LawP) (P : Program) (K : PySem.W.Frag) : Bool := digB K && conB L.cons L.gc K && L.exs.all (exOne P K) && (match L.wd with | some p => hdAll K L.exs p.1.hcs p.1.hds | none => true) &&
  (L.tf.all fun r => (K.lookup (tabA K r)).isNone && PySem.W.codeHdIn K (He.cT K r.d.at_).1 (tabA K r)) && decide (L.tf.map (tabA K)).Nodup
def tabAll (L : LawP) (g : Addr → Option Obj) (K : PySem.W.Frag) : Bool := L.tf.all fun r => match g (tabA K r) with
  | some o => He.emptyTab o
  | none => false
def asI (g : Addr → Option Obj) (L : LawP) (as : List Addr) (K0 : PySem.W.Frag) : List Addr := as ++ L.inits.flatMap fun i => He.growD g [He.fAd K0 i.d.at_]
def asL (g : Addr → Option Obj) (L : LawP) (as : List Addr) : List Addr := asI g L as (He.frG g as)
def frL (L : LawP) (g : Addr → Option Obj) : PySem.W.Frag := He.frG g (asL g L (cStatics :: He.asD g 2))
abbrev AlL : Type := (He.AlD × Bool) × List FnC
def obsK (L : LawP) (P : Program) (g : Addr → Option Obj) (K : PySem.W.Frag) : AlL := ((He.obsD L.fa L.fn K, exAll L P K && tabAll L g K), L.inits.map fun i => fnC K i.d.at_)
def obsL (L : LawP) (P : Program) (g : Addr → Option Obj) : AlL := obsK L P g (frL L g)
def valL (L : LawP) : AlL := ((He.valD L.fn, true), L.inits.map fun i => valC i.d)
structure SaysL (L : LawP) (P : Program) (h : Heap) (K : PySem.W.Frag) : Prop where
  d : He.SaysD L.fa L.fn K
  more : exAll L P K = true
  tab : ∀ r ∈ L.tf, h.get? (tabA K r) = some { cls := .none, data := .fields #[] }
  ini : ∀ i ∈ L.inits, fnC K i.d.at_ = valC i.d
theorem saysL_of {L : LawP} {P : Program} {h : Heap} (e : obsL L P h.get? = valL L) : SaysL L P h (frL L h.get?) := by
  have e1 := congrArg (fun z : AlL => z.1.1) e
  have e2 := congrArg (fun z : AlL => z.1.2) e
  have e3 := congrArg (fun z : AlL => z.2) e
  have e2 : (exAll L P (frL L h.get?) && tabAll L h.get? (frL L h.get?)) = true := e2
  rw [Bool.and_eq_true] at e2
  refine ⟨e1, e2.1, fun r hr => ?_, fun i hi => ?_⟩
  · have := List.all_eq_true.mp e2.2 r hr
    split at this
    · rename_i o q
      rw [q, He.emptyTab_eq this]
    · cases this
  · have e3 : L.inits.map (fun i => fnC (frL L h.get?) i.d.at_) = L.inits.map fun i => valC i.d := e3
    exact List.map_inj_left.mp e3 i hi
def hookL (L : LawP) (P : Program) : PySem.W.Hook where
  α := AlL
  obs := fun s => obsL L P s.heap.get?
  val := fun _ => valL L
  says := fun _ h => ∃ K : PySem.W.Frag, K.In h ∧ SaysL L P h K
  of := fun _ _ e => ⟨_, He.frG_in, saysL_of e⟩
  keeps := fun _ _ _ ⟨K, hK, c⟩ k => ⟨K, PySem.W.Frag.In.keeps hK k, ⟨c.d, c.more, fun r hr => k _ _ (c.tab r hr), c.ini⟩⟩
theorem obsL_eq {L : LawP} {P : Program} {g : Addr → Option Obj} {s : Shared} (h : ∀ a, g a = s.heap.get? a) : obsL L P g = (hookL L P).obs s := by
  have e : g = s.heap.get? := funext h
  rw [e] <;> rfl
/-- a def of a class -/
def clsDef (s : Stmt) (j : Nat) : Stmt := match s with
  | .ClassDef _ _ _ b _ _ _ _ _ _ _ => b.getD j (.Pass ⟨0, 0, 0, 0⟩)
  | _ => .Pass ⟨0, 0, 0, 0⟩
/-! ### what is seen of the text alone -/
def BndOk (r : Rowd) : Prop := ∀ (kV doc pm : Value) (an : Option Addr) (cdv ct : Value) (us : List Value), us.length = r.ps.length → bindArgs (PySem.W.fnOf r.d.name r.d.qual r.d.params r.d.body r.d.scope .none kV doc pm an cdv ct) ⟨us, []⟩ = pure (r.ps.zip us)
def BndW (w : WdA) (d : He.DefD) : Prop := ∀ (kV doc pm : Value) (an : Option Addr) (cdv ct : Value) (us : List Value), us.length = 1 → bindArgs (PySem.W.fnOf d.name d.qual d.params d.body d.scope .none kV doc pm an cdv ct) ⟨us, []⟩ = pure ([w.a].zip us)
def plainM (d : He.DefD) : Bool := (match d.at_.2 with | none => true | _ => false) && d.dfl.isEmpty && d.kwd.isEmpty
def plainD (r : Rowd) : Bool := plainM r.d
def glN (sc : Scope) (x : Str) : Bool := match sc.names.lookup x with
  | some .globalImplicit => true
  | _ => false
theorem glN_ok {sc : Scope} {x : Str} (h : glN sc x = true) : sc.names.lookup x = some .globalImplicit := by
  unfold glN at h
  split at h
  · assumption
  · cases h
/-- the built-ins that a clause names -/
def mdS (sc : Scope) : HC → Bool
  | .plain _ _ => true
  | .kept _ _ _ m => (match m with
    | .rep => glN sc "repr"
    | .rep2 => glN sc "repr"
    | .str => glN sc "str"
    | .at0 => true)
/-- the word's def -/
def wdS (w : WdA) (d : He.DefD) : Bool := plainM d && decide (d.at_.1 = w.x) && decide (d.name = w.x) && decide (d.qual = w.x) && scopeB [w.a, w.n] [w.a] d.scope && visB d.scope w.a && wordB w.a w.n (txt w.fine) w.hcs d.body && decide (d.scope.names.lookup w.n = some .local) &&
  okN w.n && okN w.a && w.hcs.all fun c => glN d.scope c.c && okN c.c && mdS d.scope c
structure TextOk (L : LawP) (P : Program) : Prop where
  plain : L.rows.all plainD = true
  bnd : ∀ r ∈ L.rows, BndOk r
  rows : L.rows.all (rowB L.side) = true
  wd : ∀ p, L.wd = some p → wdS p.1 p.2 = true ∧ BndW p.1 p.2
  ini : L.inits.all initB = true
  bndI : ∀ i ∈ L.inits, BndI i
  sup : P0B P = true
/-! ### from the facts to the setting -/
def globOf (L : LawP) (K : PySem.W.Frag) : Glob := ⟨K, fun g => match L.rows[g]? with | some r => He.fAd K r.d.at_ | none => 0, fun c => match L.exs[c]? with | some a => He.ga K a.x | none => 0, fun c => match L.exs[c]? with | some a => a.i.map (·.f) | none => none, L.exs.length, L.rows.length, L.tf.map (fun r => (tabA K r, lamQ r)), fun _ => 0, fun _ => [], Frm.nil⟩
section
variable {L : LawP} {P : Program} {K : PySem.W.Frag} {h : Heap} {mg : Str → Option Value}
theorem fnA_eq {g : Nat} {r : Rowd} (e : L.rows[g]? = some r) : (globOf L K).fnA g = He.fAd K r.d.at_ := by
  show (match L.rows[g]? with | some r => He.fAd K r.d.at_ | none => 0) = _
  rw [e]
theorem exA_eq {c : Nat} {a : ExA} (e : L.exs[c]? = some a) : (globOf L K).exA c = He.ga K a.x := by
  show (match L.exs[c]? with | some a => He.ga K a.x | none => 0) = _
  rw [e]
theorem exF_eq {c : Nat} {a : ExA} (e : L.exs[c]? = some a) : (globOf L K).exF c = a.i.map (·.f) := by
  show (match L.exs[c]? with | some a => a.i.map (fun i : ExI => i.f) | none => none) = _
  rw [e]
theorem fAd_eq {d : He.DefD} (h : plainM d = true) : He.fAd K d.at_ = He.ga K d.at_.1 := by
  unfold plainM at h
  simp only [Bool.and_eq_true] at h
  have p1 := h.1.1
  cases q : d.at_ with
  | mk a b =>
    rw [q] at p1
    cases b with
    | none => rfl
    | some _ => cases p1
theorem dvs_nil {d : He.DefD} (h : plainM d = true) : d.dvs K = [] ∧ d.kws K = [] := by
  unfold plainM at h
  simp only [Bool.and_eq_true, List.isEmpty_iff] at h
  refine ⟨?_, ?_⟩
  · unfold He.DefD.dvs; rw [h.1.2]; rfl
  · unfold He.DefD.kws; rw [h.2]; rfl
theorem zipIdx_at {α : Type} {l : List α} {c : Nat} {a : α} (e : l[c]? = some a) : (a, c) ∈ l.zipIdx := by
  apply List.mem_of_getElem? (i := c)
  rw [List.getElem?_zipIdx, e]
  simp
theorem hdAll_ok (c : SaysL L P h K) (G : ∀ c : HC, ∀ x, x = c.c → True) : ∀ {cs : List HC} {hs : List Hd}, hdAll K L.exs cs hs = true → HdsOk (globOf L K) (fun x => He.ga K x) cs hs ∧ ∀ z ∈ cs, match z with | .plain _ _ => True | .kept c f _ _ => XfC K (He.ga K c) ∧ PySem.W.findIn K (.ref (He.ga K c)) f = some none
  | [], [], _ => ⟨trivial, fun z hz => absurd hz (by simp)⟩
  | [], _ :: _, e => by cases e
  | _ :: _, [], e => by cases e
  | z :: cs, hd :: hs, e => by
    unfold hdAll at e
    rw [Bool.and_eq_true] at e
    obtain ⟨k1, k2⟩ := hdAll_ok c G e.2
    have e1 := e.1
    unfold hdOne at e1
    rw [Bool.and_eq_true] at e1
    obtain ⟨e3, e4⟩ := e1
    have tbl : ∀ j, j < (globOf L K).nE → PySem.W.exmOne (globOf L K).K (.ref ((globOf L K).exA j)) (.ref (He.ga K z.c)) = some (hd.cs.elem j) := fun j hj => by
      have hj : j < L.exs.length := hj
      have e5 := List.getElem?_eq_getElem hj
      rw [exA_eq e5]
      exact of_decide_eq_true (List.all_eq_true.mp e3 _ (zipIdx_at e5))
    cases z with
    | plain x w =>
      simp only [Bool.and_eq_true, decide_eq_true_eq] at e4
      refine ⟨⟨⟨e4.1, e4.2, tbl⟩, k1⟩, fun z hz => ?_⟩
      rcases List.mem_cons.mp hz with rfl | hz
      · trivial
      · exact k2 z hz
    | kept x f w m =>
      simp only [Bool.and_eq_true, decide_eq_true_eq] at e4
      obtain ⟨⟨⟨⟨f1, f2⟩, f3⟩, f4⟩, f5⟩ := e4
      refine ⟨⟨⟨f1, f2, tbl, fun j hj hc => ?_⟩, k1⟩, fun z hz => ?_⟩
      · have hj : j < L.exs.length := hj
        have e5 := List.getElem?_eq_getElem hj
        have := List.all_eq_true.mp f5 _ (zipIdx_at e5)
        rw [hc] at this
        simp only [Bool.not_true, Bool.false_or, Bool.and_eq_true, decide_eq_true_eq] at this
        rw [exA_eq e5, exF_eq e5]
        exact this
      · rcases List.mem_cons.mp hz with rfl | hz
        · exact ⟨xfB_ok f3, He.eqO_ok f4⟩
        · exact k2 z hz
theorem setting_of {w : World} (X : K.In h) (G : h.Ns mainGlobals mg) (T : TextOk L P) (c : SaysL L P h K) : Setting P w K mg (globOf L K) L.rows L.side L.gc := by
  have cd := c.d
  have cm := c.more
  unfold exAll at cm
  simp only [Bool.and_eq_true] at cm
  obtain ⟨⟨⟨⟨⟨m1, m2⟩, m3⟩, m4⟩, m5⟩, m6⟩ := cm
  have hp := List.all_eq_true.mp T.plain
  have hr := List.all_eq_true.mp T.rows
  have glo : ∀ x, He.Fa.glo x ∈ L.fa → mg x = some (.ref (He.ga K x)) := fun x hx => He.glo_ok X G (cd.facts hx)
  have sup : mg "super" = none := He.free_ok X G (cd.facts (List.mem_append_left _ (List.mem_append_right _ (List.mem_singleton.mpr rfl))))
  have blt : ∀ x ∈ bltNames, mg x = none := fun x hx => He.free_ok X G (cd.facts (List.mem_append_left _ (List.mem_append_left _ (List.mem_append_right _ (List.mem_map_of_mem hx)))))
  refine { hK := rfl, nF := by show L.rows.length = (L.rows.map (fun r => some r.d.at_.1)).length; rw [List.length_map], nR := rfl, row := hr, fn := fun g r e => ?fn, names := fun g x e => ?names, cons := fun k x d e1 e2 => ?cons, blt := blt, dig := of_decide_eq_true m1, wd := fun wd e => ?wd, ex := fun j x e => ?ex, exf := fun j o e => ?exf, cls := fun c a e => by have e : ([] : List ClsA)[c]? = some a := e; simp at e }
  case fn =>
    have hm := List.mem_of_getElem? e
    have pl : plainM r.d = true := hp r hm
    obtain ⟨fd, F⟩ := cd.defs (d := r.d) (List.mem_append_left _ (List.mem_map_of_mem hm))
    rw [(dvs_nil pl).1, (dvs_nil pl).2] at F
    rw [fnA_eq e]
    exact ⟨fd, F, F.bindsN (T.bnd r hm)⟩
  case names =>
    have e : (L.rows.map (fun r => some r.d.at_.1))[g]? = some (some x) := e
    rw [List.getElem?_map] at e
    cases e1 : L.rows[g]? with
    | none => rw [e1] at e; cases e
    | some r =>
      rw [e1] at e
      have e : some (some r.d.at_.1) = some (some x) := e
      cases e
      have hm := List.mem_of_getElem? e1
      rw [fnA_eq e1, fAd_eq (hp r hm)]
      exact glo _ (List.mem_append_left _ (List.mem_append_left _ (List.mem_append_left _ (List.mem_map_of_mem (f := fun r : Rowd => He.Fa.glo r.d.at_.1) hm))))
  case cons =>
    unfold conB at m2
    rw [List.all_eq_true] at m2
    have hz : (x, d) ∈ L.cons.zip L.gc := by
      apply List.mem_of_getElem? (i := k)
      rw [List.getElem?_zip_eq_some]
      exact ⟨e1, e2⟩
    have := m2 _ hz
    dsimp only at this
    split at this
    · rename_i u e
      obtain ⟨v, h1, h2⟩ := dB_ok (G := globOf L K) this
      exact ⟨u, v, PySem.W.mg_of X G e, h1, h2⟩
    · cases this
  case wd =>
    have e : L.wd.map (·.1) = some wd := e
    cases q : L.wd with
    | none => rw [q] at e; cases e
    | some p =>
      rw [q] at e m4
      have e : some p.1 = some wd := e
      cases e
      obtain ⟨w1, w2⟩ := T.wd p q
      unfold wdS at w1
      simp only [Bool.and_eq_true, decide_eq_true_eq] at w1
      obtain ⟨⟨⟨⟨⟨⟨⟨⟨⟨⟨s1, s2⟩, s3⟩, s4⟩, s5⟩, s6⟩, s7⟩, s8⟩, s10⟩, s11⟩, s12⟩ := w1
      obtain ⟨fd, F⟩ := cd.defs (d := p.2) (List.mem_append_right _ (by rw [q]; exact List.mem_singleton.mpr rfl))
      rw [(dvs_nil s1).1, (dvs_nil s1).2] at F
      have bw := F.bindsN (ps := [p.1.a]) w2
      obtain ⟨oc, od, dV, kV, doc, pm, an, cdv, ct, osl, rfl, lk, hcd, _, _⟩ := F.ex
      have efa : ∀ z, z ∈ (He.Fa.glo p.1.x :: p.1.hcs.map (fun c => He.Fa.glo c.c)) → z ∈ L.fa := fun z hz => by
        unfold LawP.fa
        rw [q]
        exact List.mem_append_right _ hz
      obtain ⟨k1, k2⟩ := hdAll_ok c (fun _ _ _ => trivial) m4
      have hx : mg p.1.x = some (.ref (He.fAd K p.2.at_)) := by
        rw [fAd_eq s1, s2]
        exact glo _ (efa _ List.mem_cons_self)
      rw [s3, s4] at lk bw
      rw [s4] at hcd
      refine ⟨He.fAd K p.2.at_, cdv, p.2.scope, p.2.body, fun x => He.ga K x, hx, F.kp, ⟨oc, od, osl, p.2.params, dV, kV, doc, pm, ct, an, lk, bw⟩, hcd, scope_of s5, vis_of s6, s7, s8, okN_d s10, okN_c s10, okN_d s11, okN_c s11, fun z hz => ?_, k1⟩
      have z1 := List.all_eq_true.mp s12 z hz
      rw [Bool.and_eq_true, Bool.and_eq_true] at z1
      have z2 := glo _ (efa _ (List.mem_cons_of_mem _ (List.mem_map_of_mem (f := fun c : HC => He.Fa.glo c.c) hz)))
      have z3 := k2 z hz
      cases z with
      | plain x w => exact ⟨glN_ok z1.1.1, okN_d z1.1.2, z2⟩
      | kept x f w m =>
        refine ⟨glN_ok z1.1.1, okN_d z1.1.2, z2, z3.1, z3.2, ?_⟩
        have z4 := z1.2
        cases m with
        | rep => exact ⟨glN_ok z4, blt _ (by decide)⟩
        | rep2 => exact ⟨glN_ok z4, blt _ (by decide)⟩
        | str => exact ⟨glN_ok z4, blt _ (by decide)⟩
        | at0 => trivial
  case ex =>
    have e : (L.exs.map (·.x))[j]? = some x := e
    rw [List.getElem?_map] at e
    cases e1 : L.exs[j]? with
    | none => rw [e1] at e; cases e
    | some a =>
      rw [e1] at e
      have e : some a.x = some x := e
      cases e
      have hm := List.mem_of_getElem? e1
      have k := List.all_eq_true.mp m3 a hm
      unfold exOne at k
      simp only [Bool.and_eq_true, decide_eq_true_eq] at k
      obtain ⟨⟨⟨⟨k1, k2⟩, k3⟩, k4⟩, k5⟩ := k
      refine ⟨?_, ?_, ?_, ?_, (List.getElem?_eq_some_iff.mp e1).1, ?_⟩
      · rw [exA_eq e1]; exact PySem.W.mg_of X G (He.eqO_ok k1)
      · rw [exA_eq e1]; exact k2
      · rw [exA_eq e1]; exact k3
      · rw [exA_eq e1]; exact k4
      · rw [exA_eq e1, exF_eq e1]
        cases q : a.i with
        | none =>
          rw [q] at k5
          exact .inl ⟨rfl, a.b.nm, a.b.newId, a.b.initId, a.b.bm, a.b.FB, k5⟩
        | some i =>
          rw [q] at k5
          have hi : i ∈ L.inits := List.mem_filterMap.mpr ⟨a, hm, q⟩
          exact .inr ⟨i.f, rfl, sup, supW_of (c.ini i hi) k5 (List.all_eq_true.mp T.ini i hi) (T.bndI i hi) T.sup⟩
  case exf =>
    have e : (L.exs.map fun a : ExA => a.i.map (·.f))[j]? = some o := e
    rw [List.getElem?_map] at e
    cases e1 : L.exs[j]? with
    | none => rw [e1] at e; cases e
    | some a =>
      rw [e1] at e
      have e : some (a.i.map (·.f)) = some o := e
      cases e
      exact exF_eq e1
theorem nodup_inj {α β : Type} {f : α → β} : ∀ {l : List α}, (l.map f).Nodup → ∀ {a b : α}, a ∈ l → b ∈ l → f a = f b → a = b
  | [], _, _, _, h, _, _ => absurd h (by simp)
  | x :: l, hn, a, b, ha, hb, e => by
    rw [List.map_cons, List.nodup_cons] at hn
    rcases List.mem_cons.mp ha with h1 | h1
    · rcases List.mem_cons.mp hb with h2 | h2
      · rw [h1, h2]
      · exact absurd (by rw [← h1, e]; exact List.mem_map_of_mem h2) hn.1
    · rcases List.mem_cons.mp hb with h2 | h2
      · exact absurd (by rw [← h2, ← e]; exact List.mem_map_of_mem h1) hn.1
      · exact nodup_inj hn.2 h1 h2 e
theorem tabs_of {base : Heap} (c : SaysL L P h K) (hb : ∀ r ∈ L.tf, TabB base mg (He.cT K r.d.at_).1 (He.cT K r.d.at_).2) : TabsB K mg base (globOf L K) L.rows := by
  intro g r fd hr hm F
  rw [fnA_eq hr] at F
  have hmem : r ∈ L.tf := List.mem_filter.mpr ⟨List.mem_of_getElem? hr, hm⟩
  obtain ⟨oc, od, dV, kV, doc, pm, an, cdv, ct, osl, rfl, lk, hcd, _, _⟩ := F.ex
  obtain ⟨cc, rfl⟩ := He.codeIn_ref hcd
  have ec : He.codeOf K r.d.at_ = cc := He.codeOf_eq lk rfl
  have b := hb r hmem
  have cm := c.more
  unfold exAll at cm
  simp only [Bool.and_eq_true] at cm
  have nd := of_decide_eq_true cm.2
  refine ⟨cc, tabA K r, rfl, ?_, List.mem_map_of_mem (f := fun r => (tabA K r, lamQ r)) hmem, fun p hp e => ?_⟩
  · have b : TabB base mg (He.codeOf K r.d.at_) (tabA K r) := b
    rw [ec] at b
    exact b
  · obtain ⟨r', h1, rfl⟩ := List.mem_map.mp hp
    have := nodup_inj nd h1 hmem e
    subst this
    rfl
end
/-- the law's promise -/
theorem law_F {L : LawP} {P : Program} {w : World} {K : PySem.W.Frag} {h : Heap} {mg : Str → Option Value} {fa : Addr} {g k n : Nat} {r : Rowd} {x : Str} (X : K.In h) (G : h.Ns mainGlobals mg) (T : TextOk L P)
    (hg : L.rows[g]? = some r) (hps : r.ps = [x]) (hmg : mg r.d.at_.1 = some (.ref fa))
    (hpure : ∀ ns : List Int, ns.length ≤ n → ∃ S, run (L.rows.map (·.f)) L.gc k g [.scr ns] [] = .ok (.bl true) S)
    (c : SaysL L P h K) :
    ∃ (fd : FuncData) (sp : Sp), (∀ (s : Shared) (u : Value), BindsTo s fd ⟨[u], []⟩ [(x, u)]) ∧
        (∀ (H : Hp) (a : Addr) (ns : List Int), ns.length ≤ n → (∀ p ∈ L.tf.map (fun r => He.cT K r.d.at_), H p.2 = some (.tbl #[])) → SqL K H a (ns.map V.int) → sp [.ref a] H (fun v _ => v = .bl true) fun _ _ _ => False) ∧
        ∀ base : Heap, K.In base → base.Ns mainGlobals mg → (∀ p ∈ L.tf.map (fun r => He.cT K r.d.at_), TabB base mg p.1 p.2) → FnG P w K mg base (5 * k) fa fd [x] sp := by
  have S := setting_of (w := w) X G T c
  obtain ⟨fd, F, B⟩ := S.fn g r hg
  have hn := S.names g r.d.at_.1 (by show (L.rows.map (fun r => some r.d.at_.1))[g]? = _; rw [List.getElem?_map, hg]; rfl)
  rw [hmg] at hn
  have ea : fa = (globOf L K).fnA g := by injection hn with hn; injection hn
  refine ⟨fd, spD (globOf L K) (run (L.rows.map (·.f)) L.gc k) g, fun s u => ?_, fun H a ns hl hT hS => ?_, fun base _ _ hB => ?_⟩
  · have := F.bindsA (T.bnd r (List.mem_of_getElem? hg)) s [u] (by rw [hps]; rfl)
    rw [hps] at this
    exact this
  · obtain ⟨S', e⟩ := hpure ns hl
    have hT' : ∀ q ∈ (globOf L K).T, H q.1 = some (.tbl #[]) := fun q hq => by
      obtain ⟨r', h1, rfl⟩ := List.mem_map.mp hq
      exact hT _ (List.mem_map_of_mem (f := fun r : Rowd => He.cT K r.d.at_) h1)
    refine ⟨[.scr ns], [], ⟨H, [], [], fun a => ∃ q, (a, q) ∈ (globOf L K).T, fun _ => none⟩, rfl, ⟨rfl, rfl, List.nodup_nil, fun a h => absurd h (by simp), fun b ⟨q, hq⟩ => ?_, fun n xs h => by simp at h, fun p hp => TabS.nil (hT' p hp), fun p hp => ⟨⟨p.2, hp⟩, by simp⟩, fun a ha => .inr ha⟩, .cons (.scr ?_) .nil, ?_⟩
    · have := hT' _ hq
      intro z
      have this : H b = some (.tbl #[]) := this
      rw [show H b = none from z] at this
      cases this
    · rcases hS with hS | hS
      · refine .inl ⟨hS, fun ⟨q, hq⟩ => ?_⟩
        have := hT' _ hq
        rcases hS with z | ⟨o, z⟩
        · rw [show H a = some (HO.tbl #[]) from this] at z; cases z
        · rw [show H a = some (HO.tbl #[]) from this] at z; cases z
      · exact .inr hS
    · rw [e]
      intro b r' _ _ h
      cases h
      rfl
  · rw [ea, ← hps]
    exact all_ok S (tabs_of c fun r hr => hB _ (List.mem_map_of_mem (f := fun r : Rowd => He.cT K r.d.at_) hr)) k g r fd hg F
/-- a law's end -/
theorem law_end {L : LawP} {l : PySem.W.OpenLaw} {n k g : Nat} {q : Program} {loose : List Str} {XP : (Str → Option Value) → Heap → Prop} {d : DefRec} {x : Str} {r : Rowd}
    (hn : l.most = some n) (hn2 : n ≤ sizeLine) (hdf : d.params.defaults = []) (hr : Room (5 * k) callerA) (hd : d.name = r.d.at_.1)
    (T : TextOk L l.prog) (hg : L.rows[g]? = some r) (hps : r.ps = [x])
    (hpure : ∀ ns : List Int, ns.length ≤ n → ∃ S, run (L.rows.map (·.f)) L.gc k g [.scr ns] [] = .ok (.bl true) S) :
    PySem.W.WalkO q loose XP (hookL L l.prog).says l.row.toRowW d [] (fun f vs => PySem.call f vs) := by
  refine Att.attach_callB hn hdf fun w s₀ s₁ mg mb fa o pm cd doc a vs ns G Y ho hdt hcd hmg hobj hints hlen hbits hgen => ?_
  obtain ⟨K, KX, c⟩ := Y
  obtain ⟨fd, sp, hbn, hsp, hF⟩ := law_F (P := l.prog) (w := w) KX G.T.g T hg hps (by rw [← hd]; exact hmg) hpure c
  have cm := c.more
  unfold exAll at cm
  simp only [Bool.and_eq_true] at cm
  have m5 := List.all_eq_true.mp cm.1.2
  refine law_callG KX G.T.g G.T.b G.T.builtins G.T.nolimit hgen (cs := L.tf.map fun r => He.cT K r.d.at_) (fun p hp => ?_) (fun p hp => ?_) (fun p hp => ?_) G.T.bmain hobj hints (Nat.le_trans hlen hn2) hr hF hbn (fun H hH hS => hsp H a ns hlen hH hS)
  · obtain ⟨r', h1, rfl⟩ := List.mem_map.mp hp
    exact c.tab r' h1
  · obtain ⟨r', h1, rfl⟩ := List.mem_map.mp hp
    have := m5 r' h1
    rw [Bool.and_eq_true] at this
    exact Option.isNone_iff_eq_none.mp this.1
  · obtain ⟨r', h1, rfl⟩ := List.mem_map.mp hp
    have := m5 r' h1
    rw [Bool.and_eq_true] at this
    exact PySem.W.codeHd_of_K KX this.2
end DL
end
section
set_option Elab.async false
set_option autoImplicit false
set_option linter.all false
set_option maxRecDepth 100000
set_option maxHeartbeats 2000000
/-! P0: rules for the evaluator. -/
namespace DL
section
variable {cl : Cl} {gc : List D} {σ : Env} {S : Store}
@[simp] theorem x_bind {α β : Type} (a : α) (S : Store) (f : α → Store → Out β) : (Out.ok a S).bind f = f a S := Eq.trans rfl rfl
@[simp] theorem x_stm {α : Type} (a : α) (S : Store) (f : α → Store → OutS) : (Out.ok a S).stm σ f = f a S := Eq.trans rfl rfl
@[simp] theorem x_then (σ : Env) (S : Store) (f : Env → Store → OutS) : (OutS.nx σ S).andThen f = f σ S := Eq.trans rfl rfl
@[simp] theorem x_thenR (d : D) (S : Store) (f : Env → Store → OutS) : (OutS.ret d S).andThen f = .ret d S := Eq.trans rfl rfl
@[simp] theorem x_thenB (σ : Env) (S : Store) (f : Env → Store → OutS) : (OutS.bk σ S).andThen f = .bk σ S := Eq.trans rfl rfl
@[simp] theorem x_thenC (σ : Env) (S : Store) (f : Env → Store → OutS) : (OutS.ct σ S).andThen f = .ct σ S := Eq.trans rfl rfl
@[simp] theorem x_bindE {α β : Type} (x : Exn) (S : Store) (f : α → Store → Out β) : (Out.exc x S).bind f = .exc x S := Eq.trans rfl rfl
@[simp] theorem x_stmE {α : Type} (x : Exn) (S : Store) (f : α → Store → OutS) : (Out.exc x S : Out α).stm σ f = .exc x σ S := Eq.trans rfl rfl
@[simp] theorem x_thenE (x : Exn) (σ : Env) (S : Store) (f : Env → Store → OutS) : (OutS.exc x σ S).andThen f = .exc x σ S := Eq.trans rfl rfl
@[simp] theorem x_slot (i : Nat) : evE cl gc (.slot i) σ S = (match σ[i]? with | some (some d) => .ok d S | _ => .bad) := by rw [evE] <;> rfl
@[simp] theorem x_con (d : D) : evE cl gc (.con d) σ S = .ok d S := by rw [evE]
@[simp] theorem x_gcon (k : Nat) : evE cl gc (.gcon k) σ S = (match gc[k]? with | some d => .ok d S | none => .bad) := by rw [evE] <;> rfl
@[simp] theorem x_tup (es : List E) : evE cl gc (.tup es) σ S = (evEs cl gc es σ S).bind fun ds S => if fits ds.length then .ok (.tup ds) S else .bad := by rw [evE]
@[simp] theorem x_lst (es : List E) : evE cl gc (.lst es) σ S = (evEs cl gc es σ S).bind fun ds S => if fits ds.length then .ok (.lst ds) S else .bad := by rw [evE]
@[simp] theorem x_new (es : List E) : evE cl gc (.new es) σ S = (evEs cl gc es σ S).bind fun ds S => if fits ds.length then .ok (.ref S.length) (S ++ [ds]) else .bad := by rw [evE]
@[simp] theorem x_dict0 : evE cl gc .dict0 σ S = .ok .dic S := by rw [evE]
@[simp] theorem x_bin (o : Op) (a b : E) : evE cl gc (.bin o a b) σ S = (evE cl gc a σ S).bind fun x S => (evE cl gc b σ S).bind fun y S => op2 o x y S := by rw [evE]
@[simp] theorem x_neg (a : E) : evE cl gc (.neg a) σ S = (evE cl gc a σ S).bind fun x S => match x with | .int i => .ok (.int (-i)) S | _ => .bad := by rw [evE] <;> rfl
@[simp] theorem x_cmp (o : Cp) (a b : E) : evE cl gc (.cmp o a b) σ S = (evE cl gc a σ S).bind fun x S => (evE cl gc b σ S).bind fun y S => (cmp2 o x y S).bind fun k S => .ok (.bl k) S := by rw [evE]
@[simp] theorem x_chain (o p : Cp) (a b c : E) : evE cl gc (.chain o p a b c) σ S = (evE cl gc a σ S).bind fun x S => (evE cl gc b σ S).bind fun y S => (cmp2 o x y S).bind fun k S => match k with | true => (evE cl gc c σ S).bind fun z S => (cmp2 p y z S).bind fun k S => .ok (.bl k) S | false => .ok (.bl false) S := by rw [evE] <;> rfl
@[simp] theorem x_notE (a : E) : evE cl gc (.notE a) σ S = (evE cl gc a σ S).bind fun x S => (truth x S).bind fun b S => .ok (.bl (!b)) S := by rw [evE]
@[simp] theorem x_ite (t : T) (a b : E) : evE cl gc (.ite t a b) σ S = (evT cl gc t σ S).bind fun c S => match c with | true => evE cl gc a σ S | false => evE cl gc b σ S := by rw [evE] <;> rfl
@[simp] theorem x_and (a b : E) : evE cl gc (.and a b) σ S = (evE cl gc a σ S).bind fun x S => (truth x S).bind fun c S => match c with | true => evE cl gc b σ S | false => .ok x S := by rw [evE] <;> rfl
@[simp] theorem x_or (a b : E) : evE cl gc (.or a b) σ S = (evE cl gc a σ S).bind fun x S => (truth x S).bind fun c S => match c with | true => .ok x S | false => evE cl gc b σ S := by rw [evE] <;> rfl
@[simp] theorem x_idx (a i : E) : evE cl gc (.idx a i) σ S = (evE cl gc a σ S).bind fun x S => (evE cl gc i σ S).bind fun y S => item x y S := by rw [evE]
@[simp] theorem x_slc (a : E) (lo hi : Option E) : evE cl gc (.slc a lo hi) σ S = (evE cl gc a σ S).bind fun x S => (evO cl gc lo σ S).bind fun l S => (evO cl gc hi σ S).bind fun h S => slice x l h S := by rw [evE]
@[simp] theorem x_rev (a : E) : evE cl gc (.rev a) σ S = (evE cl gc a σ S).bind fun x S => revd x S := by rw [evE]
@[simp] theorem x_call (g : Nat) (es : List E) : evE cl gc (.call g es) σ S = (evEs cl gc es σ S).bind fun ds S => cl g ds S := by rw [evE]
@[simp] theorem x_bi (b : Bi) (es : List E) : evE cl gc (.bi b es) σ S = (evEs cl gc es σ S).bind fun ds S => bi b ds S := by rw [evE]
@[simp] theorem x_join (o e : E) : evE cl gc (.join o e) σ S = (evE cl gc o σ S).bind fun x S => match x with | .str sep => (evE cl gc e σ S).bind fun d S => mth .join (.str sep) [d] S | _ => .bad := by rw [evE] <;> rfl
@[simp] theorem x_comp (tg : Tg) (it : I) (c : Option T) (e : E) (own : List Nat) : evE cl gc (.comp tg it c e own) σ S = (evI cl gc it σ S).bind fun ds S => compGo tg (evC cl gc c) (evE cl gc e) (wipeD σ own) ds [] S := by rw [evE]
@[simp] theorem x_c0 : evC cl gc none σ S = .ok true S := by rw [evC]
@[simp] theorem x_c1 (t : T) : evC cl gc (some t) σ S = evT cl gc t σ S := by rw [evC]
@[simp] theorem x_o0 : evO cl gc none σ S = .ok none S := by rw [evO]
@[simp] theorem x_o1 (e : E) : evO cl gc (some e) σ S = (evE cl gc e σ S).bind fun x S => match x with | .int i => .ok (some i) S | _ => .bad := by rw [evO] <;> rfl
@[simp] theorem x_es0 : evEs cl gc [] σ S = .ok [] S := by rw [evEs]
@[simp] theorem x_esS (e : E) (es : List E) : evEs cl gc (.star e :: es) σ S = (evE cl gc e σ S).bind fun d S => (match seqOf d S with | some xs => (evEs cl gc es σ S).bind fun ds S => .ok (xs ++ ds) S | none => .bad) := by rw [evEs] <;> rfl
theorem x_es (e : E) (es : List E) (h : ∀ z, e = .star z → False) : evEs cl gc (e :: es) σ S = (evE cl gc e σ S).bind fun d S => (evEs cl gc es σ S).bind fun ds S => .ok (d :: ds) S := by rw [evEs]; exact h
@[simp] theorem x_es1 (i : Nat) (es : List E) : evEs cl gc (.slot i :: es) σ S = (evE cl gc (.slot i) σ S).bind fun d S => (evEs cl gc es σ S).bind fun ds S => .ok (d :: ds) S := x_es _ _ (by intro z h; cases h)
@[simp] theorem x_es2 (i : D) (es : List E) : evEs cl gc (.con i :: es) σ S = (evE cl gc (.con i) σ S).bind fun d S => (evEs cl gc es σ S).bind fun ds S => .ok (d :: ds) S := x_es _ _ (by intro z h; cases h)
@[simp] theorem x_es3 (i : Nat) (es : List E) : evEs cl gc (.gcon i :: es) σ S = (evE cl gc (.gcon i) σ S).bind fun d S => (evEs cl gc es σ S).bind fun ds S => .ok (d :: ds) S := x_es _ _ (by intro z h; cases h)
@[simp] theorem x_es4 (i : List E) (es : List E) : evEs cl gc (.tup i :: es) σ S = (evE cl gc (.tup i) σ S).bind fun d S => (evEs cl gc es σ S).bind fun ds S => .ok (d :: ds) S := x_es _ _ (by intro z h; cases h)
@[simp] theorem x_es5 (i : List E) (es : List E) : evEs cl gc (.lst i :: es) σ S = (evE cl gc (.lst i) σ S).bind fun d S => (evEs cl gc es σ S).bind fun ds S => .ok (d :: ds) S := x_es _ _ (by intro z h; cases h)
@[simp] theorem x_es6 (i : List E) (es : List E) : evEs cl gc (.new i :: es) σ S = (evE cl gc (.new i) σ S).bind fun d S => (evEs cl gc es σ S).bind fun ds S => .ok (d :: ds) S := x_es _ _ (by intro z h; cases h)
@[simp] theorem x_es7 (o : Op) (a b : E) (es : List E) : evEs cl gc (.bin o a b :: es) σ S = (evE cl gc (.bin o a b) σ S).bind fun d S => (evEs cl gc es σ S).bind fun ds S => .ok (d :: ds) S := x_es _ _ (by intro z h; cases h)
@[simp] theorem x_es8 (a : E) (es : List E) : evEs cl gc (.neg a :: es) σ S = (evE cl gc (.neg a) σ S).bind fun d S => (evEs cl gc es σ S).bind fun ds S => .ok (d :: ds) S := x_es _ _ (by intro z h; cases h)
@[simp] theorem x_es9 (o : Cp) (a b : E) (es : List E) : evEs cl gc (.cmp o a b :: es) σ S = (evE cl gc (.cmp o a b) σ S).bind fun d S => (evEs cl gc es σ S).bind fun ds S => .ok (d :: ds) S := x_es _ _ (by intro z h; cases h)
@[simp] theorem x_es10 (t : T) (a b : E) (es : List E) : evEs cl gc (.ite t a b :: es) σ S = (evE cl gc (.ite t a b) σ S).bind fun d S => (evEs cl gc es σ S).bind fun ds S => .ok (d :: ds) S := x_es _ _ (by intro z h; cases h)
@[simp] theorem x_es11 (a b : E) (es : List E) : evEs cl gc (.idx a b :: es) σ S = (evE cl gc (.idx a b) σ S).bind fun d S => (evEs cl gc es σ S).bind fun ds S => .ok (d :: ds) S := x_es _ _ (by intro z h; cases h)
@[simp] theorem x_es12 (a : E) (lo hi : Option E) (es : List E) : evEs cl gc (.slc a lo hi :: es) σ S = (evE cl gc (.slc a lo hi) σ S).bind fun d S => (evEs cl gc es σ S).bind fun ds S => .ok (d :: ds) S := x_es _ _ (by intro z h; cases h)
@[simp] theorem x_es13 (a : E) (es : List E) : evEs cl gc (.rev a :: es) σ S = (evE cl gc (.rev a) σ S).bind fun d S => (evEs cl gc es σ S).bind fun ds S => .ok (d :: ds) S := x_es _ _ (by intro z h; cases h)
@[simp] theorem x_es14 (g : Nat) (a es : List E) : evEs cl gc (.call g a :: es) σ S = (evE cl gc (.call g a) σ S).bind fun d S => (evEs cl gc es σ S).bind fun ds S => .ok (d :: ds) S := x_es _ _ (by intro z h; cases h)
@[simp] theorem x_es15 (b : Bi) (a es : List E) : evEs cl gc (.bi b a :: es) σ S = (evE cl gc (.bi b a) σ S).bind fun d S => (evEs cl gc es σ S).bind fun ds S => .ok (d :: ds) S := x_es _ _ (by intro z h; cases h)
@[simp] theorem x_es16 (tg : Tg) (it : I) (c : Option T) (e : E) (own : List Nat) (es : List E) : evEs cl gc (.comp tg it c e own :: es) σ S = (evE cl gc (.comp tg it c e own) σ S).bind fun d S => (evEs cl gc es σ S).bind fun ds S => .ok (d :: ds) S := x_es _ _ (by intro z h; cases h)
@[simp] theorem x_es17 (es : List E) : evEs cl gc (.dict0 :: es) σ S = (evE cl gc .dict0 σ S).bind fun d S => (evEs cl gc es σ S).bind fun ds S => .ok (d :: ds) S := x_es _ _ (by intro z h; cases h)
@[simp] theorem x_es18 (a : E) (es : List E) : evEs cl gc (.notE a :: es) σ S = (evE cl gc (.notE a) σ S).bind fun d S => (evEs cl gc es σ S).bind fun ds S => .ok (d :: ds) S := x_es _ _ (by intro z h; cases h)
@[simp] theorem x_es19 (a b : E) (es : List E) : evEs cl gc (.and a b :: es) σ S = (evE cl gc (.and a b) σ S).bind fun d S => (evEs cl gc es σ S).bind fun ds S => .ok (d :: ds) S := x_es _ _ (by intro z h; cases h)
@[simp] theorem x_es20 (a b : E) (es : List E) : evEs cl gc (.or a b :: es) σ S = (evE cl gc (.or a b) σ S).bind fun d S => (evEs cl gc es σ S).bind fun ds S => .ok (d :: ds) S := x_es _ _ (by intro z h; cases h)
@[simp] theorem x_es21 (g : Nat) (es : List E) : evEs cl gc (.gfn g :: es) σ S = (evE cl gc (.gfn g) σ S).bind fun d S => (evEs cl gc es σ S).bind fun ds S => .ok (d :: ds) S := x_es _ _ (by intro z h; cases h)
@[simp] theorem x_es22 (i : Nat) (xs lb : List E) (es : List E) : evEs cl gc (.callv i xs lb :: es) σ S = (evE cl gc (.callv i xs lb) σ S).bind fun d S => (evEs cl gc es σ S).bind fun ds S => .ok (d :: ds) S := x_es _ _ (by intro z h; cases h)
@[simp] theorem x_es23 (fine : List Nat) (hs : List Hd) (e : E) (es : List E) : evEs cl gc (.guard fine hs e :: es) σ S = (evE cl gc (.guard fine hs e) σ S).bind fun d S => (evEs cl gc es σ S).bind fun ds S => .ok (d :: ds) S := x_es _ _ (by intro z h; cases h)
@[simp] theorem x_gfn (g : Nat) : evE cl gc (.gfn g) σ S = .ok (.fn g) S := by rw [evE]
@[simp] theorem x_callv (i : Nat) (es lb : List E) : evE cl gc (.callv i es lb) σ S = match σ[i]? with | some (some (.fn g)) => (evEs cl gc es σ S).bind fun ds S => cl g ds S | some (some (.lam j)) => (evEs cl gc es σ S).bind fun ds S => if Nat.beq ds.length es.length then evLb cl gc lb j (ds.map some) S else .bad | _ => .bad := by rw [evE] <;> rfl
@[simp] theorem x_guard (fine : List Nat) (hs : List Hd) (e : E) : evE cl gc (.guard fine hs e) σ S = wordD fine hs (evE cl gc e σ S) := by rw [evE]
@[simp] theorem x_guards (fine : List Nat) (hs : List Hd) (i k : Nat) (es : List E) : evE cl gc (.guards fine hs i k es) σ S = match σ[i]? with | some (some (.lams j)) => if Nat.beq j k then evGs cl gc fine hs es [] σ S else .bad | _ => .bad := by rw [evE] <;> rfl
@[simp] theorem x_raise0 (c : Nat) : evS cl gc (.raise_ c none) σ S = .exc ⟨c, .non⟩ σ S := by rw [evS]
@[simp] theorem x_raise1 (c : Nat) (e : E) : evS cl gc (.raise_ c (some e)) σ S = (evE cl gc e σ S).stm σ fun d S => .exc ⟨c, d⟩ σ S := by rw [evS]
@[simp] theorem x_lams (i k : Nat) : evS cl gc (.lams i k) σ S = .nx (σ.set i (some (.lams k))) S := by rw [evS]
@[simp] theorem x_cont : evS cl gc .cont σ S = .ct σ S := by rw [evS]
@[simp] theorem x_brk : evS cl gc .brk σ S = .bk σ S := by rw [evS]
@[simp] theorem x_tnot (t : T) : evT cl gc (.not t) σ S = (evT cl gc t σ S).bind fun b S => .ok (!b) S := by rw [evT]
@[simp] theorem x_tand (t u : T) : evT cl gc (.and t u) σ S = (evT cl gc t σ S).bind fun b S => match b with | true => evT cl gc u σ S | false => .ok false S := by rw [evT] <;> rfl
@[simp] theorem x_tor (t u : T) : evT cl gc (.or t u) σ S = (evT cl gc t σ S).bind fun b S => match b with | true => .ok true S | false => evT cl gc u σ S := by rw [evT] <;> rfl
@[simp] theorem x_tcmp (o : Cp) (a b : E) : evT cl gc (.cmp o a b) σ S = (evE cl gc a σ S).bind fun x S => (evE cl gc b σ S).bind fun y S => cmp2 o x y S := by rw [evT]
@[simp] theorem x_tchain (o p : Cp) (a b c : E) : evT cl gc (.chain o p a b c) σ S = (evE cl gc a σ S).bind fun x S => (evE cl gc b σ S).bind fun y S => (cmp2 o x y S).bind fun k S => match k with | true => (evE cl gc c σ S).bind fun z S => cmp2 p y z S | false => .ok false S := by rw [evT] <;> rfl
@[simp] theorem x_tval (e : E) : evT cl gc (.val e) σ S = (evE cl gc e σ S).bind fun x S => truth x S := by rw [evT]
@[simp] theorem x_iseq (e : E) : evI cl gc (.seq e) σ S = (evE cl gc e σ S).bind fun x S => oItems (walk x S) S := by rw [evI]
@[simp] theorem x_irng1 (a : E) : evI cl gc (.rng1 a) σ S = (evE cl gc a σ S).bind fun x S => rng2 (.int 0) x S := by rw [evI]
@[simp] theorem x_irng2 (a b : E) : evI cl gc (.rng2 a b) σ S = (evE cl gc a σ S).bind fun x S => (evE cl gc b σ S).bind fun y S => rng2 x y S := by rw [evI]
@[simp] theorem x_izip (a b : E) : evI cl gc (.zip a b) σ S = (evE cl gc a σ S).bind fun x S => (evE cl gc b σ S).bind fun y S => oItems (zipOf x y) S := by rw [evI]
@[simp] theorem x_ienum (a : E) : evI cl gc (.enum a) σ S = (evE cl gc a σ S).bind fun x S => oItems ((walkS x).map (enumD 0)) S := by rw [evI]
@[simp] theorem x_ienumz (a b : E) : evI cl gc (.enumz a b) σ S = (evE cl gc a σ S).bind fun x S => (evE cl gc b σ S).bind fun y S => oItems ((zipT x y).map (enumD 0)) S := by rw [evI]
@[simp] theorem x_gnm (i : Nat) (d : D) : asgG cl gc (.nm i) d σ S = .nx (σ.set i (some d)) S := by rw [asgG]
@[simp] theorem x_gtp (ts : List Tg) (ds : List D) : asgG cl gc (.tp ts) (.tup ds) σ S = if Nat.beq ds.length ts.length then asgsG cl gc ts ds σ S else .bad := by rw [asgG]
@[simp] theorem x_gsub (o i : E) (v : D) : asgG cl gc (.sub o i) v σ S = (evE cl gc o σ S).stm σ fun x S => (evE cl gc i σ S).stm σ fun k S => match setIt x k v S with | some S2 => .nx σ S2 | none => .bad := by rw [asgG] <;> rfl
@[simp] theorem x_gs0 : asgsG cl gc [] [] σ S = .nx σ S := by rw [asgsG]
@[simp] theorem x_gs1 (t : Tg) (ts : List Tg) (d : D) (ds : List D) : asgsG cl gc (t :: ts) (d :: ds) σ S = (asgG cl gc t d σ S).andThen (asgsG cl gc ts ds) := by rw [asgsG]
@[simp] theorem x_ret (e : E) : evS cl gc (.ret e) σ S = (evE cl gc e σ S).stm σ fun d S => .ret d S := by rw [evS]
@[simp] theorem x_retN : evS cl gc .retN σ S = .ret .non S := by rw [evS]
@[simp] theorem x_pass : evS cl gc .pass σ S = .nx σ S := by rw [evS]
@[simp] theorem x_asg (tg : Tg) (e : E) : evS cl gc (.asg tg e) σ S = (evE cl gc e σ S).stm σ fun d S => asgG cl gc tg d σ S := by rw [evS]
@[simp] theorem x_exp (e : E) : evS cl gc (.exp e) σ S = (evE cl gc e σ S).stm σ fun _ S => .nx σ S := by rw [evS]
@[simp] theorem x_ext (o e : E) : evS cl gc (.ext o e) σ S = (evE cl gc o σ S).stm σ fun x S => if isRef x then (evE cl gc e σ S).stm σ fun v S => match extIt x v S with | some S2 => .nx σ S2 | none => .bad else .bad := by rw [evS] <;> rfl
@[simp] theorem x_forC (i : Nat) (ds : List D) (b : List St) : evS cl gc (.forC i ds b) σ S = forGo (.nm i) (evB cl gc b) ds σ S := by rw [evS]
@[simp] theorem x_forT (tg : Tg) (it : I) (b : List St) (fg : List Nat) : evS cl gc (.forT tg it b fg) σ S = (evI cl gc it σ S).stm σ fun ds S => forTGo tg (evB cl gc b) S.length fg ds σ S := by rw [evS]
@[simp] theorem x_iteS (t : T) (a b : List St) : evS cl gc (.ite t a b) σ S = (evT cl gc t σ S).stm σ fun c S => match c with | true => evB cl gc a σ S | false => evB cl gc b σ S := by rw [evS] <;> rfl
@[simp] theorem x_wh (t : T) (b : List St) : evS cl gc (.wh t b) σ S = whGo (evT cl gc t) (evB cl gc b) turns σ S := by rw [evS]
@[simp] theorem x_for (tg : Tg) (it : I) (b : List St) : evS cl gc (.for_ tg it b) σ S = (evI cl gc it σ S).stm σ fun ds S => forGo tg (evB cl gc b) ds σ S := by rw [evS]
@[simp] theorem x_b0 : evB cl gc [] σ S = .nx σ S := by rw [evB]
@[simp] theorem x_b1 (s : St) (ss : List St) : evB cl gc (s :: ss) σ S = (evS cl gc s σ S).andThen (evB cl gc ss) := by rw [evB]
end
theorem run_at {fs : List Fn} {gc : List D} {k g : Nat} {ds : List D} {S : Store} {f : Fn} (hf : fs[g]? = some f) (hl : ds.length = f.ar) : run fs gc (k + 1) g ds S = endOf S.length (evB (run fs gc k) gc f.body (startD f.sl ds) S) := by
  rw [run, hf]
  dsimp only
  rw [if_pos (by rw [hl]; exact Nat.beq_refl _)]
@[simp] theorem trim_self (d : D) (S : Store) : trim S.length d S = S := by
  unfold trim
  rw [if_pos (Nat.beq_refl _)]
@[simp] theorem end_ret (d : D) (S : Store) : endOf S.length (.ret d S) = .ok d S := by
  show Out.ok d (trim S.length d S) = _
  rw [trim_self]
@[simp] theorem end_nx (σ : Env) (S : Store) : endOf S.length (.nx σ S) = .ok D.non S := by
  show Out.ok D.non (trim S.length D.non S) = _
  rw [trim_self]
@[simp] theorem end_exc (x : Exn) (σ : Env) (S : Store) : endOf S.length (.exc x σ S) = .exc x S := by
  show Out.exc x (trim S.length x.arg S) = _
  rw [trim_self]
end DL
end
section
set_option Elab.async false
set_option autoImplicit false
set_option linter.all false
set_option maxRecDepth 100000
set_option maxHeartbeats 2000000
/-! the terms of k26_errors_of_rooms; by gen.py -/
namespace LW
open DL
def fine : List Nat := [102, 105, 110, 101]
def hds : List Hd := [⟨[0], [119, 105, 100, 116, 104], none⟩, ⟨[1], [102, 101, 110, 99, 101], none⟩, ⟨[3], [114, 111, 111, 109], none⟩, ⟨[2], [114, 111, 119], none⟩, ⟨[5], [102, 111, 114, 109], none⟩, ⟨[6], [111, 112, 101, 114, 97, 116, 105, 111, 110], none⟩, ⟨[7], [112, 97, 112, 101, 114], none⟩, ⟨[4], [109, 97, 110, 121, 32], some .rep⟩]
abbrev X_InvalidWidth : Nat := 0
abbrev X_InvalidFence : Nat := 1
abbrev X_InvalidRow : Nat := 2
abbrev X_InvalidRoom : Nat := 3
abbrev X_TooMany : Nat := 4
abbrev X_InvalidForm : Nat := 5
abbrev X_InvalidOperation : Nat := 6
abbrev X_InvalidPaper : Nat := 7
def F_law_dice : Fn := { ar := 2, sl := 5, body := [.asg (.nm 2) (.ite (.cmp .lt (.slot 1) (.bi .len [(.slot 0)])) (.bi .int [(.idx (.slot 0) (.slot 1))]) (.bin .add (.bin .mul (.con (.int 173)) (.slot 1)) (.con (.int 59)))),
    .asg (.nm 3) (.bin .mod (.bi .abs [(.slot 2)]) (.bin .pow (.bin .pow (.con (.int 10)) (.con (.int 47))) (.con (.int 7)))),
    .asg (.nm 4) (.bin .add (.bin .add (.bin .add (.bin .mul (.bin .mod (.slot 3) (.con (.int 2305843009213693669))) (.con (.int 89))) (.bin .mul (.con (.int 733)) (.slot 1))) (.bin .mul (.con (.int 43)) (.bi .int [(.cmp .lt (.slot 2) (.con (.int 0)))]))) (.con (.int 29))),
    .ret (.new [(.bi .max [(.con (.int 0)), (.bin .sub (.slot 3) (.bin .pow (.con (.int 10)) (.con (.int 15))))]), (.slot 4), (.con (.int 0))])] }
def F_law_roll : Fn := { ar := 2, sl := 5, body := [.ite (.cmp .gt (.idx (.slot 0) (.con (.int 0))) (.con (.int 0))) [.asg (.tp [(.sub (.slot 0) (.con (.int 0))), (.nm 4)]) (.bi .divmod [(.idx (.slot 0) (.con (.int 0))), (.slot 1)]),
    .ret (.bi .int [(.slot 4)])] [],
    .asg (.sub (.slot 0) (.con (.int 2))) (.bin .add (.idx (.slot 0) (.con (.int 2))) (.con (.int 1))),
    .asg (.nm 2) (.bin .mod (.bin .add (.idx (.slot 0) (.con (.int 1))) (.bin .mul (.con (.int 67867967)) (.idx (.slot 0) (.con (.int 2))))) (.con (.int 2305843009213693613))),
    .asg (.nm 3) (.bin .add (.bin .mul (.bin .mod (.bin .add (.bin .mul (.slot 2) (.slot 2)) (.bin .mul (.con (.int 211)) (.idx (.slot 0) (.con (.int 2))))) (.con (.int 2305843009213693487))) (.con (.int 49979693))) (.slot 2)),
    .ret (.bin .mod (.bi .int [(.bin .fdiv (.slot 3) (.con (.int 70001)))]) (.slot 1))] }
def F_law_pick : Fn := { ar := 2, sl := 2, body := [.ret (.idx (.slot 1) (.call 1 [(.slot 0), (.bi .len [(.slot 1)])]))] }
def F_is_integer : Fn := { ar := 1, sl := 1, body := [.ret (.and (.bi (.isi [.int]) [(.slot 0)]) (.notE (.bi (.isi [.bool]) [(.slot 0)])))] }
def F_is_count : Fn := { ar := 3, sl := 3, body := [.ret (.and (.call 3 [(.slot 0)]) (.chain .le .le (.slot 1) (.slot 0) (.slot 2)))] }
def F_require_width : Fn := { ar := 1, sl := 1, body := [.ite (.not (.val (.call 4 [(.slot 0), (.con (.int 0)), (.gcon 0)]))) [.raise_ 0 .none] [],
    .ret (.slot 0)] }
def F_common_by : Fn := { ar := 2, sl := 2, body := [.asg (.tp [(.nm 0), (.nm 1)]) (.tup [(.bi .abs [(.slot 0)]), (.bi .abs [(.slot 1)])]),
    .wh (.cmp .gt (.slot 1) (.con (.int 0))) [.asg (.tp [(.nm 0), (.nm 1)]) (.tup [(.slot 1), (.bin .mod (.slot 0) (.slot 1))])],
    .ret (.slot 0)] }
def F_is_fraction : Fn := { ar := 1, sl := 2, body := [.ite (.or (.not (.val (.bi (.isi [.tup]) [(.slot 0)]))) (.or (.cmp .ne (.bi .len [(.slot 0)]) (.con (.int 2))) (.not (.val (.bi .all [(.comp (.nm 1) (.seq (.slot 0)) .none (.call 3 [(.slot 1)]) [1])]))))) [.ret (.con (.bl false))] [],
    .ret (.and (.cmp .ge (.idx (.slot 0) (.con (.int 1))) (.con (.int 1))) (.cmp .eq (.call 6 [(.idx (.slot 0) (.con (.int 0))), (.idx (.slot 0) (.con (.int 1)))]) (.con (.int 1))))] }
def F_are_fractions : Fn := { ar := 1, sl := 2, body := [.ret (.and (.bi (.isi [.tup]) [(.slot 0)]) (.bi .all [(.comp (.nm 1) (.seq (.slot 0)) .none (.call 7 [(.slot 1)]) [1])]))] }
def F_is_row_by : Fn := { ar := 2, sl := 2, body := [.ret (.and (.call 8 [(.slot 1)]) (.cmp .eq (.bi .len [(.slot 1)]) (.slot 0)))] }
def F_is_form_by : Fn := { ar := 2, sl := 2, body := [.ite (.or (.not (.val (.bi (.isi [.tup]) [(.slot 1)]))) (.cmp .ne (.bi .len [(.slot 1)]) (.con (.int 2)))) [.ret (.con (.bl false))] [],
    .ret (.and (.call 9 [(.slot 0), (.idx (.slot 1) (.con (.int 0)))]) (.call 7 [(.idx (.slot 1) (.con (.int 1)))]))] }
def F_is_fence_by : Fn := { ar := 2, sl := 2, body := [.ret (.call 10 [(.slot 0), (.slot 1)])] }
def F_require_fence : Fn := { ar := 2, sl := 2, body := [.ite (.not (.val (.call 11 [(.slot 0), (.slot 1)]))) [.raise_ 1 .none] [],
    .ret (.slot 1)] }
def F_require_row : Fn := { ar := 2, sl := 2, body := [.ite (.not (.val (.call 9 [(.slot 0), (.slot 1)]))) [.raise_ 2 .none] [],
    .ret (.slot 1)] }
def F_require_fenced : Fn := { ar := 3, sl := 3, body := [.exp (.call 5 [(.slot 0)]),
    .exp (.call 12 [(.slot 0), (.slot 1)]),
    .exp (.call 13 [(.slot 0), (.slot 2)])] }
def F_sign_by : Fn := { ar := 1, sl := 1, body := [.ret (.bin .sub (.bi .int [(.cmp .gt (.idx (.slot 0) (.con (.int 0))) (.con (.int 0)))]) (.bi .int [(.cmp .lt (.idx (.slot 0) (.con (.int 0))) (.con (.int 0)))]))] }
def F_made : Fn := { ar := 2, sl := 3, body := [.ite (.cmp .lt (.slot 1) (.con (.int 0))) [.asg (.tp [(.nm 0), (.nm 1)]) (.tup [(.neg (.slot 0)), (.neg (.slot 1))])] [],
    .asg (.nm 2) (.call 6 [(.slot 0), (.slot 1)]),
    .ret (.tup [(.bin .fdiv (.slot 0) (.slot 2)), (.bin .fdiv (.slot 1) (.slot 2))])] }
def F_added_fractions : Fn := { ar := 2, sl := 2, body := [.ite (.chain .eq .eq (.idx (.slot 0) (.con (.int 1))) (.idx (.slot 1) (.con (.int 1))) (.con (.int 1))) [.ret (.tup [(.bin .add (.idx (.slot 0) (.con (.int 0))) (.idx (.slot 1) (.con (.int 0)))), (.con (.int 1))])] [],
    .ret (.call 16 [(.bin .add (.bin .mul (.idx (.slot 0) (.con (.int 0))) (.idx (.slot 1) (.con (.int 1)))) (.bin .mul (.idx (.slot 1) (.con (.int 0))) (.idx (.slot 0) (.con (.int 1))))), (.bin .mul (.idx (.slot 0) (.con (.int 1))) (.idx (.slot 1) (.con (.int 1))))])] }
def F_opposite : Fn := { ar := 1, sl := 1, body := [.ret (.tup [(.neg (.idx (.slot 0) (.con (.int 0)))), (.idx (.slot 0) (.con (.int 1)))])] }
def F_less : Fn := { ar := 2, sl := 2, body := [.ret (.call 17 [(.slot 0), (.call 18 [(.slot 1)])])] }
def F_sum_by : Fn := { ar := 1, sl := 3, body := [.asg (.nm 1) (.gcon 1),
    .for_ (.nm 2) (.seq (.slot 0)) [.asg (.nm 1) (.call 17 [(.slot 1), (.slot 2)])],
    .ret (.slot 1)] }
def F_multiplied : Fn := { ar := 2, sl := 2, body := [.ite (.chain .eq .eq (.idx (.slot 0) (.con (.int 1))) (.idx (.slot 1) (.con (.int 1))) (.con (.int 1))) [.ret (.tup [(.bin .mul (.idx (.slot 0) (.con (.int 0))) (.idx (.slot 1) (.con (.int 0)))), (.con (.int 1))])] [],
    .ret (.call 16 [(.bin .mul (.idx (.slot 0) (.con (.int 0))) (.idx (.slot 1) (.con (.int 0)))), (.bin .mul (.idx (.slot 0) (.con (.int 1))) (.idx (.slot 1) (.con (.int 1))))])] }
def F_product_by : Fn := { ar := 2, sl := 4, body := [.ret (.call 20 [(.comp (.tp [(.nm 2), (.nm 3)]) (.zip (.slot 0) (.slot 1)) .none (.call 21 [(.slot 2), (.slot 3)]) [2, 3])])] }
def F_slack_by : Fn := { ar := 2, sl := 2, body := [.ret (.call 19 [(.call 22 [(.idx (.slot 0) (.con (.int 0))), (.slot 1)]), (.idx (.slot 0) (.con (.int 1)))])] }
def F_holds_by : Fn := { ar := 2, sl := 2, body := [.ret (.cmp .ge (.call 15 [(.call 23 [(.slot 0), (.slot 1)])]) (.con (.int 0)))] }
def F_holds : Fn := { ar := 3, sl := 3, body := [.exp (.call 14 [(.slot 0), (.slot 1), (.slot 2)]),
    .ret (.call 24 [(.slot 1), (.slot 2)])] }
def F_slack : Fn := { ar := 3, sl := 3, body := [.exp (.call 14 [(.slot 0), (.slot 1), (.slot 2)]),
    .ret (.call 23 [(.slot 1), (.slot 2)])] }
def F_is_room_by : Fn := { ar := 2, sl := 3, body := [.ite (.or (.not (.val (.bi (.isi [.tup]) [(.slot 1)]))) (.cmp .gt (.bi .len [(.slot 1)]) (.gcon 2))) [.ret (.con (.bl false))] [],
    .ret (.bi .all [(.comp (.nm 2) (.seq (.slot 1)) .none (.call 11 [(.slot 0), (.slot 2)]) [2])])] }
def F_require_room : Fn := { ar := 2, sl := 2, body := [.ite (.not (.val (.call 27 [(.slot 0), (.slot 1)]))) [.raise_ 3 .none] [],
    .ret (.slot 1)] }
def F_require_roomed : Fn := { ar := 2, sl := 2, body := [.exp (.call 5 [(.slot 0)]),
    .exp (.call 28 [(.slot 0), (.slot 1)])] }
def F_keeps_by : Fn := { ar := 2, sl := 3, body := [.ret (.bi .all [(.comp (.nm 2) (.seq (.slot 0)) .none (.call 24 [(.slot 2), (.slot 1)]) [2])])] }
def F_keeps : Fn := { ar := 3, sl := 3, body := [.exp (.call 29 [(.slot 0), (.slot 1)]),
    .ret (.call 30 [(.slot 1), (.call 13 [(.slot 0), (.slot 2)])])] }
def F_broken : Fn := { ar := 3, sl := 5, body := [.exp (.call 29 [(.slot 0), (.slot 1)]),
    .exp (.call 13 [(.slot 0), (.slot 2)]),
    .ret (.bi .tuple [(.comp (.tp [(.nm 3), (.nm 4)]) (.enum (.slot 1)) (.some (.not (.val (.call 24 [(.slot 4), (.slot 2)])))) (.slot 3) [3, 4])])] }
def F_turned_by : Fn := { ar := 1, sl := 2, body := [.ret (.tup [(.bi .tuple [(.comp (.nm 1) (.seq (.idx (.slot 0) (.con (.int 0)))) .none (.call 18 [(.slot 1)]) [1])]), (.call 18 [(.idx (.slot 0) (.con (.int 1)))])])] }
def F_turned : Fn := { ar := 2, sl := 2, body := [.exp (.call 5 [(.slot 0)]),
    .ret (.call 33 [(.call 12 [(.slot 0), (.slot 1)])])] }
def F_fence_of_form : Fn := { ar := 1, sl := 1, body := [.ret (.tup [(.idx (.slot 0) (.con (.int 0))), (.call 18 [(.idx (.slot 0) (.con (.int 1)))])])] }
def F_fence_form : Fn := { ar := 2, sl := 2, body := [.exp (.call 5 [(.slot 0)]),
    .ret (.call 35 [(.call 12 [(.slot 0), (.slot 1)])])] }
def F_great_step : Fn := { ar := 0, sl := 0, body := [.ret (.bi .int [(.bin .add (.con (.str [49])) (.bin .mul (.con (.str [48])) (.gcon 3)))])] }
def F_digits_text : Fn := { ar := 1, sl := 5, body := [.asg (.tp [(.nm 1), (.nm 2), (.nm 3)]) (.tup [(.call 37 []), (.new []), (.slot 0)]),
    .wh (.cmp .ge (.slot 3) (.slot 1)) [.asg (.tp [(.nm 3), (.nm 4)]) (.bi .divmod [(.slot 3), (.slot 1)]),
    .never],
    .ret (.join (.con (.str [])) (.lst [(.bi .str [(.slot 3)]), (.star (.rev (.slot 2)))]))] }
def F_number_text : Fn := { ar := 1, sl := 1, body := [.ret (.ite (.cmp .lt (.slot 0) (.con (.int 0))) (.bin .add (.con (.str [45])) (.call 38 [(.neg (.slot 0))])) (.call 38 [(.slot 0)]))] }
def F_text_by : Fn := { ar := 1, sl := 1, body := [.ret (.ite (.cmp .eq (.idx (.slot 0) (.con (.int 1))) (.con (.int 1))) (.call 39 [(.idx (.slot 0) (.con (.int 0)))]) (.bin .add (.bin .add (.call 39 [(.idx (.slot 0) (.con (.int 0)))]) (.con (.str [47]))) (.call 39 [(.idx (.slot 0) (.con (.int 1)))])))] }
def F_row_text_by : Fn := { ar := 1, sl := 2, body := [.ret (.ite (.cmp .ne (.slot 0) (.tup [])) (.join (.con (.str [32])) (.comp (.nm 1) (.seq (.slot 0)) .none (.call 40 [(.slot 1)]) [1])) (.gcon 4))] }
def F_fence_text : Fn := { ar := 2, sl := 2, body := [.exp (.call 5 [(.slot 0)]),
    .exp (.call 12 [(.slot 0), (.slot 1)]),
    .ret (.bin .add (.bin .add (.call 41 [(.idx (.slot 1) (.con (.int 0)))]) (.con (.str [32, 62, 61, 32]))) (.call 40 [(.idx (.slot 1) (.con (.int 1)))]))] }
def F_is_fence : Fn := { ar := 2, sl := 2, body := [.ret (.call 11 [(.call 5 [(.slot 0)]), (.slot 1)])] }
def F_is_room : Fn := { ar := 2, sl := 2, body := [.ret (.call 27 [(.call 5 [(.slot 0)]), (.slot 1)])] }
def F_few : Fn := { ar := 1, sl := 1, body := [.ite (.cmp .gt (.bi .len [(.slot 0)]) (.gcon 2)) [.raise_ 4 (.some (.gcon 2))] [],
    .ret (.bi .tuple [(.slot 0)])] }
def F_met : Fn := { ar := 3, sl := 3, body := [.exp (.call 29 [(.slot 0), (.slot 1)]),
    .ret (.call 45 [(.bin .add (.slot 1) (.call 28 [(.slot 0), (.slot 2)]))])] }
def F_require_form : Fn := { ar := 2, sl := 2, body := [.ite (.not (.val (.call 10 [(.slot 0), (.slot 1)]))) [.raise_ 5 .none] [],
    .ret (.slot 1)] }
def F_form_fence : Fn := { ar := 2, sl := 2, body := [.exp (.call 5 [(.slot 0)]),
    .ret (.call 35 [(.call 47 [(.slot 0), (.slot 1)])])] }
def F_noughts : Fn := { ar := 1, sl := 1, body := [.ret (.bin .mul (.tup [(.gcon 1)]) (.slot 0))] }
def F_number_by_width : Fn := { ar := 2, sl := 2, body := [.ret (.tup [(.call 49 [(.slot 0)]), (.slot 1)])] }
def F_row_added : Fn := { ar := 2, sl := 4, body := [.ret (.bi .tuple [(.comp (.tp [(.nm 2), (.nm 3)]) (.zip (.slot 0) (.slot 1)) .none (.call 17 [(.slot 2), (.slot 3)]) [2, 3])])] }
def F_form_added : Fn := { ar := 2, sl := 2, body := [.ret (.tup [(.call 51 [(.idx (.slot 0) (.con (.int 0))), (.idx (.slot 1) (.con (.int 0)))]), (.call 17 [(.idx (.slot 0) (.con (.int 1))), (.idx (.slot 1) (.con (.int 1)))])])] }
def F_row_multiplied : Fn := { ar := 2, sl := 3, body := [.ret (.bi .tuple [(.comp (.nm 2) (.seq (.slot 1)) .none (.call 21 [(.slot 0), (.slot 2)]) [2])])] }
def F_form_multiplied : Fn := { ar := 2, sl := 2, body := [.ret (.tup [(.call 53 [(.slot 0), (.idx (.slot 1) (.con (.int 0)))]), (.call 21 [(.slot 0), (.idx (.slot 1) (.con (.int 1)))])])] }
def F_form_behind : Fn := { ar := 3, sl := 6, body := [.asg (.nm 3) (.call 50 [(.slot 1), (.idx (.slot 0) (.con (.int 1)))]),
    .for_ (.tp [(.nm 4), (.nm 5)]) (.zip (.idx (.slot 0) (.con (.int 0))) (.slot 2)) [.ite (.cmp .ne (.slot 4) (.gcon 1)) [.asg (.nm 3) (.call 52 [(.slot 3), (.call 54 [(.slot 4), (.slot 5)])])] []],
    .ret (.slot 3)] }
def F_fence_moved : Fn := { ar := 3, sl := 3, body := [.ret (.call 35 [(.call 55 [(.call 35 [(.slot 0)]), (.slot 1), (.slot 2)])])] }
def F_require_forms : Fn := { ar := 3, sl := 5, body := [.asg (.nm 3) (.and (.bi (.isi [.tup]) [(.slot 1)]) (.bi .all [(.comp (.nm 4) (.seq (.slot 1)) .none (.call 10 [(.slot 0), (.slot 4)]) [4])])),
    .ite (.or (.not (.val (.slot 3))) (.or (.cmp .gt (.bi .len [(.slot 1)]) (.gcon 0)) (.and (.cmp .isn (.slot 2) (.con .non)) (.cmp .ne (.bi .len [(.slot 1)]) (.slot 2))))) [.raise_ 5 .none] [],
    .ret (.slot 1)] }
def F_fence_behind : Fn := { ar := 4, sl := 4, body := [.exp (.call 5 [(.slot 0)]),
    .exp (.call 12 [(.slot 0), (.slot 1)]),
    .exp (.call 5 [(.slot 2)]),
    .ret (.call 56 [(.slot 1), (.slot 2), (.call 57 [(.slot 2), (.slot 3), (.slot 0)])])] }
def F_room_behind : Fn := { ar := 4, sl := 5, body := [.exp (.call 29 [(.slot 0), (.slot 1)]),
    .exp (.call 5 [(.slot 2)]),
    .exp (.call 57 [(.slot 2), (.slot 3), (.slot 0)]),
    .ret (.bi .tuple [(.comp (.nm 4) (.seq (.slot 1)) .none (.call 56 [(.slot 4), (.slot 2), (.slot 3)]) [4])])] }
def F_require_wider : Fn := { ar := 2, sl := 2, body := [.ite (.cmp .lt (.call 5 [(.slot 1)]) (.slot 0)) [.raise_ 0 .none] [],
    .ret (.slot 1)] }
def F_fence_widened : Fn := { ar := 2, sl := 2, body := [.ret (.tup [(.bin .add (.idx (.slot 0) (.con (.int 0))) (.call 49 [(.bin .sub (.slot 1) (.bi .len [(.idx (.slot 0) (.con (.int 0)))]))])), (.idx (.slot 0) (.con (.int 1)))])] }
def F_widened_room : Fn := { ar := 3, sl := 4, body := [.exp (.call 29 [(.slot 0), (.slot 1)]),
    .exp (.call 60 [(.slot 0), (.slot 2)]),
    .ret (.bi .tuple [(.comp (.nm 3) (.seq (.slot 1)) .none (.call 61 [(.slot 3), (.slot 2)]) [3])])] }
def F_unit_by : Fn := { ar := 2, sl := 3, body := [.ret (.bi .tuple [(.comp (.nm 2) (.rng1 (.slot 0)) .none (.ite (.cmp .eq (.slot 2) (.slot 1)) (.gcon 5) (.gcon 1)) [2])])] }
def F_box_by : Fn := { ar := 2, sl := 7, body := [.asg (.nm 2) (.new []),
    .for_ (.tp [(.nm 3), (.tp [(.nm 5), (.nm 6)])]) (.enumz (.slot 0) (.slot 1)) [.asg (.nm 4) (.call 63 [(.bi .len [(.slot 0)]), (.slot 3)]),
    .ext (.slot 2) (.lst [(.tup [(.slot 4), (.slot 5)]), (.call 33 [(.tup [(.slot 4), (.slot 6)])])])],
    .ret (.call 45 [(.slot 2)])] }
def F_point_room : Fn := { ar := 2, sl := 2, body := [.exp (.call 5 [(.slot 0)]),
    .exp (.call 13 [(.slot 0), (.slot 1)]),
    .ret (.call 64 [(.slot 1), (.slot 1)])] }
def F_require_two : Fn := { ar := 3, sl := 3, body := [.exp (.call 5 [(.slot 0)]),
    .exp (.call 13 [(.slot 0), (.slot 1)]),
    .exp (.call 13 [(.slot 0), (.slot 2)])] }
def F_is_less_by : Fn := { ar := 2, sl := 2, body := [.ret (.cmp .lt (.bin .mul (.idx (.slot 0) (.con (.int 0))) (.idx (.slot 1) (.con (.int 1)))) (.bin .mul (.idx (.slot 1) (.con (.int 0))) (.idx (.slot 0) (.con (.int 1)))))] }
def F_box_room : Fn := { ar := 3, sl := 5, body := [.exp (.call 66 [(.slot 0), (.slot 1), (.slot 2)]),
    .ite (.val (.bi .any [(.comp (.tp [(.nm 3), (.nm 4)]) (.zip (.slot 1) (.slot 2)) .none (.call 67 [(.slot 4), (.slot 3)]) [3, 4])])) [.raise_ 6 .none] [],
    .ret (.call 64 [(.slot 1), (.slot 2)])] }
def F_added_by : Fn := { ar := 3, sl := 7, body := [.asg (.tp [(.nm 3), (.nm 4)]) (.tup [(.call 49 [(.slot 0)]), (.gcon 1)]),
    .for_ (.tp [(.nm 5), (.nm 6)]) (.zip (.slot 1) (.slot 2)) [.ite (.cmp .ne (.slot 6) (.gcon 1)) [.asg (.nm 3) (.call 51 [(.slot 3), (.call 53 [(.slot 6), (.idx (.slot 5) (.con (.int 0)))])]),
    .asg (.nm 4) (.call 20 [(.lst [(.slot 4), (.call 21 [(.slot 6), (.idx (.slot 5) (.con (.int 1)))])])])] []],
    .ret (.tup [(.slot 3), (.slot 4)])] }
def F_are_weights : Fn := { ar := 2, sl := 3, body := [.ret (.and (.call 8 [(.slot 1)]) (.and (.cmp .eq (.bi .len [(.slot 1)]) (.slot 0)) (.bi .all [(.comp (.nm 2) (.seq (.slot 1)) .none (.cmp .ge (.call 15 [(.slot 2)]) (.con (.int 0))) [2])])))] }
def F_require_weights : Fn := { ar := 2, sl := 2, body := [.ite (.not (.val (.call 70 [(.slot 0), (.slot 1)]))) [.raise_ 7 .none] [],
    .ret (.slot 1)] }
def F_added_fences : Fn := { ar := 3, sl := 3, body := [.exp (.call 29 [(.slot 0), (.slot 1)]),
    .ret (.call 69 [(.slot 0), (.slot 1), (.call 71 [(.bi .len [(.slot 1)]), (.slot 2)])])] }
def GS_law_others_right_0 : List E := [(.call 43 [(.slot 5), (.slot 3)]),
  (.call 44 [(.slot 5), (.slot 4)]),
  (.call 46 [(.slot 5), (.slot 8), (.slot 8)]),
  (.call 46 [(.con (.int 2)), (.slot 8), (.slot 8)]),
  (.call 46 [(.con (.int 2)), (.slot 4), (.slot 8)]),
  (.call 46 [(.con (.int 2)), (.bin .mul (.slot 4) (.con (.int 7))), (.bin .mul (.slot 4) (.con (.int 7)))]),
  (.call 46 [(.con (.int 2)), (.bin .mul (.slot 4) (.con (.int 7))), (.bin .mul (.slot 4) (.con (.int 6)))]),
  (.call 48 [(.slot 5), (.slot 6)]),
  (.call 48 [(.con (.int 2)), (.slot 6)]),
  (.call 58 [(.con (.int 2)), (.slot 7), (.slot 5), (.slot 6)]),
  (.call 58 [(.con (.int 2)), (.slot 3), (.slot 5), (.slot 6)]),
  (.call 58 [(.con (.int 2)), (.slot 3), (.con (.int 2)), (.tup [(.slot 2)])]),
  (.call 58 [(.con (.int 2)), (.slot 3), (.con (.int 2)), (.tup [(.slot 2), (.slot 2)])]),
  (.call 59 [(.con (.int 2)), (.slot 8), (.slot 5), (.slot 6)]),
  (.call 59 [(.con (.int 2)), (.slot 4), (.slot 5), (.slot 6)]),
  (.call 59 [(.con (.int 2)), (.slot 4), (.con (.int 2)), (.tup [(.slot 2), (.slot 6)])]),
  (.call 62 [(.con (.int 2)), (.slot 8), (.slot 5)]),
  (.call 62 [(.con (.int 2)), (.slot 4), (.slot 5)]),
  (.call 62 [(.con (.int 2)), (.slot 4), (.con (.int 1))]),
  (.call 65 [(.slot 5), (.slot 6)]),
  (.call 65 [(.con (.int 2)), (.slot 6)]),
  (.call 65 [(.con (.int 21)), (.bin .mul (.tup [(.tup [(.con (.int 0)), (.con (.int 1))])]) (.con (.int 21)))]),
  (.call 65 [(.con (.int 20)), (.bin .mul (.tup [(.tup [(.con (.int 0)), (.con (.int 1))])]) (.con (.int 20)))]),
  (.call 68 [(.con (.int 2)), (.slot 6), (.slot 6)]),
  (.call 68 [(.con (.int 2)), (.slot 1), (.slot 6)]),
  (.call 68 [(.con (.int 2)), (.slot 1), (.tup [(.tup [(.con (.int 1)), (.con (.int 3))]), (.tup [(.con (.int 3)), (.con (.int 1))])])]),
  (.call 68 [(.con (.int 2)), (.slot 1), (.slot 1)]),
  (.call 72 [(.con (.int 2)), (.slot 8), (.slot 9)]),
  (.call 72 [(.con (.int 2)), (.slot 4), (.slot 9)]),
  (.call 72 [(.con (.int 2)), (.slot 4), (.tup [(.tup [(.con (.int 0)), (.con (.int 1))]), (.tup [(.con (.int 1)), (.con (.int 2))]), (.tup [(.con (.int 3)), (.con (.int 1))])])])]
def F_law_others_right : Fn := { ar := 9, sl := 13, body := [.asg (.nm 9) (.call 2 [(.slot 0), (.lst [(.con .non), (.tup []), (.bin .mul (.lst [(.tup [(.con (.int 0)), (.con (.int 1))])]) (.con (.int 3))), (.bin .mul (.tup [(.tup [(.con (.int 0)), (.con (.int 1))])]) (.con (.int 2))), (.tup [(.tup [(.con (.int 0)), (.con (.int 1))]), (.tup [(.con (.int 0)), (.con (.int 1))]), (.tup [(.neg (.con (.int 1))), (.con (.int 2))])]), (.bin .mul (.tup [(.tup [(.con (.int 0)), (.con (.int 1))])]) (.con (.int 4))), (.con (.int 0))])]),
    .lams 10 0,
    .asg (.nm 11) (.lst [(.con (.str [119, 105, 100, 116, 104])), (.con (.str [119, 105, 100, 116, 104])), (.con (.str [119, 105, 100, 116, 104])), (.con (.str [114, 111, 111, 109])), (.con (.str [114, 111, 111, 109])), (.con (.str [109, 97, 110, 121, 32, 52, 48])), (.con (.str [102, 105, 110, 101])), (.con (.str [119, 105, 100, 116, 104])), (.con (.str [102, 111, 114, 109])), (.con (.str [102, 101, 110, 99, 101])), (.con (.str [119, 105, 100, 116, 104])), (.con (.str [102, 111, 114, 109])), (.con (.str [102, 105, 110, 101]))]),
    .asg (.nm 11) (.bin .add (.slot 11) (.lst [(.con (.str [114, 111, 111, 109])), (.con (.str [119, 105, 100, 116, 104])), (.con (.str [102, 111, 114, 109])), (.con (.str [114, 111, 111, 109])), (.con (.str [119, 105, 100, 116, 104])), (.con (.str [119, 105, 100, 116, 104])), (.con (.str [119, 105, 100, 116, 104])), (.con (.str [114, 111, 119])), (.con (.str [109, 97, 110, 121, 32, 52, 48])), (.con (.str [102, 105, 110, 101])), (.con (.str [114, 111, 119])), (.con (.str [114, 111, 119]))])),
    .ret (.cmp .eq (.guards fine hds 10 0 GS_law_others_right_0) (.bin .add (.slot 11) (.lst [(.con (.str [111, 112, 101, 114, 97, 116, 105, 111, 110])), (.con (.str [102, 105, 110, 101])), (.con (.str [114, 111, 111, 109])), (.con (.str [112, 97, 112, 101, 114])), (.con (.str [102, 105, 110, 101]))])))] }
def F_law_right : Fn := { ar := 1, sl := 11, body := [.asg (.tp [(.nm 7), (.nm 8)]) (.tup [(.tup [(.tup [(.con (.int 1)), (.con (.int 2))]), (.tup [(.con (.int 3)), (.con (.int 1))])]), (.tup [(.tup [(.tup [(.con (.int 1)), (.con (.int 1))]), (.tup [(.con (.int 0)), (.con (.int 1))])]), (.tup [(.con (.int 5)), (.con (.int 1))])])]),
    .asg (.tp [(.nm 9), (.nm 10)]) (.tup [(.tup [(.slot 7), (.tup [(.con (.int 1)), (.con (.int 1))])]), (.bin .mul (.tup [(.tup [(.slot 7), (.tup [(.con (.int 1)), (.con (.int 1))])])]) (.con (.int 3)))]),
    .asg (.nm 1) (.call 2 [(.slot 0), (.lst [(.con .non), (.neg (.con (.int 1))), (.con (.int 25)), (.con (.bl true)), (.con (.str [50])), (.tup [(.con (.int 2))])])]),
    .asg (.nm 2) (.call 2 [(.slot 0), (.lst [(.con .non), (.tup []), (.bi .list [(.slot 7)]), (.slc (.slot 7) .none (.some (.con (.int 1)))), (.tup [(.tup [(.con (.int 1)), (.con (.int 2))]), (.con (.int 3))]), (.tup [(.tup [(.con (.int 2)), (.con (.int 4))]), (.tup [(.con (.int 3)), (.con (.int 1))])]), (.con (.int 0)), .dict0])]),
    .asg (.nm 3) (.call 2 [(.slot 0), (.lst [(.con .non), (.tup []), (.bi .list [(.slot 9)]), (.slc (.slot 9) .none (.some (.con (.int 1)))), (.tup [(.slot 7), (.con (.int 1))]), (.tup [(.slc (.slot 7) .none (.some (.con (.int 1)))), (.tup [(.con (.int 1)), (.con (.int 1))])]), (.con (.int 0)), .dict0, (.bin .add (.slot 9) (.tup [(.con (.int 0))]))])]),
    .asg (.nm 4) (.call 2 [(.slot 0), (.lst [(.con .non), (.bi .list [(.slot 10)]), (.tup [(.slot 3)]), (.bin .add (.slot 10) (.tup [(.con (.int 0))])), (.con (.int 0)), .dict0, (.bin .mul (.slot 10) (.con (.int 14))), (.con (.str [114, 111, 111, 109]))])]),
    .asg (.nm 5) (.new []),
    .for_ (.nm 6) (.seq (.tup [(.gfn 25), (.gfn 26)])) [.app (.slot 5) (.guard fine hds (.callv 6 [(.slot 1), (.slot 3), (.slot 2)] [])),
    .app (.slot 5) (.guard fine hds (.callv 6 [(.con (.int 2)), (.slot 3), (.slot 2)] [])),
    .app (.slot 5) (.guard fine hds (.callv 6 [(.con (.int 2)), (.slot 9), (.slot 2)] [])),
    .app (.slot 5) (.guard fine hds (.callv 6 [(.con (.int 2)), (.slot 9), (.slot 7)] []))],
    .ite (.cmp .ne (.slot 5) (.bin .mul (.lst [(.con (.str [119, 105, 100, 116, 104])), (.con (.str [102, 101, 110, 99, 101])), (.con (.str [114, 111, 119])), (.con (.str [102, 105, 110, 101]))]) (.con (.int 2)))) [.ret (.con (.bl false))] [],
    .asg (.nm 5) (.new []),
    .for_ (.nm 6) (.seq (.tup [(.gfn 31), (.gfn 32)])) [.app (.slot 5) (.guard fine hds (.callv 6 [(.slot 1), (.slot 4), (.slot 2)] [])),
    .app (.slot 5) (.guard fine hds (.callv 6 [(.con (.int 2)), (.slot 4), (.slot 2)] [])),
    .app (.slot 5) (.guard fine hds (.callv 6 [(.con (.int 2)), (.slot 10), (.slot 2)] [])),
    .app (.slot 5) (.guard fine hds (.callv 6 [(.con (.int 2)), (.slot 10), (.slot 7)] []))],
    .ite (.cmp .ne (.slot 5) (.bin .mul (.lst [(.con (.str [119, 105, 100, 116, 104])), (.con (.str [114, 111, 111, 109])), (.con (.str [114, 111, 119])), (.con (.str [102, 105, 110, 101]))]) (.con (.int 2)))) [.ret (.con (.bl false))] [],
    .asg (.nm 5) (.new []),
    .for_ (.nm 6) (.seq (.tup [(.gfn 34), (.gfn 36), (.gfn 42)])) [.app (.slot 5) (.guard fine hds (.callv 6 [(.slot 1), (.slot 3)] [])),
    .app (.slot 5) (.guard fine hds (.callv 6 [(.con (.int 2)), (.slot 3)] [])),
    .app (.slot 5) (.guard fine hds (.callv 6 [(.con (.int 2)), (.slot 9)] []))],
    .ite (.cmp .ne (.slot 5) (.bin .mul (.lst [(.con (.str [119, 105, 100, 116, 104])), (.con (.str [102, 101, 110, 99, 101])), (.con (.str [102, 105, 110, 101]))]) (.con (.int 3)))) [.ret (.con (.bl false))] [],
    .ret (.call 73 [(.slot 0), (.slot 7), (.slot 8), (.slot 9), (.slot 10), (.slot 1), (.slot 2), (.slot 3), (.slot 4)])] }
def F_law : Fn := { ar := 1, sl := 4, body := [.forT (.nm 1) (.rng1 (.bi .max [(.con (.int 1)), (.bi .min [(.con (.int 5)), (.bi .len [(.slot 0)])])])) [.asg (.nm 2) (.call 0 [(.slot 0), (.slot 1)]),
    .for_ (.nm 3) (.rng1 (.con (.int 5))) [.ite (.not (.val (.call 74 [(.slot 2)]))) [.ret (.con (.bl false))] []]] [2, 3],
    .ret (.con (.bl true))] }
def fns : List Fn := [F_law_dice, F_law_roll, F_law_pick, F_is_integer, F_is_count, F_require_width, F_common_by, F_is_fraction, F_are_fractions, F_is_row_by, F_is_form_by, F_is_fence_by, F_require_fence, F_require_row, F_require_fenced, F_sign_by, F_made, F_added_fractions, F_opposite, F_less, F_sum_by, F_multiplied, F_product_by, F_slack_by, F_holds_by, F_holds, F_slack, F_is_room_by, F_require_room, F_require_roomed, F_keeps_by, F_keeps, F_broken, F_turned_by, F_turned, F_fence_of_form, F_fence_form, F_great_step, F_digits_text, F_number_text, F_text_by, F_row_text_by, F_fence_text, F_is_fence, F_is_room, F_few, F_met, F_require_form, F_form_fence, F_noughts, F_number_by_width, F_row_added, F_form_added, F_row_multiplied, F_form_multiplied, F_form_behind, F_fence_moved, F_require_forms, F_fence_behind, F_room_behind, F_require_wider, F_fence_widened, F_widened_room, F_unit_by, F_box_by, F_point_room, F_require_two, F_is_less_by, F_box_room, F_added_by, F_are_weights, F_require_weights, F_added_fences, F_law_others_right, F_law_right, F_law]
def gcons : List D := [(.int 24), (.tup [(.int 0), (.int 1)]), (.int 40), (.int 4000), (.str [110, 111, 110, 101]), (.tup [(.int 1), (.int 1)])]
theorem at_law_dice : fns[0]? = some F_law_dice := rfl
theorem at_law_roll : fns[1]? = some F_law_roll := rfl
theorem at_law_pick : fns[2]? = some F_law_pick := rfl
theorem at_is_integer : fns[3]? = some F_is_integer := rfl
theorem at_is_count : fns[4]? = some F_is_count := rfl
theorem at_require_width : fns[5]? = some F_require_width := rfl
theorem at_common_by : fns[6]? = some F_common_by := rfl
theorem at_is_fraction : fns[7]? = some F_is_fraction := rfl
theorem at_are_fractions : fns[8]? = some F_are_fractions := rfl
theorem at_is_row_by : fns[9]? = some F_is_row_by := rfl
theorem at_is_form_by : fns[10]? = some F_is_form_by := rfl
theorem at_is_fence_by : fns[11]? = some F_is_fence_by := rfl
theorem at_require_fence : fns[12]? = some F_require_fence := rfl
theorem at_require_row : fns[13]? = some F_require_row := rfl
theorem at_require_fenced : fns[14]? = some F_require_fenced := rfl
theorem at_sign_by : fns[15]? = some F_sign_by := rfl
theorem at_made : fns[16]? = some F_made := rfl
theorem at_added_fractions : fns[17]? = some F_added_fractions := rfl
theorem at_opposite : fns[18]? = some F_opposite := rfl
theorem at_less : fns[19]? = some F_less := rfl
theorem at_sum_by : fns[20]? = some F_sum_by := rfl
theorem at_multiplied : fns[21]? = some F_multiplied := rfl
theorem at_product_by : fns[22]? = some F_product_by := rfl
theorem at_slack_by : fns[23]? = some F_slack_by := rfl
theorem at_holds_by : fns[24]? = some F_holds_by := rfl
theorem at_holds : fns[25]? = some F_holds := rfl
theorem at_slack : fns[26]? = some F_slack := rfl
theorem at_is_room_by : fns[27]? = some F_is_room_by := rfl
theorem at_require_room : fns[28]? = some F_require_room := rfl
theorem at_require_roomed : fns[29]? = some F_require_roomed := rfl
theorem at_keeps_by : fns[30]? = some F_keeps_by := rfl
theorem at_keeps : fns[31]? = some F_keeps := rfl
theorem at_broken : fns[32]? = some F_broken := rfl
theorem at_turned_by : fns[33]? = some F_turned_by := rfl
theorem at_turned : fns[34]? = some F_turned := rfl
theorem at_fence_of_form : fns[35]? = some F_fence_of_form := rfl
theorem at_fence_form : fns[36]? = some F_fence_form := rfl
theorem at_great_step : fns[37]? = some F_great_step := rfl
theorem at_digits_text : fns[38]? = some F_digits_text := rfl
theorem at_number_text : fns[39]? = some F_number_text := rfl
theorem at_text_by : fns[40]? = some F_text_by := rfl
theorem at_row_text_by : fns[41]? = some F_row_text_by := rfl
theorem at_fence_text : fns[42]? = some F_fence_text := rfl
theorem at_is_fence : fns[43]? = some F_is_fence := rfl
theorem at_is_room : fns[44]? = some F_is_room := rfl
theorem at_few : fns[45]? = some F_few := rfl
theorem at_met : fns[46]? = some F_met := rfl
theorem at_require_form : fns[47]? = some F_require_form := rfl
theorem at_form_fence : fns[48]? = some F_form_fence := rfl
theorem at_noughts : fns[49]? = some F_noughts := rfl
theorem at_number_by_width : fns[50]? = some F_number_by_width := rfl
theorem at_row_added : fns[51]? = some F_row_added := rfl
theorem at_form_added : fns[52]? = some F_form_added := rfl
theorem at_row_multiplied : fns[53]? = some F_row_multiplied := rfl
theorem at_form_multiplied : fns[54]? = some F_form_multiplied := rfl
theorem at_form_behind : fns[55]? = some F_form_behind := rfl
theorem at_fence_moved : fns[56]? = some F_fence_moved := rfl
theorem at_require_forms : fns[57]? = some F_require_forms := rfl
theorem at_fence_behind : fns[58]? = some F_fence_behind := rfl
theorem at_room_behind : fns[59]? = some F_room_behind := rfl
theorem at_require_wider : fns[60]? = some F_require_wider := rfl
theorem at_fence_widened : fns[61]? = some F_fence_widened := rfl
theorem at_widened_room : fns[62]? = some F_widened_room := rfl
theorem at_unit_by : fns[63]? = some F_unit_by := rfl
theorem at_box_by : fns[64]? = some F_box_by := rfl
theorem at_point_room : fns[65]? = some F_point_room := rfl
theorem at_require_two : fns[66]? = some F_require_two := rfl
theorem at_is_less_by : fns[67]? = some F_is_less_by := rfl
theorem at_box_room : fns[68]? = some F_box_room := rfl
theorem at_added_by : fns[69]? = some F_added_by := rfl
theorem at_are_weights : fns[70]? = some F_are_weights := rfl
theorem at_require_weights : fns[71]? = some F_require_weights := rfl
theorem at_added_fences : fns[72]? = some F_added_fences := rfl
theorem at_law_others_right : fns[73]? = some F_law_others_right := rfl
theorem at_law_right : fns[74]? = some F_law_right := rfl
theorem at_law : fns[75]? = some F_law := rfl
end LW
end
section
set_option Elab.async false
set_option autoImplicit false
set_option linter.all false
set_option maxRecDepth 100000
set_option maxHeartbeats 0
namespace LW
open PySem PySem.Spec PyProof.Rows L2 LX DL
def top (i : Nat) : Stmt := PySem.Challenge.pw_meanclouds_k26_errors_of_rooms.main.body.getD i (.Pass ⟨0, 0, 0, 0⟩)
def R_law_dice : Rowd := ⟨F_law_dice, ⟨("_law_dice", none), "_law_dice", "_law_dice", L2.defArgs (top 94), L2.defBody (top 94), L2.defScope (top 94), [], []⟩, ["script", "spot", "cell", "great", "seed"], ["script", "spot"], [], false⟩
theorem B_law_dice : BndOk R_law_dice := fun _ _ _ _ _ _ us hl => match us, hl with | [_, _], _ => rfl
def R_law_roll : Rowd := ⟨F_law_roll, ⟨("_law_roll", none), "_law_roll", "_law_roll", L2.defArgs (top 95), L2.defBody (top 95), L2.defScope (top 95), [], []⟩, ["dice", "total", "one", "two", "found"], ["dice", "total"], [], false⟩
theorem B_law_roll : BndOk R_law_roll := fun _ _ _ _ _ _ us hl => match us, hl with | [_, _], _ => rfl
def R_law_pick : Rowd := ⟨F_law_pick, ⟨("_law_pick", none), "_law_pick", "_law_pick", L2.defArgs (top 96), L2.defBody (top 96), L2.defScope (top 96), [], []⟩, ["dice", "things"], ["dice", "things"], [], false⟩
theorem B_law_pick : BndOk R_law_pick := fun _ _ _ _ _ _ us hl => match us, hl with | [_, _], _ => rfl
def R_is_integer : Rowd := ⟨F_is_integer, ⟨("is_integer", none), "is_integer", "is_integer", L2.defArgs (top 11), L2.defBody (top 11), L2.defScope (top 11), [], []⟩, ["value"], ["value"], [], false⟩
theorem B_is_integer : BndOk R_is_integer := fun _ _ _ _ _ _ us hl => match us, hl with | [_], _ => rfl
def R_is_count : Rowd := ⟨F_is_count, ⟨("is_count", none), "is_count", "is_count", L2.defArgs (top 12), L2.defBody (top 12), L2.defScope (top 12), [], []⟩, ["value", "least", "most"], ["value", "least", "most"], [], false⟩
theorem B_is_count : BndOk R_is_count := fun _ _ _ _ _ _ us hl => match us, hl with | [_, _, _], _ => rfl
def R_require_width : Rowd := ⟨F_require_width, ⟨("require_width", none), "require_width", "require_width", L2.defArgs (top 37), L2.defBody (top 37), L2.defScope (top 37), [], []⟩, ["width"], ["width"], [], false⟩
theorem B_require_width : BndOk R_require_width := fun _ _ _ _ _ _ us hl => match us, hl with | [_], _ => rfl
def R_common_by : Rowd := ⟨F_common_by, ⟨("common_by", none), "common_by", "common_by", L2.defArgs (top 21), L2.defBody (top 21), L2.defScope (top 21), [], []⟩, ["one", "other"], ["one", "other"], [], false⟩
theorem B_common_by : BndOk R_common_by := fun _ _ _ _ _ _ us hl => match us, hl with | [_, _], _ => rfl
def R_is_fraction : Rowd := ⟨F_is_fraction, ⟨("is_fraction", none), "is_fraction", "is_fraction", L2.defArgs (top 22), L2.defBody (top 22), L2.defScope (top 22), [], []⟩, ["value", "one"], ["value"], [], false⟩
theorem B_is_fraction : BndOk R_is_fraction := fun _ _ _ _ _ _ us hl => match us, hl with | [_], _ => rfl
def R_are_fractions : Rowd := ⟨F_are_fractions, ⟨("are_fractions", none), "are_fractions", "are_fractions", L2.defArgs (top 23), L2.defBody (top 23), L2.defScope (top 23), [], []⟩, ["value", "one"], ["value"], [], false⟩
theorem B_are_fractions : BndOk R_are_fractions := fun _ _ _ _ _ _ us hl => match us, hl with | [_], _ => rfl
def R_is_row_by : Rowd := ⟨F_is_row_by, ⟨("is_row_by", none), "is_row_by", "is_row_by", L2.defArgs (top 38), L2.defBody (top 38), L2.defScope (top 38), [], []⟩, ["width", "value"], ["width", "value"], [], false⟩
theorem B_is_row_by : BndOk R_is_row_by := fun _ _ _ _ _ _ us hl => match us, hl with | [_, _], _ => rfl
def R_is_form_by : Rowd := ⟨F_is_form_by, ⟨("is_form_by", none), "is_form_by", "is_form_by", L2.defArgs (top 39), L2.defBody (top 39), L2.defScope (top 39), [], []⟩, ["width", "value"], ["width", "value"], [], false⟩
theorem B_is_form_by : BndOk R_is_form_by := fun _ _ _ _ _ _ us hl => match us, hl with | [_, _], _ => rfl
def R_is_fence_by : Rowd := ⟨F_is_fence_by, ⟨("is_fence_by", none), "is_fence_by", "is_fence_by", L2.defArgs (top 57), L2.defBody (top 57), L2.defScope (top 57), [], []⟩, ["width", "value"], ["width", "value"], [], false⟩
theorem B_is_fence_by : BndOk R_is_fence_by := fun _ _ _ _ _ _ us hl => match us, hl with | [_, _], _ => rfl
def R_require_fence : Rowd := ⟨F_require_fence, ⟨("require_fence", none), "require_fence", "require_fence", L2.defArgs (top 59), L2.defBody (top 59), L2.defScope (top 59), [], []⟩, ["width", "fence"], ["width", "fence"], [], false⟩
theorem B_require_fence : BndOk R_require_fence := fun _ _ _ _ _ _ us hl => match us, hl with | [_, _], _ => rfl
def R_require_row : Rowd := ⟨F_require_row, ⟨("require_row", none), "require_row", "require_row", L2.defArgs (top 40), L2.defBody (top 40), L2.defScope (top 40), [], []⟩, ["width", "row"], ["width", "row"], [], false⟩
theorem B_require_row : BndOk R_require_row := fun _ _ _ _ _ _ us hl => match us, hl with | [_, _], _ => rfl
def R_require_fenced : Rowd := ⟨F_require_fenced, ⟨("require_fenced", none), "require_fenced", "require_fenced", L2.defArgs (top 67), L2.defBody (top 67), L2.defScope (top 67), [], []⟩, ["width", "fence", "row"], ["width", "fence", "row"], [], false⟩
theorem B_require_fenced : BndOk R_require_fenced := fun _ _ _ _ _ _ us hl => match us, hl with | [_, _, _], _ => rfl
def R_sign_by : Rowd := ⟨F_sign_by, ⟨("sign_by", none), "sign_by", "sign_by", L2.defArgs (top 31), L2.defBody (top 31), L2.defScope (top 31), [], []⟩, ["one"], ["one"], [], false⟩
theorem B_sign_by : BndOk R_sign_by := fun _ _ _ _ _ _ us hl => match us, hl with | [_], _ => rfl
def R_made : Rowd := ⟨F_made, ⟨("made", none), "made", "made", L2.defArgs (top 24), L2.defBody (top 24), L2.defScope (top 24), [], []⟩, ["top", "below", "common"], ["top", "below"], [], false⟩
theorem B_made : BndOk R_made := fun _ _ _ _ _ _ us hl => match us, hl with | [_, _], _ => rfl
def R_added_fractions : Rowd := ⟨F_added_fractions, ⟨("added_fractions", none), "added", "added", L2.defArgs (top 25), L2.defBody (top 25), L2.defScope (top 25), [], []⟩, ["one", "other"], ["one", "other"], [], false⟩
theorem B_added_fractions : BndOk R_added_fractions := fun _ _ _ _ _ _ us hl => match us, hl with | [_, _], _ => rfl
def R_opposite : Rowd := ⟨F_opposite, ⟨("opposite", none), "opposite", "opposite", L2.defArgs (top 27), L2.defBody (top 27), L2.defScope (top 27), [], []⟩, ["one"], ["one"], [], false⟩
theorem B_opposite : BndOk R_opposite := fun _ _ _ _ _ _ us hl => match us, hl with | [_], _ => rfl
def R_less : Rowd := ⟨F_less, ⟨("less", none), "less", "less", L2.defArgs (top 28), L2.defBody (top 28), L2.defScope (top 28), [], []⟩, ["one", "other"], ["one", "other"], [], false⟩
theorem B_less : BndOk R_less := fun _ _ _ _ _ _ us hl => match us, hl with | [_, _], _ => rfl
def R_sum_by : Rowd := ⟨F_sum_by, ⟨("sum_by", none), "sum_by", "sum_by", L2.defArgs (top 32), L2.defBody (top 32), L2.defScope (top 32), [], []⟩, ["numbers", "found", "one"], ["numbers"], [], false⟩
theorem B_sum_by : BndOk R_sum_by := fun _ _ _ _ _ _ us hl => match us, hl with | [_], _ => rfl
def R_multiplied : Rowd := ⟨F_multiplied, ⟨("multiplied", none), "multiplied", "multiplied", L2.defArgs (top 29), L2.defBody (top 29), L2.defScope (top 29), [], []⟩, ["one", "other"], ["one", "other"], [], false⟩
theorem B_multiplied : BndOk R_multiplied := fun _ _ _ _ _ _ us hl => match us, hl with | [_, _], _ => rfl
def R_product_by : Rowd := ⟨F_product_by, ⟨("product_by", none), "product_by", "product_by", L2.defArgs (top 46), L2.defBody (top 46), L2.defScope (top 46), [], []⟩, ["row", "other", "one", "two"], ["row", "other"], [], false⟩
theorem B_product_by : BndOk R_product_by := fun _ _ _ _ _ _ us hl => match us, hl with | [_, _], _ => rfl
def R_slack_by : Rowd := ⟨F_slack_by, ⟨("slack_by", none), "slack_by", "slack_by", L2.defArgs (top 64), L2.defBody (top 64), L2.defScope (top 64), [], []⟩, ["fence", "row"], ["fence", "row"], [], false⟩
theorem B_slack_by : BndOk R_slack_by := fun _ _ _ _ _ _ us hl => match us, hl with | [_, _], _ => rfl
def R_holds_by : Rowd := ⟨F_holds_by, ⟨("holds_by", none), "holds_by", "holds_by", L2.defArgs (top 65), L2.defBody (top 65), L2.defScope (top 65), [], []⟩, ["fence", "row"], ["fence", "row"], [], false⟩
theorem B_holds_by : BndOk R_holds_by := fun _ _ _ _ _ _ us hl => match us, hl with | [_, _], _ => rfl
def R_holds : Rowd := ⟨F_holds, ⟨("holds", none), "holds", "holds", L2.defArgs (top 68), L2.defBody (top 68), L2.defScope (top 68), [], []⟩, ["width", "fence", "row"], ["width", "fence", "row"], [], false⟩
theorem B_holds : BndOk R_holds := fun _ _ _ _ _ _ us hl => match us, hl with | [_, _, _], _ => rfl
def R_slack : Rowd := ⟨F_slack, ⟨("slack", none), "slack", "slack", L2.defArgs (top 70), L2.defBody (top 70), L2.defScope (top 70), [], []⟩, ["width", "fence", "row"], ["width", "fence", "row"], [], false⟩
theorem B_slack : BndOk R_slack := fun _ _ _ _ _ _ us hl => match us, hl with | [_, _, _], _ => rfl
def R_is_room_by : Rowd := ⟨F_is_room_by, ⟨("is_room_by", none), "is_room_by", "is_room_by", L2.defArgs (top 58), L2.defBody (top 58), L2.defScope (top 58), [], []⟩, ["width", "value", "one"], ["width", "value"], [], false⟩
theorem B_is_room_by : BndOk R_is_room_by := fun _ _ _ _ _ _ us hl => match us, hl with | [_, _], _ => rfl
def R_require_room : Rowd := ⟨F_require_room, ⟨("require_room", none), "require_room", "require_room", L2.defArgs (top 60), L2.defBody (top 60), L2.defScope (top 60), [], []⟩, ["width", "room"], ["width", "room"], [], false⟩
theorem B_require_room : BndOk R_require_room := fun _ _ _ _ _ _ us hl => match us, hl with | [_, _], _ => rfl
def R_require_roomed : Rowd := ⟨F_require_roomed, ⟨("require_roomed", none), "require_roomed", "require_roomed", L2.defArgs (top 61), L2.defBody (top 61), L2.defScope (top 61), [], []⟩, ["width", "room"], ["width", "room"], [], false⟩
theorem B_require_roomed : BndOk R_require_roomed := fun _ _ _ _ _ _ us hl => match us, hl with | [_, _], _ => rfl
def R_keeps_by : Rowd := ⟨F_keeps_by, ⟨("keeps_by", none), "keeps_by", "keeps_by", L2.defArgs (top 66), L2.defBody (top 66), L2.defScope (top 66), [], []⟩, ["room", "row", "fence"], ["room", "row"], [], false⟩
theorem B_keeps_by : BndOk R_keeps_by := fun _ _ _ _ _ _ us hl => match us, hl with | [_, _], _ => rfl
def R_keeps : Rowd := ⟨F_keeps, ⟨("keeps", none), "keeps", "keeps", L2.defArgs (top 69), L2.defBody (top 69), L2.defScope (top 69), [], []⟩, ["width", "room", "row"], ["width", "room", "row"], [], false⟩
theorem B_keeps : BndOk R_keeps := fun _ _ _ _ _ _ us hl => match us, hl with | [_, _, _], _ => rfl
def R_broken : Rowd := ⟨F_broken, ⟨("broken", none), "broken", "broken", L2.defArgs (top 71), L2.defBody (top 71), L2.defScope (top 71), [], []⟩, ["width", "room", "row", "index", "fence"], ["width", "room", "row"], [], false⟩
theorem B_broken : BndOk R_broken := fun _ _ _ _ _ _ us hl => match us, hl with | [_, _, _], _ => rfl
def R_turned_by : Rowd := ⟨F_turned_by, ⟨("turned_by", none), "turned_by", "turned_by", L2.defArgs (top 72), L2.defBody (top 72), L2.defScope (top 72), [], []⟩, ["fence", "one"], ["fence"], [], false⟩
theorem B_turned_by : BndOk R_turned_by := fun _ _ _ _ _ _ us hl => match us, hl with | [_], _ => rfl
def R_turned : Rowd := ⟨F_turned, ⟨("turned", none), "turned", "turned", L2.defArgs (top 73), L2.defBody (top 73), L2.defScope (top 73), [], []⟩, ["width", "fence"], ["width", "fence"], [], false⟩
theorem B_turned : BndOk R_turned := fun _ _ _ _ _ _ us hl => match us, hl with | [_, _], _ => rfl
def R_fence_of_form : Rowd := ⟨F_fence_of_form, ⟨("fence_of_form", none), "fence_of_form", "fence_of_form", L2.defArgs (top 76), L2.defBody (top 76), L2.defScope (top 76), [], []⟩, ["form"], ["form"], [], false⟩
theorem B_fence_of_form : BndOk R_fence_of_form := fun _ _ _ _ _ _ us hl => match us, hl with | [_], _ => rfl
def R_fence_form : Rowd := ⟨F_fence_form, ⟨("fence_form", none), "fence_form", "fence_form", L2.defArgs (top 78), L2.defBody (top 78), L2.defScope (top 78), [], []⟩, ["width", "fence"], ["width", "fence"], [], false⟩
theorem B_fence_form : BndOk R_fence_form := fun _ _ _ _ _ _ us hl => match us, hl with | [_, _], _ => rfl
def R_great_step : Rowd := ⟨F_great_step, ⟨("great_step", none), "great_step", "great_step", L2.defArgs (top 15), L2.defBody (top 15), L2.defScope (top 15), [], []⟩, [], [], [], false⟩
theorem B_great_step : BndOk R_great_step := fun _ _ _ _ _ _ us hl => match us, hl with | [], _ => rfl
def R_digits_text : Rowd := ⟨F_digits_text, ⟨("digits_text", none), "digits_text", "digits_text", L2.defArgs (top 16), L2.defBody (top 16), L2.defScope (top 16), [], []⟩, ["number", "step", "parts", "left", "rest"], ["number"], [], false⟩
theorem B_digits_text : BndOk R_digits_text := fun _ _ _ _ _ _ us hl => match us, hl with | [_], _ => rfl
def R_number_text : Rowd := ⟨F_number_text, ⟨("number_text", none), "number_text", "number_text", L2.defArgs (top 17), L2.defBody (top 17), L2.defScope (top 17), [], []⟩, ["number"], ["number"], [], false⟩
theorem B_number_text : BndOk R_number_text := fun _ _ _ _ _ _ us hl => match us, hl with | [_], _ => rfl
def R_text_by : Rowd := ⟨F_text_by, ⟨("text_by", none), "text_by", "text_by", L2.defArgs (top 33), L2.defBody (top 33), L2.defScope (top 33), [], []⟩, ["one"], ["one"], [], false⟩
theorem B_text_by : BndOk R_text_by := fun _ _ _ _ _ _ us hl => match us, hl with | [_], _ => rfl
def R_row_text_by : Rowd := ⟨F_row_text_by, ⟨("row_text_by", none), "row_text_by", "row_text_by", L2.defArgs (top 54), L2.defBody (top 54), L2.defScope (top 54), [], []⟩, ["row", "one"], ["row"], [], false⟩
theorem B_row_text_by : BndOk R_row_text_by := fun _ _ _ _ _ _ us hl => match us, hl with | [_], _ => rfl
def R_fence_text : Rowd := ⟨F_fence_text, ⟨("fence_text", none), "fence_text", "fence_text", L2.defArgs (top 92), L2.defBody (top 92), L2.defScope (top 92), [], []⟩, ["width", "fence"], ["width", "fence"], [], false⟩
theorem B_fence_text : BndOk R_fence_text := fun _ _ _ _ _ _ us hl => match us, hl with | [_, _], _ => rfl
def R_is_fence : Rowd := ⟨F_is_fence, ⟨("is_fence", none), "is_fence", "is_fence", L2.defArgs (top 62), L2.defBody (top 62), L2.defScope (top 62), [], []⟩, ["width", "value"], ["width", "value"], [], false⟩
theorem B_is_fence : BndOk R_is_fence := fun _ _ _ _ _ _ us hl => match us, hl with | [_, _], _ => rfl
def R_is_room : Rowd := ⟨F_is_room, ⟨("is_room", none), "is_room", "is_room", L2.defArgs (top 63), L2.defBody (top 63), L2.defScope (top 63), [], []⟩, ["width", "value"], ["width", "value"], [], false⟩
theorem B_is_room : BndOk R_is_room := fun _ _ _ _ _ _ us hl => match us, hl with | [_, _], _ => rfl
def R_few : Rowd := ⟨F_few, ⟨("few", none), "few", "few", L2.defArgs (top 74), L2.defBody (top 74), L2.defScope (top 74), [], []⟩, ["fences"], ["fences"], [], false⟩
theorem B_few : BndOk R_few := fun _ _ _ _ _ _ us hl => match us, hl with | [_], _ => rfl
def R_met : Rowd := ⟨F_met, ⟨("met", none), "met", "met", L2.defArgs (top 75), L2.defBody (top 75), L2.defScope (top 75), [], []⟩, ["width", "room", "others"], ["width", "room", "others"], [], false⟩
theorem B_met : BndOk R_met := fun _ _ _ _ _ _ us hl => match us, hl with | [_, _, _], _ => rfl
def R_require_form : Rowd := ⟨F_require_form, ⟨("require_form", none), "require_form", "require_form", L2.defArgs (top 41), L2.defBody (top 41), L2.defScope (top 41), [], []⟩, ["width", "form"], ["width", "form"], [], false⟩
theorem B_require_form : BndOk R_require_form := fun _ _ _ _ _ _ us hl => match us, hl with | [_, _], _ => rfl
def R_form_fence : Rowd := ⟨F_form_fence, ⟨("form_fence", none), "form_fence", "form_fence", L2.defArgs (top 77), L2.defBody (top 77), L2.defScope (top 77), [], []⟩, ["width", "form"], ["width", "form"], [], false⟩
theorem B_form_fence : BndOk R_form_fence := fun _ _ _ _ _ _ us hl => match us, hl with | [_, _], _ => rfl
def R_noughts : Rowd := ⟨F_noughts, ⟨("noughts", none), "noughts", "noughts", L2.defArgs (top 42), L2.defBody (top 42), L2.defScope (top 42), [], []⟩, ["width"], ["width"], [], false⟩
theorem B_noughts : BndOk R_noughts := fun _ _ _ _ _ _ us hl => match us, hl with | [_], _ => rfl
def R_number_by_width : Rowd := ⟨F_number_by_width, ⟨("number_by_width", none), "number_by_width", "number_by_width", L2.defArgs (top 49), L2.defBody (top 49), L2.defScope (top 49), [], []⟩, ["width", "number"], ["width", "number"], [], false⟩
theorem B_number_by_width : BndOk R_number_by_width := fun _ _ _ _ _ _ us hl => match us, hl with | [_, _], _ => rfl
def R_row_added : Rowd := ⟨F_row_added, ⟨("row_added", none), "row_added", "row_added", L2.defArgs (top 44), L2.defBody (top 44), L2.defScope (top 44), [], []⟩, ["row", "other", "one", "two"], ["row", "other"], [], false⟩
theorem B_row_added : BndOk R_row_added := fun _ _ _ _ _ _ us hl => match us, hl with | [_, _], _ => rfl
def R_form_added : Rowd := ⟨F_form_added, ⟨("form_added", none), "form_added", "form_added", L2.defArgs (top 47), L2.defBody (top 47), L2.defScope (top 47), [], []⟩, ["form", "other"], ["form", "other"], [], false⟩
theorem B_form_added : BndOk R_form_added := fun _ _ _ _ _ _ us hl => match us, hl with | [_, _], _ => rfl
def R_row_multiplied : Rowd := ⟨F_row_multiplied, ⟨("row_multiplied", none), "row_multiplied", "row_multiplied", L2.defArgs (top 45), L2.defBody (top 45), L2.defScope (top 45), [], []⟩, ["number", "row", "one"], ["number", "row"], [], false⟩
theorem B_row_multiplied : BndOk R_row_multiplied := fun _ _ _ _ _ _ us hl => match us, hl with | [_, _], _ => rfl
def R_form_multiplied : Rowd := ⟨F_form_multiplied, ⟨("form_multiplied", none), "form_multiplied", "form_multiplied", L2.defArgs (top 48), L2.defBody (top 48), L2.defScope (top 48), [], []⟩, ["number", "form"], ["number", "form"], [], false⟩
theorem B_form_multiplied : BndOk R_form_multiplied := fun _ _ _ _ _ _ us hl => match us, hl with | [_, _], _ => rfl
def R_form_behind : Rowd := ⟨F_form_behind, ⟨("form_behind", none), "form_behind", "form_behind", L2.defArgs (top 50), L2.defBody (top 50), L2.defScope (top 50), [], []⟩, ["form", "wide", "forms", "found", "number", "one"], ["form", "wide", "forms"], [], false⟩
theorem B_form_behind : BndOk R_form_behind := fun _ _ _ _ _ _ us hl => match us, hl with | [_, _, _], _ => rfl
def R_fence_moved : Rowd := ⟨F_fence_moved, ⟨("fence_moved", none), "fence_moved", "fence_moved", L2.defArgs (top 79), L2.defBody (top 79), L2.defScope (top 79), [], []⟩, ["fence", "wide", "forms"], ["fence", "wide", "forms"], [], false⟩
theorem B_fence_moved : BndOk R_fence_moved := fun _ _ _ _ _ _ us hl => match us, hl with | [_, _, _], _ => rfl
def R_require_forms : Rowd := ⟨F_require_forms, ⟨("require_forms", none), "require_forms", "require_forms", L2.defArgs (top 52), L2.defBody (top 52), L2.defScope (top 52), [], []⟩, ["width", "forms", "many", "fine", "one"], ["width", "forms", "many"], [], false⟩
theorem B_require_forms : BndOk R_require_forms := fun _ _ _ _ _ _ us hl => match us, hl with | [_, _, _], _ => rfl
def R_fence_behind : Rowd := ⟨F_fence_behind, ⟨("fence_behind", none), "fence_behind", "fence_behind", L2.defArgs (top 81), L2.defBody (top 81), L2.defScope (top 81), [], []⟩, ["width", "fence", "wide", "forms"], ["width", "fence", "wide", "forms"], [], false⟩
theorem B_fence_behind : BndOk R_fence_behind := fun _ _ _ _ _ _ us hl => match us, hl with | [_, _, _, _], _ => rfl
def R_room_behind : Rowd := ⟨F_room_behind, ⟨("room_behind", none), "room_behind", "room_behind", L2.defArgs (top 82), L2.defBody (top 82), L2.defScope (top 82), [], []⟩, ["width", "room", "wide", "forms", "fence"], ["width", "room", "wide", "forms"], [], false⟩
theorem B_room_behind : BndOk R_room_behind := fun _ _ _ _ _ _ us hl => match us, hl with | [_, _, _, _], _ => rfl
def R_require_wider : Rowd := ⟨F_require_wider, ⟨("require_wider", none), "require_wider", "require_wider", L2.defArgs (top 53), L2.defBody (top 53), L2.defScope (top 53), [], []⟩, ["width", "wide"], ["width", "wide"], [], false⟩
theorem B_require_wider : BndOk R_require_wider := fun _ _ _ _ _ _ us hl => match us, hl with | [_, _], _ => rfl
def R_fence_widened : Rowd := ⟨F_fence_widened, ⟨("fence_widened", none), "fence_widened", "fence_widened", L2.defArgs (top 80), L2.defBody (top 80), L2.defScope (top 80), [], []⟩, ["fence", "wide"], ["fence", "wide"], [], false⟩
theorem B_fence_widened : BndOk R_fence_widened := fun _ _ _ _ _ _ us hl => match us, hl with | [_, _], _ => rfl
def R_widened_room : Rowd := ⟨F_widened_room, ⟨("widened_room", none), "widened_room", "widened_room", L2.defArgs (top 83), L2.defBody (top 83), L2.defScope (top 83), [], []⟩, ["width", "room", "wide", "fence"], ["width", "room", "wide"], [], false⟩
theorem B_widened_room : BndOk R_widened_room := fun _ _ _ _ _ _ us hl => match us, hl with | [_, _, _], _ => rfl
def R_unit_by : Rowd := ⟨F_unit_by, ⟨("unit_by", none), "unit_by", "unit_by", L2.defArgs (top 43), L2.defBody (top 43), L2.defScope (top 43), [], []⟩, ["width", "index", "at"], ["width", "index"], [], false⟩
theorem B_unit_by : BndOk R_unit_by := fun _ _ _ _ _ _ us hl => match us, hl with | [_, _], _ => rfl
def R_box_by : Rowd := ⟨F_box_by, ⟨("box_by", none), "box_by", "box_by", L2.defArgs (top 84), L2.defBody (top 84), L2.defScope (top 84), [], []⟩, ["row", "other", "found", "index", "unit", "low", "high"], ["row", "other"], [], false⟩
theorem B_box_by : BndOk R_box_by := fun _ _ _ _ _ _ us hl => match us, hl with | [_, _], _ => rfl
def R_point_room : Rowd := ⟨F_point_room, ⟨("point_room", none), "point_room", "point_room", L2.defArgs (top 85), L2.defBody (top 85), L2.defScope (top 85), [], []⟩, ["width", "row"], ["width", "row"], [], false⟩
theorem B_point_room : BndOk R_point_room := fun _ _ _ _ _ _ us hl => match us, hl with | [_, _], _ => rfl
def R_require_two : Rowd := ⟨F_require_two, ⟨("require_two", none), "require_two", "require_two", L2.defArgs (top 51), L2.defBody (top 51), L2.defScope (top 51), [], []⟩, ["width", "row", "other"], ["width", "row", "other"], [], false⟩
theorem B_require_two : BndOk R_require_two := fun _ _ _ _ _ _ us hl => match us, hl with | [_, _, _], _ => rfl
def R_is_less_by : Rowd := ⟨F_is_less_by, ⟨("is_less_by", none), "is_less_by", "is_less_by", L2.defArgs (top 30), L2.defBody (top 30), L2.defScope (top 30), [], []⟩, ["one", "other"], ["one", "other"], [], false⟩
theorem B_is_less_by : BndOk R_is_less_by := fun _ _ _ _ _ _ us hl => match us, hl with | [_, _], _ => rfl
def R_box_room : Rowd := ⟨F_box_room, ⟨("box_room", none), "box_room", "box_room", L2.defArgs (top 86), L2.defBody (top 86), L2.defScope (top 86), [], []⟩, ["width", "row", "other", "low", "high"], ["width", "row", "other"], [], false⟩
theorem B_box_room : BndOk R_box_room := fun _ _ _ _ _ _ us hl => match us, hl with | [_, _, _], _ => rfl
def R_added_by : Rowd := ⟨F_added_by, ⟨("added_by", none), "added_by", "added_by", L2.defArgs (top 89), L2.defBody (top 89), L2.defScope (top 89), [], []⟩, ["width", "room", "weights", "row", "number", "fence", "weight"], ["width", "room", "weights"], [], false⟩
theorem B_added_by : BndOk R_added_by := fun _ _ _ _ _ _ us hl => match us, hl with | [_, _, _], _ => rfl
def R_are_weights : Rowd := ⟨F_are_weights, ⟨("are_weights", none), "are_weights", "are_weights", L2.defArgs (top 87), L2.defBody (top 87), L2.defScope (top 87), [], []⟩, ["many", "value", "one"], ["many", "value"], [], false⟩
theorem B_are_weights : BndOk R_are_weights := fun _ _ _ _ _ _ us hl => match us, hl with | [_, _], _ => rfl
def R_require_weights : Rowd := ⟨F_require_weights, ⟨("require_weights", none), "require_weights", "require_weights", L2.defArgs (top 88), L2.defBody (top 88), L2.defScope (top 88), [], []⟩, ["many", "weights"], ["many", "weights"], [], false⟩
theorem B_require_weights : BndOk R_require_weights := fun _ _ _ _ _ _ us hl => match us, hl with | [_, _], _ => rfl
def R_added_fences : Rowd := ⟨F_added_fences, ⟨("added_fences", none), "added", "added", L2.defArgs (top 90), L2.defBody (top 90), L2.defScope (top 90), [], []⟩, ["width", "room", "weights"], ["width", "room", "weights"], [], false⟩
theorem B_added_fences : BndOk R_added_fences := fun _ _ _ _ _ _ us hl => match us, hl with | [_, _, _], _ => rfl
def R_law_others_right : Rowd := ⟨F_law_others_right, ⟨("_law_others_right", none), "_law_others_right", "_law_others_right", L2.defArgs (top 99), L2.defBody (top 99), L2.defScope (top 99), [], []⟩, ["dice", "row", "form", "fence", "room", "width", "odd", "bad", "wrong", "weights", "calls", "due", "call"], ["dice", "row", "form", "fence", "room", "width", "odd", "bad", "wrong"], [10], true⟩
theorem B_law_others_right : BndOk R_law_others_right := fun _ _ _ _ _ _ us hl => match us, hl with | [_, _, _, _, _, _, _, _, _], _ => rfl
def R_law_right : Rowd := ⟨F_law_right, ⟨("_law_right", none), "_law_right", "_law_right", L2.defArgs (top 98), L2.defBody (top 98), L2.defScope (top 98), [], []⟩, ["dice", "width", "odd", "bad", "wrong", "told", "call", "row", "form", "fence", "room"], ["dice"], [], true⟩
theorem B_law_right : BndOk R_law_right := fun _ _ _ _ _ _ us hl => match us, hl with | [_], _ => rfl
def R_law : Rowd := ⟨F_law, ⟨("law", none), "law", "law", L2.defArgs (top 100), L2.defBody (top 100), L2.defScope (top 100), [], []⟩, ["script", "spot", "dice", "turn"], ["script"], [], false⟩
theorem B_law : BndOk R_law := fun _ _ _ _ _ _ us hl => match us, hl with | [_], _ => rfl
def rows : List Rowd := [R_law_dice, R_law_roll, R_law_pick, R_is_integer, R_is_count, R_require_width, R_common_by, R_is_fraction, R_are_fractions, R_is_row_by, R_is_form_by, R_is_fence_by, R_require_fence, R_require_row, R_require_fenced, R_sign_by, R_made, R_added_fractions, R_opposite, R_less, R_sum_by, R_multiplied, R_product_by, R_slack_by, R_holds_by, R_holds, R_slack, R_is_room_by, R_require_room, R_require_roomed, R_keeps_by, R_keeps, R_broken, R_turned_by, R_turned, R_fence_of_form, R_fence_form, R_great_step, R_digits_text, R_number_text, R_text_by, R_row_text_by, R_fence_text, R_is_fence, R_is_room, R_few, R_met, R_require_form, R_form_fence, R_noughts, R_number_by_width, R_row_added, R_form_added, R_row_multiplied, R_form_multiplied, R_form_behind, R_fence_moved, R_require_forms, R_fence_behind, R_room_behind, R_require_wider, R_fence_widened, R_widened_room, R_unit_by, R_box_by, R_point_room, R_require_two, R_is_less_by, R_box_room, R_added_by, R_are_weights, R_require_weights, R_added_fences, R_law_others_right, R_law_right, R_law]
def cons : List Str := ["MAX_WIDTH", "NOUGHT", "MAX_FENCES", "DIGITS", "NONE", "ONE"]
def I_TooMany : ExI := ⟨"limit", .over, "self", "limit", ⟨("TooMany", some "__init__"), "__init__", "TooMany.__init__", L2.defArgs (clsDef (top 9) 0), L2.defBody (clsDef (top 9) 0), L2.defScope (clsDef (top 9) 0), [], []⟩⟩
theorem BI_TooMany : BndI I_TooMany := fun _ _ _ _ _ _ _ _ _ _ => rfl
def exs : List ExA := [⟨"InvalidWidth", .value, none⟩, ⟨"InvalidFence", .value, none⟩, ⟨"InvalidRow", .value, none⟩, ⟨"InvalidRoom", .value, none⟩, ⟨"TooMany", .over, some I_TooMany⟩, ⟨"InvalidForm", .value, none⟩, ⟨"InvalidOperation", .value, none⟩, ⟨"InvalidPaper", .value, none⟩]
def wdA : WdA := ⟨"_law_word", "call", "error", fine, [.plain "InvalidWidth" "width", .plain "InvalidFence" "fence", .plain "InvalidRoom" "room", .plain "InvalidRow" "row", .plain "InvalidForm" "form", .plain "InvalidOperation" "operation", .plain "InvalidPaper" "paper", .kept "TooMany" "limit" "many " .rep], hds⟩
def wdD : He.DefD := ⟨("_law_word", none), "_law_word", "_law_word", L2.defArgs (top 97), L2.defBody (top 97), L2.defScope (top 97), [], []⟩
theorem B_word : BndW wdA wdD := fun _ _ _ _ _ _ us hl => match us, hl with | [_], _ => rfl
def lawp : LawP := ⟨rows, cons, gcons, exs, some (wdA, wdD)⟩
theorem rows_fns : lawp.rows.map (·.f) = fns := rfl
theorem rows_bnd : ∀ r ∈ lawp.rows, BndOk r := by
  intro r h
  simp only [lawp, rows, List.mem_cons, List.not_mem_nil, or_false] at h
  rcases h with rfl | rfl | rfl | rfl | rfl | rfl | rfl | rfl | rfl | rfl | rfl | rfl | rfl | rfl | rfl | rfl | rfl | rfl | rfl | rfl | rfl | rfl | rfl | rfl | rfl | rfl | rfl | rfl | rfl | rfl | rfl | rfl | rfl | rfl | rfl | rfl | rfl | rfl | rfl | rfl | rfl | rfl | rfl | rfl | rfl | rfl | rfl | rfl | rfl | rfl | rfl | rfl | rfl | rfl | rfl | rfl | rfl | rfl | rfl | rfl | rfl | rfl | rfl | rfl | rfl | rfl | rfl | rfl | rfl | rfl | rfl | rfl | rfl | rfl | rfl | rfl
  · exact B_law_dice
  · exact B_law_roll
  · exact B_law_pick
  · exact B_is_integer
  · exact B_is_count
  · exact B_require_width
  · exact B_common_by
  · exact B_is_fraction
  · exact B_are_fractions
  · exact B_is_row_by
  · exact B_is_form_by
  · exact B_is_fence_by
  · exact B_require_fence
  · exact B_require_row
  · exact B_require_fenced
  · exact B_sign_by
  · exact B_made
  · exact B_added_fractions
  · exact B_opposite
  · exact B_less
  · exact B_sum_by
  · exact B_multiplied
  · exact B_product_by
  · exact B_slack_by
  · exact B_holds_by
  · exact B_holds
  · exact B_slack
  · exact B_is_room_by
  · exact B_require_room
  · exact B_require_roomed
  · exact B_keeps_by
  · exact B_keeps
  · exact B_broken
  · exact B_turned_by
  · exact B_turned
  · exact B_fence_of_form
  · exact B_fence_form
  · exact B_great_step
  · exact B_digits_text
  · exact B_number_text
  · exact B_text_by
  · exact B_row_text_by
  · exact B_fence_text
  · exact B_is_fence
  · exact B_is_room
  · exact B_few
  · exact B_met
  · exact B_require_form
  · exact B_form_fence
  · exact B_noughts
  · exact B_number_by_width
  · exact B_row_added
  · exact B_form_added
  · exact B_row_multiplied
  · exact B_form_multiplied
  · exact B_form_behind
  · exact B_fence_moved
  · exact B_require_forms
  · exact B_fence_behind
  · exact B_room_behind
  · exact B_require_wider
  · exact B_fence_widened
  · exact B_widened_room
  · exact B_unit_by
  · exact B_box_by
  · exact B_point_room
  · exact B_require_two
  · exact B_is_less_by
  · exact B_box_room
  · exact B_added_by
  · exact B_are_weights
  · exact B_require_weights
  · exact B_added_fences
  · exact B_law_others_right
  · exact B_law_right
  · exact B_law
theorem ini_eq : lawp.inits = [I_TooMany] := rfl
theorem ini_bnd : ∀ r ∈ lawp.inits, BndI r := by
  intro r h
  rw [ini_eq] at h
  simp only [List.mem_cons, List.not_mem_nil, or_false] at h
  rcases h with rfl
  · exact BI_TooMany
theorem text_ok : TextOk lawp PySem.Challenge.rw_meanclouds_k26_errors_of_rooms.prog := ⟨by decide +kernel, rows_bnd, by decide +kernel, fun p e => by cases e; exact ⟨by decide +kernel, B_word⟩, by decide +kernel, ini_bnd, by decide +kernel⟩
end LW
/- index: 0 _law_dice 1 _law_roll 2 _law_pick 3 is_integer 4 is_count 5 require_width 6 common_by 7 is_fraction 8 are_fractions 9 is_row_by 10 is_form_by 11 is_fence_by 12 require_fence 13 require_row 14 require_fenced 15 sign_by 16 made 17 added_fractions 18 opposite 19 less 20 sum_by 21 multiplied 22 product_by 23 slack_by 24 holds_by 25 holds 26 slack 27 is_room_by 28 require_room 29 require_roomed 30 keeps_by 31 keeps 32 broken 33 turned_by 34 turned 35 fence_of_form 36 fence_form 37 great_step 38 digits_text 39 number_text 40 text_by 41 row_text_by 42 fence_text 43 is_fence 44 is_room 45 few 46 met 47 require_form 48 form_fence 49 noughts 50 number_by_width 51 row_added 52 form_added 53 row_multiplied 54 form_multiplied 55 form_behind 56 fence_moved 57 require_forms 58 fence_behind 59 room_behind 60 require_wider 61 fence_widened 62 widened_room 63 unit_by 64 box_by 65 point_room 66 require_two 67 is_less_by 68 box_room 69 added_by 70 are_weights 71 require_weights 72 added_fences 73 _law_others_right 74 _law_right 75 law; law at top 100 -/
namespace LW
open PySem PySem.Spec PyProof.Rows L2 DL
def loose0 : List Str := ["__name__", "RunError", "InvalidWidth", "InvalidRow", "InvalidFence", "InvalidRoom", "InvalidForm", "InvalidPaper", "InvalidOperation", "TooMany", "is_integer", "is_count", "DIGITS", "great_step", "digits_text", "number_text", "NOUGHT", "ONE", "common_by", "is_fraction"]
def loose1 : List Str := ["are_fractions", "made", "added", "added_fractions", "opposite", "less", "multiplied", "is_less_by", "sign_by", "sum_by", "text_by", "MAX_WIDTH", "NONE", "require_width", "is_row_by", "is_form_by", "require_row", "require_form", "noughts", "unit_by"]
def loose2 : List Str := ["row_added", "row_multiplied", "product_by", "form_added", "form_multiplied", "number_by_width", "form_behind", "require_two", "require_forms", "require_wider", "row_text_by", "MAX_FENCES", "is_fence_by", "is_room_by", "require_fence", "require_room", "require_roomed", "is_fence", "is_room", "slack_by"]
def loose3 : List Str := ["holds_by", "keeps_by", "require_fenced", "holds", "keeps", "slack", "broken", "turned_by", "turned", "few", "met", "fence_of_form", "form_fence", "fence_form", "fence_moved", "fence_widened", "fence_behind", "room_behind", "widened_room", "box_by"]
def loose4 : List Str := ["point_room", "box_room", "are_weights", "require_weights", "added_by", "added_fences", "fence_text", "_law_dice", "_law_roll", "_law_pick", "_law_word", "_law_right", "_law_others_right"]
def loose : List Str := loose0 ++ loose1 ++ loose2 ++ loose3 ++ loose4
end LW
open PySem PySem.W PySem.Calls PyProof.Rows
namespace LW
abbrev RW : OpenRow := OpenLaw.row PySem.Challenge.rw_meanclouds_k26_errors_of_rooms
abbrev qv : Program := view RW.prog [100]
abbrev hk : Hook := DL.hookL lawp PySem.Challenge.rw_meanclouds_k26_errors_of_rooms.prog
def ob (s : SharedT) : DL.AlL := DL.obsL lawp PySem.Challenge.rw_meanclouds_k26_errors_of_rooms.prog (HandSHeadRun.getT s)
theorem ob_eq (s : SharedT) : ob s = hk.obs s.abs := DL.obsL_eq (HandSHeadRun.getT_eq s)
theorem run (w : World) : HandSHeadRun.RunEq RW qv hk ob 8000 loose w := by
  intro os
  kernel_rfl
end LW
end
section
set_option Elab.async false
set_option autoImplicit false
set_option linter.all false
set_option maxRecDepth 100000
set_option maxHeartbeats 2000000
/-! Q0: fractions as data. -/
namespace DL
/-! ### the loop of the greatest common divisor -/
abbrev gT : T := .cmp .gt (.slot 1) (.con (.int 0))
abbrev gB : List St := [.asg (.tp [.nm 0, .nm 1]) (.tup [.slot 1, .bin .mod (.slot 0) (.slot 1)])]
section
variable {cl : Cl} {gc : List D} {S : Store}
theorem g_test (a b : Nat) : evT cl gc gT [some (.int a), some (.int b)] S = .ok (decide (0 < b)) S := by
  simp [cmp2, cpInt]
theorem g_body (a b : Nat) (h : 0 < b) : evB cl gc gB [some (.int a), some (.int b)] S = .nx [some (.int b), some (.int (a % b : Nat))] S := by
  have hb : (b : Int) ≠ 0 := by omega
  have e : (a : Int).fmod (b : Int) = ((a % b : Nat) : Int) := by
    rw [Int.fmod_eq_emod_of_nonneg _ (by omega)]; simp
  have hb' : b ≠ 0 := by omega
  simp [op2, opMod, hb', e, fits, bigN]
theorem gcd_loop : ∀ (m fuel a b : Nat), b < 2 ^ m → 2 * m + 1 ≤ fuel → whGo (evT cl gc gT) (evB cl gc gB) fuel [some (.int a), some (.int b)] S = .nx [some (.int (Nat.gcd a b : Nat)), some (.int (0 : Nat))] S
  | 0, fuel, a, b, hb, hf => by
    have e : b = 0 := by simpa using hb
    subst e
    obtain ⟨f, rfl⟩ : ∃ f, fuel = f + 1 := ⟨fuel - 1, by omega⟩
    rw [whGo, g_test]; simp
  | m + 1, fuel, a, b, hb, hf => by
    obtain ⟨f, rfl⟩ : ∃ f, fuel = f + 1 := ⟨fuel - 1, by omega⟩
    by_cases h0 : b = 0
    · subst h0
      rw [whGo, g_test]; simp
    have hb0 : 0 < b := Nat.pos_of_ne_zero h0
    rw [whGo, g_test]
    simp only [x_stm, decide_eq_true hb0, g_body a b hb0]
    obtain ⟨f, rfl⟩ : ∃ g, f = g + 1 := ⟨f - 1, by omega⟩
    have e1 : Nat.gcd a b = Nat.gcd b (a % b) := by rw [Nat.gcd_comm a b, Nat.gcd_rec b a, Nat.gcd_comm]
    by_cases hc : a % b = 0
    · rw [whGo, g_test, hc]
      simp only [x_stm, Nat.lt_irrefl, decide_false]
      rw [e1, hc, Nat.gcd_zero_right]
    have hc0 : 0 < a % b := Nat.pos_of_ne_zero hc
    have hlt : a % b < b := Nat.mod_lt _ hb0
    rw [whGo, g_test]
    simp only [x_stm, decide_eq_true hc0, g_body b (a % b) hc0]
    rw [gcd_loop m f (a % b) (b % (a % b)) ?_ (by omega)]
    · rw [e1, Nat.gcd_comm b, Nat.gcd_rec (a % b) b, Nat.gcd_comm]
    · have h1 : b % (a % b) < a % b := Nat.mod_lt _ hc0
      have h2 : b % (a % b) + (a % b) ≤ b := by
        have := Nat.div_add_mod b (a % b)
        have h3 : 1 ≤ b / (a % b) := Nat.div_pos (Nat.le_of_lt hlt) hc0
        have h4 : (a % b) * 1 ≤ (a % b) * (b / (a % b)) := Nat.mul_le_mul_left _ h3
        omega
      have h5 : 2 ^ (m + 1) = 2 * 2 ^ m := by rw [Nat.pow_succ]; omega
      omega
end
/-! ### fractions -/
def fr (q : Rat) : D := .tup [.int q.num, .int q.den]
/-- not too great -/
def Sm (n : Nat) (q : Rat) : Prop := q.num.natAbs < 2 ^ n ∧ q.den < 2 ^ n
theorem Sm.mono {m n : Nat} {q : Rat} (h : Sm m q) (k : m ≤ n) : Sm n q :=
  ⟨Nat.lt_of_lt_of_le h.1 (Nat.pow_le_pow_right (by decide) k), Nat.lt_of_lt_of_le h.2 (Nat.pow_le_pow_right (by decide) k)⟩
theorem fr_inj {p q : Rat} (h : fr p = fr q) : p = q := by
  unfold fr at h
  injection h with h
  injection h with h1 h2
  injection h1 with h1
  injection h2 with h2 _
  injection h2 with h2
  exact Rat.ext h1 (by omega)
theorem eqv_fr (p q : Rat) : eqv (fr p) (fr q) = decide (p = q) := by
  simp only [fr, eqv, eqvs, Bool.and_true]
  by_cases h : p = q
  · subst h; simp
  · rw [decide_eq_false h]
    by_cases h1 : p.num = q.num
    · have h2 : (p.den : Int) ≠ q.den := fun e => h (Rat.ext h1 (by omega))
      simp [h1, h2]
    · simp [h1]
theorem plain_fr (n : Nat) (q : Rat) : plain (n + 1) (fr q) = true := by
  simp [fr, plain, plains]
/-- a quotient in lowest terms -/
theorem mk_num (a : Int) (b : Nat) (hb : b ≠ 0) : (mkRat a b).num = a.fdiv (Nat.gcd a.natAbs b : Nat) ∧ (((mkRat a b).den : Nat) : Int) = (b : Int).fdiv (Nat.gcd a.natAbs b : Nat) := by
  rw [Rat.mkRat_def, dif_neg hb, Rat.normalize_eq]
  refine ⟨?_, ?_⟩
  · rw [Int.fdiv_eq_ediv_of_nonneg _ (by omega)]
  · rw [Int.fdiv_eq_ediv_of_nonneg _ (by omega)]; simp
theorem mk_small {a : Int} {b n : Nat} (ha : a.natAbs < 2 ^ n) (hb : b < 2 ^ n) (h0 : b ≠ 0) : Sm n (mkRat a b) := by
  rw [Rat.mkRat_def, dif_neg h0, Rat.normalize_eq]
  refine ⟨?_, Nat.lt_of_le_of_lt (Nat.div_le_self _ _) hb⟩
  show (a / _).natAbs < _
  rw [Int.natAbs_ediv_of_dvd (Int.ofNat_dvd_left.mpr (Nat.gcd_dvd_left _ _))]
  exact Nat.lt_of_le_of_lt (Nat.div_le_self _ _) ha
theorem add_small {p q : Rat} {m n : Nat} (hp : Sm m p) (hq : Sm n q) : (p.num * q.den + q.num * p.den).natAbs < 2 ^ (m + n + 1) ∧ p.den * q.den < 2 ^ (m + n + 1) := by
  have e : 2 ^ (m + n + 1) = 2 ^ m * 2 ^ n + 2 ^ m * 2 ^ n := by rw [Nat.pow_succ, Nat.pow_add]; omega
  have h1 : p.num.natAbs * q.den < 2 ^ m * 2 ^ n := Nat.mul_lt_mul'' hp.1 hq.2
  have h2 : q.num.natAbs * p.den < 2 ^ n * 2 ^ m := Nat.mul_lt_mul'' hq.1 hp.2
  have h3 : p.den * q.den < 2 ^ m * 2 ^ n := Nat.mul_lt_mul'' hp.2 hq.2
  have h4 := Int.natAbs_add_le (p.num * q.den) (q.num * p.den)
  rw [Int.natAbs_mul, Int.natAbs_mul, Int.natAbs_natCast, Int.natAbs_natCast] at h4
  rw [Nat.mul_comm (2 ^ n)] at h2
  rw [e]
  omega
theorem mul_small {p q : Rat} {m n : Nat} (hp : Sm m p) (hq : Sm n q) : (p.num * q.num).natAbs < 2 ^ (m + n) ∧ p.den * q.den < 2 ^ (m + n) := by
  rw [Nat.pow_add, Int.natAbs_mul]
  exact ⟨Nat.mul_lt_mul'' hp.1 hq.1, Nat.mul_lt_mul'' hp.2 hq.2⟩
theorem Sm.add {p q : Rat} {m n : Nat} (hp : Sm m p) (hq : Sm n q) : Sm (m + n + 1) (p + q) := by
  rw [Rat.add_def']
  exact mk_small (add_small hp hq).1 (add_small hp hq).2 (Nat.mul_ne_zero p.den_nz q.den_nz)
theorem Sm.mul {p q : Rat} {m n : Nat} (hp : Sm m p) (hq : Sm n q) : Sm (m + n) (p * q) := by
  rw [Rat.mul_def']
  exact mk_small (mul_small hp hq).1 (mul_small hp hq).2 (Nat.mul_ne_zero p.den_nz q.den_nz)
theorem Sm.neg {p : Rat} {m : Nat} (hp : Sm m p) : Sm m (-p) := by
  refine ⟨?_, hp.2⟩
  rw [Rat.neg_num, Int.natAbs_neg]; exact hp.1
theorem log_of {n k : Nat} (h : n < 2 ^ k) (hk : 0 < k) : n.log2 < k := by
  by_cases h0 : n = 0
  · subst h0; simpa using hk
  · exact (Nat.log2_lt h0).mpr h
end DL
end
section
set_option Elab.async false
set_option autoImplicit false
set_option linter.all false
set_option maxRecDepth 100000
set_option maxHeartbeats 2000000
/-! P1: operators on known shapes. -/
namespace DL
section
variable {S : Store} {i j : Int} {p q : Rat}
@[simp] theorem c_eqI : cmp2 .eq (.int i) (.int j) S = .ok (decide (i = j)) S := by
  have : cmp2 .eq (.int i) (.int j) S = .ok (i == j) S := by
    show cpEq (.int i) (.int j) S = _
    simp [cpEq, deref, plain, eqv]
  rw [this]
  by_cases h : i = j <;> simp [h]
@[simp] theorem c_neI : cmp2 .ne (.int i) (.int j) S = .ok (!decide (i = j)) S := by
  have : cmp2 .ne (.int i) (.int j) S = (cmp2 .eq (.int i) (.int j) S).bind fun b S => .ok (!b) S := rfl
  rw [this, c_eqI]; rfl
@[simp] theorem c_ltI : cmp2 .lt (.int i) (.int j) S = .ok (decide (i < j)) S := Eq.trans rfl rfl
@[simp] theorem c_leI : cmp2 .le (.int i) (.int j) S = .ok (decide (i ≤ j)) S := Eq.trans rfl rfl
@[simp] theorem c_gtI : cmp2 .gt (.int i) (.int j) S = .ok (decide (j < i)) S := Eq.trans rfl rfl
@[simp] theorem c_geI : cmp2 .ge (.int i) (.int j) S = .ok (decide (j ≤ i)) S := Eq.trans rfl rfl
theorem c_eq {x y : D} (hx : deref S x = x) (hy : deref S y = y) (px : plain 60 x = true) (py : plain 60 y = true) : cmp2 .eq x y S = .ok (eqv x y) S := by
  show cpEq _ _ _ = _
  simp [cpEq, hx, hy, px, py]
theorem c_ne {x y : D} (hx : deref S x = x) (hy : deref S y = y) (px : plain 60 x = true) (py : plain 60 y = true) : cmp2 .ne x y S = .ok (!eqv x y) S := by
  have : cmp2 .ne x y S = (cmp2 .eq x y S).bind fun b S => .ok (!b) S := rfl
  rw [this, c_eq hx hy px py]; rfl
@[simp] theorem c_eqF : cmp2 .eq (fr p) (fr q) S = .ok (decide (p = q)) S := by
  rw [c_eq rfl rfl (plain_fr 59 p) (plain_fr 59 q), eqv_fr]
@[simp] theorem c_neF : cmp2 .ne (fr p) (fr q) S = .ok (!decide (p = q)) S := by
  rw [c_ne rfl rfl (plain_fr 59 p) (plain_fr 59 q), eqv_fr]
@[simp] theorem o_addI : op2 .add (.int i) (.int j) S = .ok (.int (i + j)) S := Eq.trans rfl rfl
@[simp] theorem o_subI : op2 .sub (.int i) (.int j) S = .ok (.int (i - j)) S := Eq.trans rfl rfl
@[simp] theorem t_bl {b : Bool} : truth (.bl b) S = .ok b S := Eq.trans rfl rfl
@[simp] theorem t_int : truth (.int i) S = .ok (decide (i ≠ 0)) S := by
  show Out.ok (i != 0) S = _
  congr 1
  by_cases h : i = 0 <;> simp [h]
@[simp] theorem i_fr0 : item (fr p) (.int 0) S = .ok (.int p.num) S := Eq.trans rfl rfl
@[simp] theorem i_fr1 : item (fr p) (.int 1) S = .ok (.int p.den) S := Eq.trans rfl rfl
@[simp] theorem b_isi (ts : List Ty) (d : D) : bi (.isi ts) [d] S = isD ts d S := Eq.trans rfl rfl
@[simp] theorem b_len (d : D) : bi .len [d] S = lenD d S := Eq.trans rfl rfl
@[simp] theorem b_abs (d : D) : bi .abs [d] S = absD d S := Eq.trans rfl rfl
@[simp] theorem b_all (d : D) : bi .all [d] S = allD d S := Eq.trans rfl rfl
@[simp] theorem b_any (d : D) : bi .any [d] S = anyD d S := Eq.trans rfl rfl
@[simp] theorem b_int (d : D) : bi .int [d] S = intD d S := Eq.trans rfl rfl
@[simp] theorem b_str (d : D) : bi .str [d] S = strD d S := Eq.trans rfl rfl
@[simp] theorem b_list (d : D) : bi .list [d] S = listD d S := Eq.trans rfl rfl
@[simp] theorem b_tuple (d : D) : bi .tuple [d] S = tupleD d S := Eq.trans rfl rfl
@[simp] theorem b_max (d e : D) : bi .max [d, e] S = maxD d e S := Eq.trans rfl rfl
@[simp] theorem b_min (d e : D) : bi .min [d, e] S = minD d e S := Eq.trans rfl rfl
@[simp] theorem b_divmod (d e : D) : bi .divmod [d, e] S = divmodD d e S := Eq.trans rfl rfl
@[simp] theorem l_tup (xs : List D) : lenD (.tup xs) S = .ok (.int xs.length) S := Eq.trans rfl rfl
@[simp] theorem l_lst (xs : List D) : lenD (.lst xs) S = .ok (.int xs.length) S := Eq.trans rfl rfl
@[simp] theorem l_fr : lenD (fr p) S = .ok (.int 2) S := Eq.trans rfl rfl
@[simp] theorem is_tup (ts : List Ty) (xs : List D) : isD ts (.tup xs) S = .ok (.bl (ts.any fun t => tyIs (.tup xs) t)) S := Eq.trans rfl rfl
@[simp] theorem is_int (ts : List Ty) : isD ts (.int i) S = .ok (.bl (ts.any fun t => tyIs (.int i) t)) S := Eq.trans rfl rfl
@[simp] theorem is_bl (ts : List Ty) (b : Bool) : isD ts (.bl b) S = .ok (.bl (ts.any fun t => tyIs (.bl b) t)) S := Eq.trans rfl rfl
@[simp] theorem is_non (ts : List Ty) : isD ts .non S = .ok (.bl (ts.any fun t => tyIs .non t)) S := Eq.trans rfl rfl
@[simp] theorem is_str (ts : List Ty) (x : List Nat) : isD ts (.str x) S = .ok (.bl (ts.any fun t => tyIs (.str x) t)) S := Eq.trans rfl rfl
@[simp] theorem is_lst (ts : List Ty) (xs : List D) : isD ts (.lst xs) S = .ok (.bl (ts.any fun t => tyIs (.lst xs) t)) S := Eq.trans rfl rfl
@[simp] theorem is_dic (ts : List Ty) : isD ts .dic S = .ok (.bl (ts.any fun t => tyIs .dic t)) S := Eq.trans rfl rfl
@[simp] theorem is_fr (ts : List Ty) : isD ts (fr p) S = .ok (.bl (ts.any fun t => tyIs (.tup []) t)) S := by
  have : tyIs (fr p) = tyIs (.tup []) := by funext t; cases t <;> rfl
  show Out.ok (D.bl (ts.any fun t => tyIs (fr p) t)) S = _
  rw [this]
@[simp] theorem w_tup (xs : List D) : walk (.tup xs) S = some xs := Eq.trans rfl rfl
@[simp] theorem w_lst (xs : List D) : walk (.lst xs) S = some xs := Eq.trans rfl rfl
@[simp] theorem w_str (x : List Nat) : walk (.str x) S = some (charsD x) := Eq.trans rfl rfl
@[simp] theorem w_fr : walk (fr p) S = some [.int p.num, .int p.den] := Eq.trans rfl rfl
@[simp] theorem oi_some (xs : List D) : oItems (some xs) S = .ok xs S := Eq.trans rfl rfl
@[simp] theorem all_lst (xs : List D) (bs : List Bool) (h : boolsOf xs = some bs) : allD (.lst xs) S = .ok (.bl (bs.all id)) S := by
  show (match (lOf (.lst xs) S).bind boolsOf with | some bs => Out.ok (D.bl (bs.all id)) S | none => .bad) = _
  simp [lOf, h]
@[simp] theorem tup_of_lst (xs : List D) : tupleD (.lst xs) S = .ok (.tup xs) S := Eq.trans rfl rfl
@[simp] theorem tup_of_tup (xs : List D) : tupleD (.tup xs) S = .ok (.tup xs) S := Eq.trans rfl rfl
@[simp] theorem lst_of_tup (xs : List D) : listD (.tup xs) S = .ok (.lst xs) S := Eq.trans rfl rfl
theorem fits_le {n : Nat} (h : n ≤ 16777216) : fits n = true := Nat.ble_eq_true_of_le h
/-! a comprehension whose items are made one by one -/
theorem comp_map {tg : Tg} {elt : Env → Store → Out D} {σ : Env} (f : D → D) (ok : ∀ d, Env) : ∀ (ds : List D) (acc : List D) (S : Store), (∀ d ∈ ds, asg tg d σ = some (ok d) ∧ elt (ok d) S = .ok (f d) S) → acc.length + ds.length ≤ bigN →
    compGo tg (fun _ S => .ok true S) elt σ ds acc S = .ok (.lst (acc.reverse ++ ds.map f)) S
  | [], acc, S, h, hl => by simp [compGo]
  | d :: ds, acc, S, h, hl => by
    obtain ⟨h1, h2⟩ := h d List.mem_cons_self
    rw [compGo, h1]
    simp only [h2]
    rw [if_pos (Nat.ble_eq_true_of_le (by simp at hl; omega)), comp_map f ok ds (f d :: acc) S (fun e he => h e (List.mem_cons_of_mem _ he)) (by simp at hl ⊢; omega)]
    simp
end
end DL
end
section
set_option Elab.async false
set_option autoImplicit false
set_option linter.all false
set_option maxRecDepth 100000
set_option maxHeartbeats 2000000
/-! P2: rows, forms, comprehensions. -/
namespace DL
/-! ### comprehensions -/
theorem comp_of {α : Type} {tg : Tg} {test : Env → Store → Out Bool} {elt : Env → Store → Out D} {σ : Env} (enc h : α → D) (ok : α → Env) (ht : ∀ σ S, test σ S = .ok true S) (S : Store) : ∀ (xs : List α) (acc : List D),
    (∀ x ∈ xs, asg tg (enc x) σ = some (ok x) ∧ elt (ok x) S = .ok (h x) S) → acc.length + xs.length ≤ bigN →
    compGo tg test elt σ (xs.map enc) acc S = .ok (.lst (acc.reverse ++ xs.map h)) S
  | [], acc, hx, hl => by simp [compGo]
  | x :: xs, acc, hx, hl => by
    obtain ⟨h1, h2⟩ := hx x List.mem_cons_self
    rw [List.map_cons, compGo, h1]
    simp only [ht, h2]
    rw [if_pos (Nat.ble_eq_true_of_le (by simp at hl; omega)), comp_of enc h ok ht S xs (h x :: acc) (fun e he => hx e (List.mem_cons_of_mem _ he)) (by simp at hl ⊢; omega)]
    simp
theorem comp_if {α : Type} {tg : Tg} {test : Env → Store → Out Bool} {elt : Env → Store → Out D} {σ : Env} (enc h : α → D) (ok : α → Env) (b : α → Bool) (S : Store) : ∀ (xs : List α) (acc : List D),
    (∀ x ∈ xs, asg tg (enc x) σ = some (ok x) ∧ test (ok x) S = .ok (b x) S ∧ elt (ok x) S = .ok (h x) S) → acc.length + xs.length ≤ bigN →
    compGo tg test elt σ (xs.map enc) acc S = .ok (.lst (acc.reverse ++ (xs.filter b).map h)) S
  | [], acc, hx, hl => by simp [compGo]
  | x :: xs, acc, hx, hl => by
    obtain ⟨h1, h2, h3⟩ := hx x List.mem_cons_self
    rw [List.map_cons, compGo, h1]
    simp only [h2]
    cases hb : b x with
    | true =>
      simp only [h3]
      rw [if_pos (Nat.ble_eq_true_of_le (by simp at hl; omega)), comp_if enc h ok b S xs (h x :: acc) (fun e he => hx e (List.mem_cons_of_mem _ he)) (by simp at hl ⊢; omega)]
      simp [hb]
    | false =>
      simp only []
      rw [comp_if enc h ok b S xs acc (fun e he => hx e (List.mem_cons_of_mem _ he)) (by simp at hl; omega)]
      simp [hb]
/-- items that are drawn -/
theorem comp_ex {tg : Tg} {test : Env → Store → Out Bool} {elt : Env → Store → Out D} {σ : Env} (ht : ∀ σ S, test σ S = .ok true S) (Pr : D → Prop) (Inv : Nat → Store → Prop) (m : Nat) : ∀ (ds acc : List D) (S : Store),
    (∀ d ∈ ds, ∀ m S, Inv (m + 1) S → ∃ σ2 v S', asg tg d σ = some σ2 ∧ elt σ2 S = .ok v S' ∧ Pr v ∧ Inv m S') → Inv (m + ds.length) S → acc.length + ds.length ≤ bigN →
    ∃ vs S', compGo tg test elt σ ds acc S = .ok (.lst (acc.reverse ++ vs)) S' ∧ vs.length = ds.length ∧ (∀ v ∈ vs, Pr v) ∧ Inv m S'
  | [], acc, S, hx, hi, hl => ⟨[], S, by simp [compGo], rfl, by simp, hi⟩
  | d :: ds, acc, S, hx, hi, hl => by
    obtain ⟨σ2, v, S1, h1, h2, h3, h4⟩ := hx d List.mem_cons_self (m + ds.length) S (by simpa [Nat.add_assoc] using hi)
    obtain ⟨vs, S2, e1, e2, e3, e4⟩ := comp_ex ht Pr Inv m ds (v :: acc) S1 (fun e he => hx e (List.mem_cons_of_mem _ he)) h4 (by simp at hl ⊢; omega)
    refine ⟨v :: vs, S2, ?_, by simp [e2], ?_, e4⟩
    · rw [compGo, h1]
      simp only [ht, h2]
      rw [if_pos (Nat.ble_eq_true_of_le (by simp at hl; omega)), e1]
      simp
    · intro w hw
      rcases List.mem_cons.mp hw with rfl | hw
      · exact h3
      · exact e3 w hw
/-- a loop that gathers; P tells of what is left -/
theorem for_fold {α β : Type} {tg : Tg} {body : Env → Store → OutS} (enc : α → D) (σf : β → Option α → Env) (step : β → α → β) (P : Nat → β → Prop) (S : Store) : ∀ (xs : List α) (j : Nat) (b : β) (l : Option α), P (j + xs.length) b →
    (∀ x ∈ xs, ∀ i b l, P (i + 1) b → ∃ σ2, asg tg (enc x) (σf b l) = some σ2 ∧ body σ2 S = .nx (σf (step b x) (some x)) S ∧ P i (step b x)) →
    ∃ l', forGo tg body (xs.map enc) (σf b l) S = .nx (σf (xs.foldl step b) l') S ∧ P j (xs.foldl step b)
  | [], j, b, l, hp, _ => ⟨l, by simp [forGo], hp⟩
  | x :: xs, j, b, l, hp, h => by
    obtain ⟨σ2, h1, h2, h3⟩ := h x List.mem_cons_self (j + xs.length) b l hp
    obtain ⟨l', e1, e2⟩ := for_fold enc σf step P S xs j (step b x) (some x) h3 fun y hy => h y (List.mem_cons_of_mem _ hy)
    refine ⟨l', ?_, e2⟩
    rw [List.map_cons, forGo, h1]
    simp only [h2]
    exact e1
/-! ### rows and forms -/
abbrev Row := List Rat
abbrev Form := Row × Rat
def rowD (r : Row) : D := .tup (r.map fr)
def formD (f : Form) : D := .tup [rowD f.1, fr f.2]
def formsD (fs : List Form) : D := .tup (fs.map formD)
theorem eqvs_map {α : Type} [DecidableEq α] {f : α → D} (h : ∀ x y, eqv (f x) (f y) = decide (x = y)) : ∀ xs ys : List α, eqvs (xs.map f) (ys.map f) = decide (xs = ys)
  | [], [] => by simp [eqvs]
  | [], _ :: _ => by simp [eqvs]
  | _ :: _, [] => by simp [eqvs]
  | x :: xs, y :: ys => by
    rw [List.map_cons, List.map_cons, eqvs, h, eqvs_map h]
    by_cases h1 : x = y <;> by_cases h2 : xs = ys <;> simp [h1, h2]
theorem plains_map {α : Type} {f : α → D} {n : Nat} (h : ∀ x, plain n (f x) = true) : ∀ xs : List α, plains n (xs.map f) = true
  | [] => by simp [plains]
  | x :: xs => by rw [List.map_cons, plains, h, plains_map h]; rfl
theorem eqv_row (r s : Row) : eqv (rowD r) (rowD s) = decide (r = s) := by
  rw [rowD, rowD, eqv, eqvs_map eqv_fr]
theorem plain_row (n : Nat) (r : Row) : plain (n + 2) (rowD r) = true := by
  rw [rowD, plain]; exact plains_map (fun x => plain_fr n x) r
theorem eqv_form (f g : Form) : eqv (formD f) (formD g) = decide (f = g) := by
  rw [formD, formD, eqv, eqvs, eqvs, eqvs, eqv_row, eqv_fr, Bool.and_true]
  obtain ⟨a, b⟩ := f
  obtain ⟨c, d⟩ := g
  by_cases h1 : a = c <;> by_cases h2 : b = d <;> simp [h1, h2]
theorem plain_form (n : Nat) (f : Form) : plain (n + 3) (formD f) = true := by
  rw [formD, plain, plains, plains, plains, plain_row, plain_fr]; rfl
theorem eqv_forms (f g : List Form) : eqv (formsD f) (formsD g) = decide (f = g) := by
  rw [formsD, formsD, eqv, eqvs_map eqv_form]
theorem plain_forms (n : Nat) (f : List Form) : plain (n + 4) (formsD f) = true := by
  rw [formsD, plain]; exact plains_map (fun x => plain_form n x) f
section
variable {S : Store} {r s : Row} {f g : Form} {fs gs : List Form} {p q : Rat}
@[simp] theorem c_eqR : cmp2 .eq (rowD r) (rowD s) S = .ok (decide (r = s)) S := by
  rw [c_eq rfl rfl (plain_row 58 r) (plain_row 58 s), eqv_row]
@[simp] theorem c_neR : cmp2 .ne (rowD r) (rowD s) S = .ok (!decide (r = s)) S := by
  rw [c_ne rfl rfl (plain_row 58 r) (plain_row 58 s), eqv_row]
@[simp] theorem c_eqFo : cmp2 .eq (formD f) (formD g) S = .ok (decide (f = g)) S := by
  rw [c_eq rfl rfl (plain_form 57 f) (plain_form 57 g), eqv_form]
@[simp] theorem c_neFo : cmp2 .ne (formD f) (formD g) S = .ok (!decide (f = g)) S := by
  rw [c_ne rfl rfl (plain_form 57 f) (plain_form 57 g), eqv_form]
@[simp] theorem c_eqFs : cmp2 .eq (formsD fs) (formsD gs) S = .ok (decide (fs = gs)) S := by
  rw [c_eq rfl rfl (plain_forms 56 fs) (plain_forms 56 gs), eqv_forms]
@[simp] theorem c_neFs : cmp2 .ne (formsD fs) (formsD gs) S = .ok (!decide (fs = gs)) S := by
  rw [c_ne rfl rfl (plain_forms 56 fs) (plain_forms 56 gs), eqv_forms]
@[simp] theorem i_fo0 : item (formD f) (.int 0) S = .ok (rowD f.1) S := Eq.trans rfl rfl
@[simp] theorem i_fo1 : item (formD f) (.int 1) S = .ok (fr f.2) S := Eq.trans rfl rfl
@[simp] theorem l_row : lenD (rowD r) S = .ok (.int r.length) S := by simp [rowD]
@[simp] theorem l_form : lenD (formD f) S = .ok (.int 2) S := Eq.trans rfl rfl
@[simp] theorem l_forms : lenD (formsD fs) S = .ok (.int fs.length) S := by simp [formsD]
@[simp] theorem w_row : walk (rowD r) S = some (r.map fr) := Eq.trans rfl rfl
@[simp] theorem w_forms : walk (formsD fs) S = some (fs.map formD) := Eq.trans rfl rfl
@[simp] theorem is_row (ts : List Ty) : isD ts (rowD r) S = .ok (.bl (ts.any fun t => tyIs (.tup []) t)) S := by
  have : tyIs (rowD r) = tyIs (.tup []) := by funext t; cases t <;> rfl
  show Out.ok (D.bl (ts.any fun t => tyIs (rowD r) t)) S = _
  rw [this]
@[simp] theorem is_form (ts : List Ty) : isD ts (formD f) S = .ok (.bl (ts.any fun t => tyIs (.tup []) t)) S := by
  have : tyIs (formD f) = tyIs (.tup []) := by funext t; cases t <;> rfl
  show Out.ok (D.bl (ts.any fun t => tyIs (formD f) t)) S = _
  rw [this]
@[simp] theorem is_forms (ts : List Ty) : isD ts (formsD fs) S = .ok (.bl (ts.any fun t => tyIs (.tup []) t)) S := by
  have : tyIs (formsD fs) = tyIs (.tup []) := by funext t; cases t <;> rfl
  show Out.ok (D.bl (ts.any fun t => tyIs (formsD fs) t)) S = _
  rw [this]
@[simp] theorem z_rows : zipOf (rowD r) (rowD s) = some ((r.zip s).map fun p => .tup [fr p.1, fr p.2]) := by
  have : ∀ r s : Row, zipD (r.map fr) (s.map fr) = (r.zip s).map fun p => .tup [fr p.1, fr p.2] := by
    intro r
    induction r with
    | nil => intro s; rfl
    | cons a r ih => intro s; cases s with
      | nil => rfl
      | cons b s => simp [zipD, ih s]
  show some (zipD (r.map fr) (s.map fr)) = _
  rw [this]
@[simp] theorem z_rowforms : zipOf (rowD r) (formsD fs) = some ((r.zip fs).map fun p => .tup [fr p.1, formD p.2]) := by
  have : ∀ (r : Row) (fs : List Form), zipD (r.map fr) (fs.map formD) = (r.zip fs).map fun p => .tup [fr p.1, formD p.2] := by
    intro r
    induction r with
    | nil => intro s; rfl
    | cons a r ih => intro s; cases s with
      | nil => rfl
      | cons b s => simp [zipD, ih s]
  show some (zipD (r.map fr) (fs.map formD)) = _
  rw [this]
theorem bools_true {α : Type} : ∀ (xs : List α), boolsOf (xs.map fun _ => D.bl true) = some (xs.map fun _ => true)
  | [] => rfl
  | _ :: xs => by simp [boolsOf, bools_true xs]
theorem all_true {α : Type} (xs : List α) : allD (.lst (xs.map fun _ => D.bl true)) S = .ok (.bl true) S := by
  rw [all_lst _ _ (bools_true xs)]
  congr 2
  induction xs with
  | nil => rfl
  | cons x xs ih => simp
end
/-- entries not too great -/
def SmR (n : Nat) (r : Row) : Prop := r.length ≤ 100 ∧ ∀ q ∈ r, Sm n q
theorem SmR.mono {m n : Nat} {r : Row} (h : SmR m r) (k : m ≤ n) : SmR n r := ⟨h.1, fun q hq => (h.2 q hq).mono k⟩
def SmF (n : Nat) (f : Form) : Prop := SmR n f.1 ∧ Sm n f.2
theorem SmF.mono {m n : Nat} {f : Form} (h : SmF m f) (k : m ≤ n) : SmF n f := ⟨h.1.mono k, h.2.mono k⟩
end DL
end
section
set_option Elab.async false
set_option autoImplicit false
set_option linter.all false
set_option maxRecDepth 100000
set_option maxHeartbeats 2000000
/-! P3: rows and forms, plainly. -/
namespace DL
def addR (r s : Row) : Row := (r.zip s).map fun p => p.1 + p.2
def subR (r s : Row) : Row := (r.zip s).map fun p => p.1 - p.2
def mulR (c : Rat) (r : Row) : Row := r.map (c * ·)
def prodR (r s : Row) : Rat := (r.zip s).foldl (fun a p => a + p.1 * p.2) 0
def worth (f : Form) (r : Row) : Rat := prodR f.1 r + f.2
def addF (f g : Form) : Form := (addR f.1 g.1, f.2 + g.2)
def mulF (c : Rat) (f : Form) : Form := (mulR c f.1, c * f.2)
def noughtR (n : Nat) : Row := List.replicate n 0
def constF (n : Nat) (c : Rat) : Form := (noughtR n, c)
def behindF (f : Form) (n : Nat) (gs : List Form) : Form := (f.1.zip gs).foldl (fun a p => addF a (mulF p.1 p.2)) (constF n f.2)
theorem addR_length (r s : Row) (h : r.length = s.length) : (addR r s).length = r.length := by simp [addR, h]
theorem mulR_length (c : Rat) (r : Row) : (mulR c r).length = r.length := by simp [mulR]
theorem prod_acc : ∀ (l : List (Rat × Rat)) (a b : Rat), l.foldl (fun a p => a + p.1 * p.2) (a + b) = a + l.foldl (fun a p => a + p.1 * p.2) b
  | [], a, b => rfl
  | p :: l, a, b => by
    rw [List.foldl_cons, List.foldl_cons, Rat.add_assoc, prod_acc l a (b + p.1 * p.2)]
theorem prod_cons (x y : Rat) (r s : Row) : prodR (x :: r) (y :: s) = x * y + prodR r s := by
  unfold prodR
  rw [List.zip_cons_cons, List.foldl_cons]
  have := prod_acc (r.zip s) (x * y) 0
  simp only at this ⊢
  rw [Rat.zero_add, ← this, Rat.add_zero]
theorem prod_nil (s : Row) : prodR [] s = 0 := rfl
theorem prod_nil2 (s : Row) : prodR s [] = 0 := by cases s <;> rfl
theorem prod_add : ∀ (r s t : Row), r.length = s.length → prodR (addR r s) t = prodR r t + prodR s t
  | [], [], t, _ => by simp [addR, prod_nil]; grind
  | x :: r, y :: s, [], _ => by simp [prod_nil2]; grind
  | x :: r, y :: s, z :: t, h => by
    have ih := prod_add r s t (by simpa using h)
    have e : addR (x :: r) (y :: s) = (x + y) :: addR r s := by simp [addR]
    rw [e, prod_cons, prod_cons, prod_cons, ih]
    grind
theorem prod_mul (c : Rat) : ∀ (r t : Row), prodR (mulR c r) t = c * prodR r t
  | [], t => by simp [mulR, prod_nil]
  | x :: r, [] => by simp [prod_nil2]
  | x :: r, z :: t => by
    have ih := prod_mul c r t
    have e : mulR c (x :: r) = (c * x) :: mulR c r := by simp [mulR]
    rw [e, prod_cons, prod_cons, ih]
    grind
theorem prod_nought (n : Nat) : ∀ t : Row, prodR (noughtR n) t = 0 := by
  induction n with
  | zero => intro t; exact prod_nil t
  | succ n ih => intro t; cases t with
    | nil => exact prod_nil2 _
    | cons z t =>
      have e : noughtR (n + 1) = 0 :: noughtR n := rfl
      rw [e, prod_cons, ih]; grind
theorem worth_add (f g : Form) (t : Row) (h : f.1.length = g.1.length) : worth (addF f g) t = worth f t + worth g t := by
  simp only [worth, addF, prod_add _ _ _ h]; grind
theorem worth_mul (c : Rat) (f : Form) (t : Row) : worth (mulF c f) t = c * worth f t := by
  simp only [worth, mulF, prod_mul]; grind
theorem worth_const (n : Nat) (c : Rat) (t : Row) : worth (constF n c) t = c := by
  simp only [worth, constF, prod_nought]; grind
/-- all forms of the width -/
def Wide (n : Nat) (gs : List Form) : Prop := ∀ g ∈ gs, g.1.length = n
theorem addF_wide {n : Nat} {f g : Form} (hf : f.1.length = n) (hg : g.1.length = n) : (addF f g).1.length = n := by
  rw [addF, addR_length _ _ (by rw [hf, hg]), hf]
theorem mulF_wide {n : Nat} {c : Rat} {f : Form} (hf : f.1.length = n) : (mulF c f).1.length = n := by rw [mulF, mulR_length, hf]
theorem fold_wide {n : Nat} : ∀ (l : List (Rat × Form)) (a : Form), a.1.length = n → (∀ p ∈ l, p.2.1.length = n) → (l.foldl (fun a p => addF a (mulF p.1 p.2)) a).1.length = n
  | [], a, h, _ => h
  | p :: l, a, h, hl => fold_wide l _ (addF_wide h (mulF_wide (hl p List.mem_cons_self))) fun q hq => hl q (List.mem_cons_of_mem _ hq)
theorem zip_wide {n : Nat} {r : Row} {gs : List Form} (h : Wide n gs) : ∀ p ∈ r.zip gs, p.2.1.length = n := fun p hp => h p.2 (List.of_mem_zip hp).2
theorem behind_wide {n : Nat} {f : Form} {gs : List Form} (h : Wide n gs) : (behindF f n gs).1.length = n :=
  fold_wide _ _ (by simp [constF, noughtR]) (zip_wide h)
theorem worth_fold {n : Nat} (t : Row) : ∀ (l : List (Rat × Form)) (a : Form), a.1.length = n → (∀ p ∈ l, p.2.1.length = n) → worth (l.foldl (fun a p => addF a (mulF p.1 p.2)) a) t = (l.map fun p => (p.1, worth p.2 t)).foldl (fun a p => a + p.1 * p.2) (worth a t)
  | [], a, h, _ => rfl
  | p :: l, a, h, hl => by
    have hp := hl p List.mem_cons_self
    rw [List.foldl_cons, worth_fold t l _ (addF_wide h (mulF_wide hp)) fun q hq => hl q (List.mem_cons_of_mem _ hq), List.map_cons, List.foldl_cons, worth_add _ _ _ (by rw [h, mulF_wide hp]), worth_mul]
theorem zip_map_right {α β γ : Type} (f : β → γ) : ∀ (r : List α) (s : List β), r.zip (s.map f) = (r.zip s).map fun p => (p.1, f p.2)
  | [], _ => rfl
  | _ :: _, [] => rfl
  | a :: r, b :: s => by simp [zip_map_right f r s]
/-- a form behind forms, at a row -/
theorem worth_behind {n : Nat} {f : Form} {gs : List Form} (h : Wide n gs) (t : Row) : worth (behindF f n gs) t = worth f (gs.map fun g => worth g t) := by
  rw [behindF, worth_fold t _ _ (by simp [constF, noughtR]) (zip_wide h), worth_const, worth, prodR, zip_map_right, Rat.add_comm]
  have := prod_acc ((f.1.zip gs).map fun p => (p.1, worth p.2 t)) f.2 0
  rw [Rat.add_zero] at this
  exact this
/-! chains -/
theorem addR_comm : ∀ r s : Row, addR r s = addR s r
  | [], [] => rfl
  | [], _ :: _ => rfl
  | _ :: _, [] => rfl
  | x :: r, y :: s => by
    have := addR_comm r s
    simp only [addR, List.zip_cons_cons, List.map_cons] at this ⊢
    rw [this, Rat.add_comm]
theorem addR_assoc : ∀ r s t : Row, addR (addR r s) t = addR r (addR s t)
  | [], _, _ => by simp [addR]
  | _ :: _, [], _ => by simp [addR]
  | _ :: _, _ :: _, [] => by simp [addR]
  | x :: r, y :: s, z :: t => by
    have := addR_assoc r s t
    simp only [addR, List.zip_cons_cons, List.map_cons] at this ⊢
    rw [this, Rat.add_assoc]
theorem mulR_add (c : Rat) : ∀ r s : Row, mulR c (addR r s) = addR (mulR c r) (mulR c s)
  | [], _ => by simp [addR, mulR]
  | _ :: _, [] => by simp [addR, mulR]
  | x :: r, y :: s => by
    have := mulR_add c r s
    simp only [addR, mulR, List.zip_cons_cons, List.map_cons] at this ⊢
    rw [this]
    congr 1
    grind
theorem addR_mul (c d : Rat) : ∀ r : Row, mulR (c + d) r = addR (mulR c r) (mulR d r)
  | [] => by simp [addR, mulR]
  | x :: r => by
    have := addR_mul c d r
    simp only [addR, mulR, List.zip_cons_cons, List.map_cons] at this ⊢
    rw [this]
    congr 1
    grind
theorem mulR_mul (c d : Rat) (r : Row) : mulR c (mulR d r) = mulR (c * d) r := by
  simp only [mulR, List.map_map]
  congr 1
  funext x
  show c * (d * x) = c * d * x
  grind
theorem mulR_zero (r : Row) : mulR 0 r = noughtR r.length := by
  induction r with
  | nil => rfl
  | cons x r ih =>
    have e : mulR 0 (x :: r) = (0 * x) :: mulR 0 r := rfl
    rw [e, ih]
    have : (0 : Rat) * x = 0 := by grind
    rw [this]; rfl
theorem addR_nought : ∀ r : Row, addR r (noughtR r.length) = r
  | [] => rfl
  | x :: r => by
    have := addR_nought r
    have e : noughtR (x :: r).length = 0 :: noughtR r.length := rfl
    rw [e]
    simp only [addR, List.zip_cons_cons, List.map_cons] at this ⊢
    rw [this, Rat.add_zero]
theorem addF_assoc (f g h : Form) : addF (addF f g) h = addF f (addF g h) := by
  simp only [addF, addR_assoc, Rat.add_assoc]
theorem addF_comm (f g : Form) : addF f g = addF g f := by
  simp only [addF, addR_comm f.1, Rat.add_comm f.2]
theorem mulF_add (c : Rat) (f g : Form) : mulF c (addF f g) = addF (mulF c f) (mulF c g) := by
  simp only [mulF, addF, mulR_add, Prod.mk.injEq, true_and]; grind
theorem addF_mul (c d : Rat) (f : Form) : mulF (c + d) f = addF (mulF c f) (mulF d f) := by
  simp only [mulF, addF, addR_mul, Prod.mk.injEq, true_and]; grind
theorem mulF_mul (c d : Rat) (f : Form) : mulF c (mulF d f) = mulF (c * d) f := by
  simp only [mulF, mulR_mul, Prod.mk.injEq, true_and]; grind
theorem nought_left {n : Nat} {f : Form} (h : f.1.length = n) (c : Rat) : addF (constF n c) f = (f.1, c + f.2) := by
  subst h
  simp only [addF, constF, addR_comm (noughtR _), addR_nought]
/-- the linear part of a form behind forms -/
def linF (r : Row) (n : Nat) (gs : List Form) : Form := (r.zip gs).foldl (fun a p => addF a (mulF p.1 p.2)) (constF n 0)
theorem fold_acc : ∀ (l : List (Rat × Form)) (a b : Form), l.foldl (fun a p => addF a (mulF p.1 p.2)) (addF a b) = addF a (l.foldl (fun a p => addF a (mulF p.1 p.2)) b)
  | [], a, b => rfl
  | p :: l, a, b => by rw [List.foldl_cons, List.foldl_cons, addF_assoc, fold_acc l]
theorem const_split {n : Nat} (c : Rat) : addF (constF n c) (constF n 0) = constF n c := by
  rw [nought_left (by simp [constF, noughtR])]
  simp [constF, Rat.add_zero]
theorem behind_lin (f : Form) (n : Nat) (gs : List Form) : behindF f n gs = addF (constF n f.2) (linF f.1 n gs) := by
  rw [behindF, linF, ← fold_acc, const_split]
theorem lin_cons (x : Rat) (r : Row) (n : Nat) (g : Form) (gs : List Form) (hg : g.1.length = n) : linF (x :: r) n (g :: gs) = addF (mulF x g) (linF r n gs) := by
  rw [linF, List.zip_cons_cons, List.foldl_cons, addF_comm, fold_acc]; rfl
theorem lin_nil (n : Nat) (gs : List Form) : linF [] n gs = constF n 0 := rfl
theorem lin_nil2 (r : Row) (n : Nat) : linF r n [] = constF n 0 := by cases r <;> rfl
theorem lin_wide {n : Nat} {r : Row} {gs : List Form} (h : Wide n gs) : (linF r n gs).1.length = n := fold_wide _ _ (by simp [constF, noughtR]) (zip_wide h)
theorem const_add (n : Nat) (c d : Rat) : addF (constF n c) (constF n d) = constF n (c + d) := by
  rw [nought_left (by simp [constF, noughtR])]; rfl
theorem lin_add : ∀ (r s : Row) (n : Nat) (gs : List Form), Wide n gs → r.length = s.length → linF (addR r s) n gs = addF (linF r n gs) (linF s n gs)
  | [], [], n, gs, _, _ => by rw [show addR [] [] = [] from rfl, lin_nil, const_add, Rat.add_zero]
  | x :: r, y :: s, n, [], _, _ => by rw [lin_nil2, lin_nil2, lin_nil2, const_add, Rat.add_zero]
  | x :: r, y :: s, n, g :: gs, hw, h => by
    have hg := hw g List.mem_cons_self
    have ih := lin_add r s n gs (fun k hk => hw k (List.mem_cons_of_mem _ hk)) (by simpa using h)
    have e : addR (x :: r) (y :: s) = (x + y) :: addR r s := by simp [addR]
    rw [e, lin_cons _ _ _ _ _ hg, lin_cons _ _ _ _ _ hg, lin_cons _ _ _ _ _ hg, ih, addF_mul]
    rw [addF_assoc, addF_assoc, ← addF_assoc (mulF y g), addF_comm (mulF y g), addF_assoc (linF r n gs)]
theorem mul_const (n : Nat) (c d : Rat) : mulF c (constF n d) = constF n (c * d) := by
  simp only [mulF, constF, mulR, noughtR, List.map_replicate, Prod.mk.injEq, and_true]
  congr 1
  grind
theorem lin_mul (c : Rat) : ∀ (r : Row) (n : Nat) (gs : List Form), Wide n gs → linF (mulR c r) n gs = mulF c (linF r n gs)
  | [], n, gs, _ => by rw [show mulR c [] = [] from rfl, lin_nil, mul_const]; simp
  | x :: r, n, [], _ => by rw [lin_nil2, lin_nil2, mul_const]; simp
  | x :: r, n, g :: gs, hw => by
    have hg := hw g List.mem_cons_self
    have ih := lin_mul c r n gs (fun k hk => hw k (List.mem_cons_of_mem _ hk))
    have e : mulR c (x :: r) = (c * x) :: mulR c r := rfl
    rw [e, lin_cons _ _ _ _ _ hg, lin_cons _ _ _ _ _ hg, ih, mulF_add, mulF_mul]
theorem behind_add {n : Nat} {gs : List Form} (hw : Wide n gs) (f g : Form) (h : f.1.length = g.1.length) : behindF (addF f g) n gs = addF (behindF f n gs) (behindF g n gs) := by
  rw [behind_lin, behind_lin, behind_lin]
  show addF (constF n (f.2 + g.2)) (linF (addR f.1 g.1) n gs) = _
  rw [lin_add _ _ _ _ hw h, ← const_add, addF_assoc, addF_assoc, ← addF_assoc (constF n g.2), addF_comm (constF n g.2), addF_assoc (linF f.1 n gs)]
theorem behind_mul {n : Nat} {gs : List Form} (hw : Wide n gs) (c : Rat) (f : Form) : behindF (mulF c f) n gs = mulF c (behindF f n gs) := by
  rw [behind_lin, behind_lin]
  show addF (constF n (c * f.2)) (linF (mulR c f.1) n gs) = _
  rw [lin_mul _ _ _ _ hw, mulF_add, mul_const]
theorem lin_nought (m n : Nat) : ∀ gs : List Form, Wide n gs → linF (noughtR m) n gs = constF n 0 := by
  induction m with
  | zero => intro gs _; rfl
  | succ m ih => intro gs hw; cases gs with
    | nil => exact lin_nil2 _ _
    | cons g gs =>
      have hg := hw g List.mem_cons_self
      have e : noughtR (m + 1) = 0 :: noughtR m := rfl
      rw [e, lin_cons _ _ _ _ _ hg, ih gs fun k hk => hw k (List.mem_cons_of_mem _ hk)]
      have : mulF 0 g = constF n 0 := by
        subst hg
        simp only [mulF, constF, mulR_zero, Prod.mk.injEq, true_and]; grind
      rw [this, const_add, Rat.add_zero]
theorem behind_const {n m : Nat} {gs : List Form} (hw : Wide n gs) (c : Rat) : behindF (constF m c) n gs = constF n c := by
  rw [behind_lin]
  show addF (constF n c) (linF (noughtR m) n gs) = _
  rw [lin_nought m n gs hw, const_split]
theorem chain_fold {m n : Nat} {hs : List Form} (hw : Wide n hs) : ∀ (l : List (Rat × Form)) (a : Form), a.1.length = m → (∀ p ∈ l, p.2.1.length = m) →
    behindF (l.foldl (fun a p => addF a (mulF p.1 p.2)) a) n hs = (l.map fun p => (p.1, behindF p.2 n hs)).foldl (fun a p => addF a (mulF p.1 p.2)) (behindF a n hs)
  | [], a, _, _ => rfl
  | p :: l, a, h, hl => by
    have hp := hl p List.mem_cons_self
    rw [List.foldl_cons, chain_fold hw l _ (addF_wide h (mulF_wide hp)) fun q hq => hl q (List.mem_cons_of_mem _ hq), List.map_cons, List.foldl_cons, behind_add hw _ _ (by rw [h, mulF_wide hp]), behind_mul hw]
/-- chains are put together either way -/
theorem behind_chain {m n : Nat} {f : Form} {gs hs : List Form} (hg : Wide m gs) (hh : Wide n hs) : behindF f n (gs.map fun g => behindF g n hs) = behindF (behindF f m gs) n hs := by
  rw [behindF, zip_map_right]
  show _ = behindF ((f.1.zip gs).foldl (fun a p => addF a (mulF p.1 p.2)) (constF m f.2)) n hs
  rw [chain_fold hh _ _ (show (constF m f.2).1.length = m by simp [constF, noughtR]) (zip_wide hg), behind_const hh]
end DL
namespace DL
def fillR (r : Row) (w : Nat) : Row := r ++ noughtR (w - r.length)
def mcAdd (f g : Form) : Form := (addR (fillR f.1 (max f.1.length g.1.length)) (fillR g.1 (max f.1.length g.1.length)), f.2 + g.2)
def mcBehind (f : Form) (gs : List Form) : Form := (f.1.zip gs).foldl (fun a p => mcAdd a (mulF p.1 p.2)) ([], f.2)
theorem fill_self (r : Row) : fillR r r.length = r := by simp [fillR, noughtR]
theorem fill_nil (n : Nat) : fillR [] n = noughtR n := by simp [fillR]
theorem mc_fold {n : Nat} : ∀ (l : List (Rat × Form)) (a b : Form), (∀ p ∈ l, p.2.1.length = n) → fillR a.1 n = b.1 → a.2 = b.2 → (a.1 = [] ∨ a.1.length = n) →
    fillR (l.foldl (fun a p => mcAdd a (mulF p.1 p.2)) a).1 n = (l.foldl (fun a p => addF a (mulF p.1 p.2)) b).1 ∧ (l.foldl (fun a p => mcAdd a (mulF p.1 p.2)) a).2 = (l.foldl (fun a p => addF a (mulF p.1 p.2)) b).2
  | [], a, b, _, h1, h2, _ => ⟨h1, h2⟩
  | p :: l, a, b, hl, h1, h2, h3 => by
    have hp : (mulF p.1 p.2).1.length = n := mulF_wide (hl p List.mem_cons_self)
    have hm : max a.1.length (mulF p.1 p.2).1.length = n := by
      rw [hp]
      rcases h3 with h3 | h3
      · rw [h3]; simp
      · rw [h3]; simp
    have hb : b.1.length = n := by
      rw [← h1]
      rcases h3 with h3 | h3
      · rw [h3]; simp [fillR, noughtR]
      · simp [fillR, noughtR, h3]
    have e1 : (mcAdd a (mulF p.1 p.2)).1 = (addF b (mulF p.1 p.2)).1 := by
      have ef : fillR (mulF p.1 p.2).1 n = (mulF p.1 p.2).1 := by
        have := fill_self (mulF p.1 p.2).1
        rw [hp] at this; exact this
      show addR (fillR a.1 _) (fillR (mulF p.1 p.2).1 _) = addR b.1 (mulF p.1 p.2).1
      rw [hm, h1, ef]
    have hw := addF_wide hb hp
    rw [List.foldl_cons, List.foldl_cons]
    refine mc_fold l _ _ (fun q hq => hl q (List.mem_cons_of_mem _ hq)) ?_ ?_ (.inr (by rw [e1, hw]))
    · rw [e1]
      have := fill_self (addF b (mulF p.1 p.2)).1
      rw [hw] at this; exact this
    · show a.2 + _ = b.2 + _
      rw [h2]
theorem mc_behind {n : Nat} {f : Form} {gs : List Form} (h : Wide n gs) : fillR (mcBehind f gs).1 n = (behindF f n gs).1 ∧ (mcBehind f gs).2 = (behindF f n gs).2 :=
  mc_fold _ _ _ (zip_wide h) (fill_nil n) rfl (.inl rfl)
/-! ### sizes -/
theorem Sm.zero : Sm 1 0 := ⟨by decide, by decide⟩
theorem Sm.one : Sm 1 1 := ⟨by decide, by decide⟩
theorem SmR.add {m n : Nat} {r s : Row} (hr : SmR m r) (hs : SmR n s) : SmR (m + n + 1) (addR r s) := by
  refine ⟨?_, fun q hq => ?_⟩
  · have := hr.1
    simp only [addR, List.length_map, List.length_zip]; omega
  · simp only [addR, List.mem_map] at hq
    obtain ⟨p, hp, rfl⟩ := hq
    exact (hr.2 _ (List.of_mem_zip hp).1).add (hs.2 _ (List.of_mem_zip hp).2)
theorem SmR.mul {m n : Nat} {c : Rat} {r : Row} (hc : Sm m c) (hr : SmR n r) : SmR (m + n) (mulR c r) := by
  refine ⟨by rw [mulR_length]; exact hr.1, fun q hq => ?_⟩
  simp only [mulR, List.mem_map] at hq
  obtain ⟨p, hp, rfl⟩ := hq
  exact hc.mul (hr.2 _ hp)
theorem SmR.nought {n : Nat} (h : n ≤ 100) : SmR 1 (noughtR n) := by
  refine ⟨by simp [noughtR, h], fun q hq => ?_⟩
  have : q = 0 := List.eq_of_mem_replicate hq
  subst this
  exact Sm.zero
theorem SmF.add {m n : Nat} {f g : Form} (hf : SmF m f) (hg : SmF n g) : SmF (m + n + 1) (addF f g) := ⟨hf.1.add hg.1, hf.2.add hg.2⟩
theorem SmF.mul {m n : Nat} {c : Rat} {g : Form} (hc : Sm m c) (hg : SmF n g) : SmF (m + n) (mulF c g) := ⟨SmR.mul hc hg.1, hc.mul hg.2⟩
end DL
end
section
set_option Elab.async false
set_option autoImplicit false
set_option linter.all false
set_option maxRecDepth 100000
set_option maxHeartbeats 2000000
/-! DLz: a def's body, statement by statement. -/
namespace DL
/-- a loop's body -/
def blk : St → List St
  | .for_ _ _ b => b
  | .forC _ _ b => b
  | .forT _ _ b _ => b
  | _ => []
def yesB : St → List St
  | .ite _ a _ => a
  | _ => []
section
variable {cl : Cl} {gc : List D} {σ σ' : Env} {S S' : Store} {r : OutS} {l : List St} {i : Nat}
theorem getD_at (hi : i < l.length) : l.getD i .pass = l[i] := by simp [List.getD, hi]
theorem b_nx (hi : i < l.length) (h : evS cl gc (l.getD i .pass) σ S = .nx σ' S') (k : evB cl gc (l.drop (i + 1)) σ' S' = r) : evB cl gc (l.drop i) σ S = r := by
  rw [List.drop_eq_getElem_cons hi, evB, ← getD_at hi, h]
  exact k
theorem b_ret {d : D} (hi : i < l.length) (h : evS cl gc (l.getD i .pass) σ S = .ret d S') : evB cl gc (l.drop i) σ S = .ret d S' := by
  rw [List.drop_eq_getElem_cons hi, evB, ← getD_at hi, h]
  rfl
theorem b_stop (hi : l.length ≤ i) : evB cl gc (l.drop i) σ S = .nx σ S := by
  rw [List.drop_eq_nil_of_le hi, evB]
theorem b_from0 (h : evB cl gc (l.drop 0) σ S = r) : evB cl gc l σ S = r := h
theorem fg_nx {tg : Tg} {b : List St} {d : D} {ds : List D} {σ2 : Env} (ha : asg tg d σ = some σ2) (h : evB cl gc b σ2 S = .nx σ' S') (k : forGo tg (evB cl gc b) ds σ' S' = r) : forGo tg (evB cl gc b) (d :: ds) σ S = r := by
  rw [forGo, ha]
  dsimp only
  rw [h]
  exact k
theorem fg_nil {tg : Tg} {b : List St} : forGo tg (evB cl gc b) [] σ S = .nx σ S := by rw [forGo]
theorem for_c {tg : Tg} {it : I} {b : List St} {ds : List D} (hi : evI cl gc it σ S = .ok ds S) (h : forGo tg (evB cl gc b) ds σ S = r) : evS cl gc (.for_ tg it b) σ S = r := by
  rw [evS, hi]
  exact h
theorem forC_c {j : Nat} {b : List St} {ds : List D} (h : forGo (.nm j) (evB cl gc b) ds σ S = r) : evS cl gc (.forC j ds b) σ S = r := by
  rw [evS]
  exact h
theorem asg_call {j g : Nat} {es : List E} {ds : List D} {d : D} (h1 : evEs cl gc es σ S = .ok ds S) (h2 : cl g ds S = .ok d S') : evS cl gc (.asg (.nm j) (.call g es)) σ S = .nx (σ.set j (some d)) S' := by
  rw [evS, evE, h1, x_bind, h2, x_stm, asgG]
theorem asg_call2 {j k g : Nat} {es : List E} {e2 : E} {ds : List D} {d v : D} (h1 : evEs cl gc es σ S = .ok ds S) (h2 : cl g ds S = .ok d S') (ns : ∀ z, e2 = .star z → False) (h3 : evE cl gc e2 σ S' = .ok v S') : evS cl gc (.asg (.tp [.nm j, .nm k]) (.tup [.call g es, e2])) σ S = .nx ((σ.set j (some d)).set k (some v)) S' := by
  have e3 : evEs cl gc [e2] σ S' = .ok [v] S' := by
    rw [x_es _ _ ns, h3, x_bind, evEs, x_bind]
  rw [evS, evE, x_es14, evE, h1, x_bind, h2, x_bind, e3, x_bind, x_bind]
  have f : fits ([d, v] : List D).length = true := rfl
  have f2 : Nat.beq ([d, v] : List D).length ([Tg.nm j, Tg.nm k] : List Tg).length = true := rfl
  rw [if_pos f, x_stm, x_gtp, if_pos f2, x_gs1, x_gnm, x_then, x_gs1, x_gnm, x_then, x_gs0]
theorem ret_call {g : Nat} {es : List E} {ds : List D} {d : D} (h1 : evEs cl gc es σ S = .ok ds S) (h2 : cl g ds S = .ok d S') : evS cl gc (.ret (.call g es)) σ S = .ret d S' := by
  rw [evS, evE, h1, x_bind, h2, x_stm]
theorem iteN_call {g : Nat} {es : List E} {ds : List D} {a : List St} (h1 : evEs cl gc es σ S = .ok ds S) (h2 : cl g ds S = .ok (.bl true) S') : evS cl gc (.ite (.not (.val (.call g es))) a []) σ S = .nx σ S' := by
  rw [evS, evT, evT, evE, h1, x_bind, h2, x_bind]
  show (((Out.ok true S').bind fun b S => .ok (!b) S : Out Bool).stm σ _) = _
  rw [x_bind, x_stm]
  show evB cl gc [] σ S' = _
  rw [evB]
theorem gs_nx {fine : List Nat} {hs : List Hd} {e : E} {es : List E} {acc : List D} {d : D} {r : Out D} (hl : Nat.ble (acc.length + 1) bigN = true) (h : wordD fine hs (evE cl gc e σ S) = .ok d S) (k : evGs cl gc fine hs es (d :: acc) σ S = r) : evGs cl gc fine hs (e :: es) acc σ S = r := by
  rw [evGs, h]
  dsimp only
  rw [if_pos hl]
  exact k
theorem gs_nil {fine : List Nat} {hs : List Hd} {acc : List D} : evGs cl gc fine hs [] acc σ S = .ok (.lst acc.reverse) S := by rw [evGs]
theorem ret_gs {fine : List Nat} {hs : List Hd} {j k : Nat} {es : List E} {e2 : E} {ws : List D} {dd : D} (hk : σ[j]? = some (some (.lams k))) (hg : evGs cl gc fine hs es [] σ S = .ok (.lst ws) S) (h2 : evE cl gc e2 σ S = .ok dd S) (hc : cmp2 .eq (.lst ws) dd S = .ok true S) :
    evS cl gc (.ret (.cmp .eq (.guards fine hs j k es) e2)) σ S = .ret (.bl true) S := by
  have e1 : evE cl gc (.guards fine hs j k es) σ S = .ok (.lst ws) S := by
    rw [x_guards, hk]
    dsimp only
    rw [if_pos (Nat.beq_refl k), hg]
  rw [evS, evE, e1, x_bind, h2, x_bind, hc, x_bind, x_stm]
/-- a loop whose turns leave nothing -/
theorem forT_ex {tg : Tg} {body : Env → Store → OutS} {fg : List Nat} (Inv : Env → Prop) : ∀ (ds : List D) (σ : Env),
    (∀ d ∈ ds, ∀ σ, Inv σ → ∃ σ2 σ' S', asg tg d σ = some σ2 ∧ body σ2 [] = .nx σ' S' ∧ Inv (wipeD σ' fg) ∧ lowE 0 (wipeD σ' fg) = true) → Inv σ → ∃ σ', forTGo tg body 0 fg ds σ [] = .nx σ' [] ∧ Inv σ'
  | [], σ, _, hi => ⟨σ, by rw [forTGo], hi⟩
  | d :: ds, σ, hx, hi => by
    obtain ⟨σ2, σ3, S1, h1, h2, h3, h4⟩ := hx d List.mem_cons_self σ hi
    obtain ⟨σ4, e1, e2⟩ := forT_ex Inv ds (wipeD σ3 fg) (fun e he => hx e (List.mem_cons_of_mem _ he)) h3
    refine ⟨σ4, ?_, e2⟩
    have ht : tidyS 0 (wipeD σ3 fg) S1 = [] := by
      unfold tidyS
      rw [if_pos (by rw [h4]; rfl)]
      rfl
    rw [forTGo, h1]
    dsimp only
    rw [h2]
    dsimp only
    rw [ht]
    exact e1
end
end DL
end
section
set_option Elab.async false
set_option autoImplicit false
set_option linter.all false
set_option maxRecDepth 100000
set_option maxHeartbeats 2000000
set_option exponentiation.threshold 200
namespace LW
open DL
abbrev R (k : Nat) : Cl := DL.run fns gcons k
theorem mul_ok {a b : Int} {m n : Nat} (S : Store) (ha : a.natAbs < 2 ^ m) (hb : b.natAbs < 2 ^ n) (h : m + n ≤ 100000) : opMul (.int a) (.int b) S = .ok (.int (a * b)) S := by
  show (if Nat.ble (a.natAbs.log2 + b.natAbs.log2) 999999 = true then (Out.ok (D.int (a * b)) S : Out D) else .bad) = _
  rw [if_pos]
  apply Nat.ble_eq_true_of_le
  have h1 : a.natAbs.log2 ≤ m := by
    cases m with
    | zero => have : a.natAbs = 0 := by simpa using ha
              rw [this]; simp
    | succ m => exact Nat.le_of_lt (log_of ha (by omega))
  have h2 : b.natAbs.log2 ≤ n := by
    cases n with
    | zero => have : b.natAbs = 0 := by simpa using hb
              rw [this]; simp
    | succ n => exact Nat.le_of_lt (log_of hb (by omega))
  omega
theorem range_map : ∀ (n : Nat) (lo : Nat), rangeD lo 1 n = (List.range' lo n).map fun i : Nat => D.int i
  | 0, lo => rfl
  | n + 1, lo => by
    have e : rangeD ((lo : Int) + 1) 1 n = (List.range' (lo + 1) n).map fun i : Nat => D.int i := range_map n (lo + 1)
    show D.int lo :: rangeD ((lo : Int) + 1) 1 n = _
    rw [e]; rfl
@[simp] theorem rng_nat (n : Nat) (S : Store) (h : n < 1000000) : rng2 (.int 0) (.int n) S = .ok ((List.range n).map fun i : Nat => D.int i) S := by
  have h1 : (small62 0 && small62 (n : Int)) = true := by
    rw [Bool.and_eq_true]
    refine ⟨by decide, ?_⟩
    unfold small62
    rw [Bool.and_eq_true]
    exact ⟨decide_eq_true (by omega), decide_eq_true (by omega)⟩
  show (if (small62 0 && small62 (n : Int)) = true then (Out.ok (rangeD 0 1 ((n : Int) - 0).toNat) S : Out (List D)) else .bad) = _
  rw [if_pos h1]
  have := range_map n 0
  rw [List.range_eq_range']
  simp at this
  simp [this]
theorem trim_set (d : D) (S : Store) (n : Nat) (xs : List D) : trim S.length d (S.set n xs) = S.set n xs := by
  unfold trim
  rw [if_pos (by simp)]
theorem s_roll (k n m t : Nat) (S : Store) {a b c : Int} (hS : S[n]? = some [.int a, .int b, .int c]) (c0 : 0 ≤ c) (c1 : c + ((m + 1 : Nat) : Int) ≤ 2 ^ 100) (t0 : 0 < t) (t1 : t < 1073741824) : ∃ (v : Nat) (a' b' c' : Int), R (k + 1) 1 [.ref n, .int t] S = .ok (.int v) (S.set n [.int a', .int b', .int c']) ∧ v < t ∧ 0 ≤ c' ∧ c' + (m : Int) ≤ 2 ^ 100 := by
  have hn : n < S.length := (List.getElem?_eq_some_iff.mp hS).1
  have i0 : item (.ref n) (.int 0) S = .ok (.int a) S := by simp [item, lOf, hS, getAt, ixAt]
  have i1 : ∀ x y z : Int, item (.ref n) (.int 1) (S.set n [.int x, .int y, .int z]) = .ok (.int y) (S.set n [.int x, .int y, .int z]) := by intro x y z; simp [item, lOf, hn, getAt, ixAt]
  have i2 : item (.ref n) (.int 2) S = .ok (.int c) S := by simp [item, lOf, hS, getAt, ixAt]
  have i3 : ∀ x y z : Int, item (.ref n) (.int 2) (S.set n [.int x, .int y, .int z]) = .ok (.int z) (S.set n [.int x, .int y, .int z]) := by intro x y z; simp [item, lOf, hn, getAt, ixAt]
  have ht : ((t : Int)) ≠ 0 := by omega
  by_cases ha : 0 < a
  · have hd : divmodD (.int a) (.int t) S = .ok (.tup [.int (a / t), .int (a % t)]) S := by
      show (if (decide (0 < (t : Int)) && decide ((t : Int) < 1073741824)) = true then (Out.ok (D.tup [.int (a / t), .int (a % t)]) S : Out D) else .bad) = _
      rw [if_pos (by rw [Bool.and_eq_true]; exact ⟨decide_eq_true (by omega), decide_eq_true (by omega)⟩)]
    have hs : setIt (.ref n) (.int 0) (.int (a / t)) S = some (S.set n [.int (a / t), .int b, .int c]) := by simp [setIt, hS, ixAt]
    refine ⟨(a % t).toNat, a / t, b, c, ?_, ?_, c0, by omega⟩
    · have e : (((a % (t : Int)).toNat : Nat) : Int) = a % t := Int.toNat_of_nonneg (Int.emod_nonneg _ ht)
      rw [R, run_at at_law_roll rfl]
      simp [F_law_roll, startD, i0, ha, hd, hs, intD, e]
      show Out.ok _ (trim S.length _ (S.set n _)) = _
      rw [trim_set]
    · have := Int.emod_lt_of_pos a (show (0 : Int) < t by omega)
      have := Int.emod_nonneg a ht
      omega
  · have hs : setIt (.ref n) (.int 2) (.int (c + 1)) S = some (S.set n [.int a, .int b, .int (c + 1)]) := by simp [setIt, hS, ixAt]
    have cb : (c + 1).natAbs < 2 ^ 101 := by
      have : (2 : Nat) ^ 101 = 2 * 2 ^ 100 := by decide
      have h2 : (2 : Int) ^ 100 = ((2 ^ 100 : Nat) : Int) := by decide
      rw [h2] at c1
      rw [this]
      generalize (2 ^ 100 : Nat) = z at *
      omega
    have m1 : ∀ S, op2 .mul (.int 67867967) (.int (c + 1)) S = .ok (.int (67867967 * (c + 1))) S := fun S => mul_ok (m := 30) (n := 101) S (by decide) cb (by decide)
    have mo : ∀ (x y : Int) S, y ≠ 0 → op2 .mod (.int x) (.int y) S = .ok (.int (x.fmod y)) S := fun x y S hy => by
      show (if decide (y ≠ 0) = true then (Out.ok (D.int (x.fmod y)) S : Out D) else .bad) = _
      rw [if_pos (decide_eq_true hy)]
    have fb : ∀ x y : Int, 0 < y → 0 ≤ x.fmod y ∧ x.fmod y < y := fun x y hy => ⟨Int.fmod_nonneg_of_pos x hy, Int.fmod_lt_of_pos x hy⟩
    generalize hx : (b + 67867967 * (c + 1)).fmod 2305843009213693613 = x
    have bx := fb (b + 67867967 * (c + 1)) 2305843009213693613 (by decide)
    rw [hx] at bx
    have m2 : ∀ S, op2 .mul (.int x) (.int x) S = .ok (.int (x * x)) S := fun S => mul_ok (m := 62) (n := 62) S (by omega) (by omega) (by decide)
    have m3 : ∀ S, op2 .mul (.int 211) (.int (c + 1)) S = .ok (.int (211 * (c + 1))) S := fun S => mul_ok (m := 30) (n := 101) S (by decide) cb (by decide)
    generalize hy : (x * x + 211 * (c + 1)).fmod 2305843009213693487 = y
    have bY := fb (x * x + 211 * (c + 1)) 2305843009213693487 (by decide)
    rw [hy] at bY
    have m4 : ∀ S, op2 .mul (.int y) (.int 49979693) S = .ok (.int (y * 49979693)) S := fun S => mul_ok (m := 62) (n := 30) S (by omega) (by decide) (by decide)
    have d1 : ∀ (z : Int) S, op2 .fdiv (.int z) (.int 70001) S = .ok (.int (z.fdiv 70001)) S := fun z S => rfl
    have vb := fb ((y * 49979693 + x).fdiv 70001) t (by omega)
    refine ⟨(((y * 49979693 + x).fdiv 70001).fmod t).toNat, a, b, c + 1, ?_, by omega, by omega, by omega⟩
    have e : ((((y * 49979693 + x).fdiv 70001).fmod (t : Int)).toNat : Int) = ((y * 49979693 + x).fdiv 70001).fmod t := Int.toNat_of_nonneg vb.1
    rw [e, R, run_at at_law_roll rfl]
    simp [F_law_roll, startD, i0, ha, i2, hs, i1, i3, m1, mo, hx, m2, m3, hy, m4, d1, intD, mo _ _ _ ht]
    show Out.ok _ (trim S.length _ (S.set n _)) = _
    rw [trim_set]
theorem s_pick (k m : Nat) (xs : List D) (T : Store) (a b c : Int) (c0 : 0 ≤ c) (c1 : c + ((m + 1 : Nat) : Int) ≤ 2 ^ 100) (h0 : 0 < xs.length) (h1 : xs.length < 1000) : ∃ (d : D) (a' b' c' : Int), R (k + 2) 2 [.ref 0, .lst xs] ([.int a, .int b, .int c] :: T) = .ok d ([.int a', .int b', .int c'] :: T) ∧ d ∈ xs ∧ 0 ≤ c' ∧ c' + (m : Int) ≤ 2 ^ 100 := by
  obtain ⟨v, a', b', c', e, hv, hd, hl⟩ := s_roll k 0 m xs.length ([.int a, .int b, .int c] :: T) rfl c0 c1 h0 (by omega)
  refine ⟨xs[v], a', b', c', ?_, List.getElem_mem hv, hd, hl⟩
  have e : R (k + 1) 1 [.ref 0, .int xs.length] ([.int a, .int b, .int c] :: T) = .ok (.int v) ([.int a', .int b', .int c'] :: T) := e
  generalize hS : ([.int a, .int b, .int c] :: T : Store) = S at e
  generalize hS' : ([.int a', .int b', .int c'] :: T : Store) = S' at e
  have hl : S'.length = S.length := by rw [← hS, ← hS']; rfl
  have hi : item (.lst xs) (.int v) S' = .ok xs[v] S' := by
    simp [item, lOf, getAt, ixAt, hv]
  have ht : trim S.length xs[v] S' = S' := by
    unfold trim
    rw [if_pos (by rw [hl]; exact Nat.beq_refl _)]
  rw [R, run_at at_law_pick rfl]
  simp [F_law_pick, startD, e, hi, endOf, ht]
theorem trim_len {d : D} {S S' : Store} (h : S'.length = S.length) : trim S.length d S' = S' := by
  unfold trim
  rw [if_pos (by rw [h]; exact Nat.beq_refl _)]
theorem end_len {d : D} {S S' : Store} (h : S'.length = S.length) : endOf S.length (.ret d S') = .ok d S' := by
  show Out.ok d (trim S.length d S') = _
  rw [trim_len h]
theorem for_ex {tg : Tg} {body : Env → Store → OutS} (Inv : Nat → Env → Store → Prop) (m : Nat) : ∀ (ds : List D) (σ : Env) (S : Store),
    (∀ d ∈ ds, ∀ m σ S, Inv (m + 1) σ S → ∃ σ2 σ' S', asg tg d σ = some σ2 ∧ body σ2 S = .nx σ' S' ∧ Inv m σ' S') → Inv (m + ds.length) σ S →
    ∃ σ' S', forGo tg body ds σ S = .nx σ' S' ∧ Inv m σ' S'
  | [], σ, S, _, hi => ⟨σ, S, by simp [forGo], hi⟩
  | d :: ds, σ, S, hx, hi => by
    obtain ⟨σ2, σ3, S1, h1, h2, h3⟩ := hx d List.mem_cons_self (m + ds.length) σ S (by simpa [Nat.add_assoc] using hi)
    obtain ⟨σ4, S2, e1, e2⟩ := for_ex Inv m ds σ3 S1 (fun e he => hx e (List.mem_cons_of_mem _ he)) h3
    refine ⟨σ4, S2, ?_, e2⟩
    rw [forGo, h1]
    dsimp only
    rw [h2]
    exact e1
theorem pow_facts : ∃ a b e : Int, (∀ S, op2 .pow (.int 10) (.int 47) S = .ok (.int a) S) ∧ (∀ S, op2 .pow (.int a) (.int 7) S = .ok (.int b) S) ∧ (∀ S, op2 .pow (.int 10) (.int 15) S = .ok (.int e) S) ∧ b ≠ 0 :=
  ⟨10 ^ 47, (10 ^ 47) ^ 7, 10 ^ 15, fun _ => rfl, fun _ => rfl, fun _ => rfl, by decide⟩
theorem s_dice (k : Nat) (ns : List Int) (spot : Nat) (S : Store) (hs : spot < 63) : ∃ a b : Int, R (k + 1) 0 [.scr ns, .int spot] S = .ok (.ref S.length) (S ++ [[.int a, .int b, .int 0]]) := by
  obtain ⟨p, q, e, h1, h2, h3, hq⟩ := pow_facts
  have mo : ∀ (x y : Int) S, y ≠ 0 → op2 .mod (.int x) (.int y) S = .ok (.int (x.fmod y)) S := fun x y S hy => by
    show (if decide (y ≠ 0) = true then (Out.ok (D.int (x.fmod y)) S : Out D) else .bad) = _
    rw [if_pos (decide_eq_true hy)]
  have fb : ∀ x y : Int, 0 < y → 0 ≤ x.fmod y ∧ x.fmod y < y := fun x y hy => ⟨Int.fmod_nonneg_of_pos x hy, Int.fmod_lt_of_pos x hy⟩
  have l1 : lenD (.scr ns) S = .ok (.int ns.length) S := rfl
  have m1 : ∀ (z : Int) S, op2 .mul (.int (z.fmod 2305843009213693669)) (.int 89) S = .ok (.int (z.fmod 2305843009213693669 * 89)) S := fun z S => by
    have := fb z 2305843009213693669 (by decide)
    generalize z.fmod 2305843009213693669 = t at *
    exact mul_ok (m := 62) (n := 30) S (by omega) (by decide) (by decide)
  have m2 : ∀ S, op2 .mul (.int 733) (.int spot) S = .ok (.int (733 * spot)) S := fun S => mul_ok (m := 30) (n := 30) S (by decide) (by omega) (by decide)
  have m3 : ∀ S, op2 .mul (.int 173) (.int spot) S = .ok (.int (173 * spot)) S := fun S => mul_ok (m := 30) (n := 30) S (by decide) (by omega) (by decide)
  have m4 : ∀ S, op2 .mul (.int 43) (.int 1) S = .ok (.int 43) S := fun S => rfl
  have m5 : ∀ S, op2 .mul (.int 43) (.int 0) S = .ok (.int 0) S := fun S => rfl
  have en : ∀ a b : Int, endOf S.length (.ret (.ref S.length) (S ++ [[.int a, .int b, .int 0]])) = .ok (.ref S.length) (S ++ [[.int a, .int b, .int 0]]) := fun a b => by
    show Out.ok _ (trim S.length (.ref S.length) (S ++ [[.int a, .int b, .int 0]])) = _
    unfold trim
    have n1 : Nat.beq (S ++ [[D.int a, .int b, .int 0]]).length S.length = false := by
      cases h : Nat.beq (S ++ [[D.int a, .int b, .int 0]]).length S.length with
      | false => rfl
      | true => have := Nat.eq_of_beq_eq_true h; simp at this
    have n2 : refsBelow S.length (.ref S.length) = false := by
      show Nat.ble (S.length + 1) S.length = false
      cases h : Nat.ble (S.length + 1) S.length with
      | false => rfl
      | true => have := Nat.le_of_ble_eq_true h; omega
    rw [n1, n2]; rfl
  have ab : ∀ x : Int, ∃ y, absD (.int x) S = .ok (.int y) S := fun x => ⟨_, rfl⟩
  have mx : ∀ x y : Int, ∃ z, maxD (.int x) (.int y) S = .ok (.int z) S := fun x y => ⟨_, rfl⟩
  have i0 : ∀ x : Int, intD (.int x) S = .ok (.int x) S := fun _ => rfl
  have i2 : intD (.bl true) S = .ok (.int 1) S := rfl
  have i3 : intD (.bl false) S = .ok (.int 0) S := rfl
  by_cases hc : spot < ns.length
  · have hc' : (spot : Int) < ns.length := by omega
    have i1 : item (.scr ns) (.int spot) S = .ok (.int ns[spot]) S := by simp [item, ixAt, hc]
    generalize ns[spot] = x at i1
    obtain ⟨y, hy⟩ := ab x
    obtain ⟨z, hz⟩ := mx 0 (y.fmod q - e)
    by_cases hx : x < 0
    · refine ⟨z, (y.fmod q).fmod 2305843009213693669 * 89 + 733 * spot + 43 + 29, ?_⟩
      rw [R, run_at at_law_dice rfl]
      simp [F_law_dice, startD, l1, hc', i1, i0, hy, h1, h2, h3, mo _ _ _ hq, mo, m1, m2, i2, i3, m4, m5, fits_le, hz, hx]
      exact en _ _
    · refine ⟨z, (y.fmod q).fmod 2305843009213693669 * 89 + 733 * spot + 29, ?_⟩
      rw [R, run_at at_law_dice rfl]
      simp [F_law_dice, startD, l1, hc', i1, i0, hy, h1, h2, h3, mo _ _ _ hq, mo, m1, m2, i2, i3, m4, m5, fits_le, hz, hx]
      exact en _ _
  · have hc' : ¬ (spot : Int) < ns.length := by omega
    obtain ⟨y, hy⟩ := ab (173 * spot + 59)
    obtain ⟨z, hz⟩ := mx 0 (y.fmod q - e)
    have hx : ¬ (173 * (spot : Int) + 59 < 0) := by omega
    refine ⟨z, (y.fmod q).fmod 2305843009213693669 * 89 + 733 * spot + 29, ?_⟩
    rw [R, run_at at_law_dice rfl]
    simp [F_law_dice, startD, l1, hc', m3, i0, hy, h1, h2, h3, mo _ _ _ hq, mo, m1, m2, i2, i3, m4, m5, fits_le, hz, hx]
    exact en _ _
end LW
end
section
set_option Elab.async false
set_option autoImplicit false
set_option linter.all false
set_option maxRecDepth 100000
set_option maxHeartbeats 0
namespace LW
open DL
def m_d0 : List D := [.non, .int (-1), .int 25, .bl true, .str [50], .tup [.int 2]]
def m_d1 : List D := [.non, .tup [], .lst [.tup [.int 1, .int 2], .tup [.int 3, .int 1]], .tup [.tup [.int 1, .int 2]], .tup [.tup [.int 1, .int 2], .int 3], .tup [.tup [.int 2, .int 4], .tup [.int 3, .int 1]], .int 0, .dic]
def m_d2 : List D := [.non, .tup [], .lst [.tup [.tup [.int 1, .int 2], .tup [.int 3, .int 1]], .tup [.int 1, .int 1]], .tup [.tup [.tup [.int 1, .int 2], .tup [.int 3, .int 1]]], .tup [.tup [.tup [.int 1, .int 2], .tup [.int 3, .int 1]], .int 1], .tup [.tup [.tup [.int 1, .int 2]], .tup [.int 1, .int 1]], .int 0, .dic, .tup [.tup [.tup [.int 1, .int 2], .tup [.int 3, .int 1]], .tup [.int 1, .int 1], .int 0]]
def m_d3 (d2 : D) : List D := [.non, .lst [.tup [.tup [.tup [.int 1, .int 2], .tup [.int 3, .int 1]], .tup [.int 1, .int 1]], .tup [.tup [.tup [.int 1, .int 2], .tup [.int 3, .int 1]], .tup [.int 1, .int 1]], .tup [.tup [.tup [.int 1, .int 2], .tup [.int 3, .int 1]], .tup [.int 1, .int 1]]], .tup [d2], .tup [.tup [.tup [.tup [.int 1, .int 2], .tup [.int 3, .int 1]], .tup [.int 1, .int 1]], .tup [.tup [.tup [.int 1, .int 2], .tup [.int 3, .int 1]], .tup [.int 1, .int 1]], .tup [.tup [.tup [.int 1, .int 2], .tup [.int 3, .int 1]], .tup [.int 1, .int 1]], .int 0], .int 0, .dic, .tup [.tup [.tup [.tup [.int 1, .int 2], .tup [.int 3, .int 1]], .tup [.int 1, .int 1]], .tup [.tup [.tup [.int 1, .int 2], .tup [.int 3, .int 1]], .tup [.int 1, .int 1]], .tup [.tup [.tup [.int 1, .int 2], .tup [.int 3, .int 1]], .tup [.int 1, .int 1]], .tup [.tup [.tup [.int 1, .int 2], .tup [.int 3, .int 1]], .tup [.int 1, .int 1]], .tup [.tup [.tup [.int 1, .int 2], .tup [.int 3, .int 1]], .tup [.int 1, .int 1]], .tup [.tup [.tup [.int 1, .int 2], .tup [.int 3, .int 1]], .tup [.int 1, .int 1]], .tup [.tup [.tup [.int 1, .int 2], .tup [.int 3, .int 1]], .tup [.int 1, .int 1]], .tup [.tup [.tup [.int 1, .int 2], .tup [.int 3, .int 1]], .tup [.int 1, .int 1]], .tup [.tup [.tup [.int 1, .int 2], .tup [.int 3, .int 1]], .tup [.int 1, .int 1]], .tup [.tup [.tup [.int 1, .int 2], .tup [.int 3, .int 1]], .tup [.int 1, .int 1]], .tup [.tup [.tup [.int 1, .int 2], .tup [.int 3, .int 1]], .tup [.int 1, .int 1]], .tup [.tup [.tup [.int 1, .int 2], .tup [.int 3, .int 1]], .tup [.int 1, .int 1]], .tup [.tup [.tup [.int 1, .int 2], .tup [.int 3, .int 1]], .tup [.int 1, .int 1]], .tup [.tup [.tup [.int 1, .int 2], .tup [.int 3, .int 1]], .tup [.int 1, .int 1]], .tup [.tup [.tup [.int 1, .int 2], .tup [.int 3, .int 1]], .tup [.int 1, .int 1]], .tup [.tup [.tup [.int 1, .int 2], .tup [.int 3, .int 1]], .tup [.int 1, .int 1]], .tup [.tup [.tup [.int 1, .int 2], .tup [.int 3, .int 1]], .tup [.int 1, .int 1]], .tup [.tup [.tup [.int 1, .int 2], .tup [.int 3, .int 1]], .tup [.int 1, .int 1]], .tup [.tup [.tup [.int 1, .int 2], .tup [.int 3, .int 1]], .tup [.int 1, .int 1]], .tup [.tup [.tup [.int 1, .int 2], .tup [.int 3, .int 1]], .tup [.int 1, .int 1]], .tup [.tup [.tup [.int 1, .int 2], .tup [.int 3, .int 1]], .tup [.int 1, .int 1]], .tup [.tup [.tup [.int 1, .int 2], .tup [.int 3, .int 1]], .tup [.int 1, .int 1]], .tup [.tup [.tup [.int 1, .int 2], .tup [.int 3, .int 1]], .tup [.int 1, .int 1]], .tup [.tup [.tup [.int 1, .int 2], .tup [.int 3, .int 1]], .tup [.int 1, .int 1]], .tup [.tup [.tup [.int 1, .int 2], .tup [.int 3, .int 1]], .tup [.int 1, .int 1]], .tup [.tup [.tup [.int 1, .int 2], .tup [.int 3, .int 1]], .tup [.int 1, .int 1]], .tup [.tup [.tup [.int 1, .int 2], .tup [.int 3, .int 1]], .tup [.int 1, .int 1]], .tup [.tup [.tup [.int 1, .int 2], .tup [.int 3, .int 1]], .tup [.int 1, .int 1]], .tup [.tup [.tup [.int 1, .int 2], .tup [.int 3, .int 1]], .tup [.int 1, .int 1]], .tup [.tup [.tup [.int 1, .int 2], .tup [.int 3, .int 1]], .tup [.int 1, .int 1]], .tup [.tup [.tup [.int 1, .int 2], .tup [.int 3, .int 1]], .tup [.int 1, .int 1]], .tup [.tup [.tup [.int 1, .int 2], .tup [.int 3, .int 1]], .tup [.int 1, .int 1]], .tup [.tup [.tup [.int 1, .int 2], .tup [.int 3, .int 1]], .tup [.int 1, .int 1]], .tup [.tup [.tup [.int 1, .int 2], .tup [.int 3, .int 1]], .tup [.int 1, .int 1]], .tup [.tup [.tup [.int 1, .int 2], .tup [.int 3, .int 1]], .tup [.int 1, .int 1]], .tup [.tup [.tup [.int 1, .int 2], .tup [.int 3, .int 1]], .tup [.int 1, .int 1]], .tup [.tup [.tup [.int 1, .int 2], .tup [.int 3, .int 1]], .tup [.int 1, .int 1]], .tup [.tup [.tup [.int 1, .int 2], .tup [.int 3, .int 1]], .tup [.int 1, .int 1]], .tup [.tup [.tup [.int 1, .int 2], .tup [.int 3, .int 1]], .tup [.int 1, .int 1]], .tup [.tup [.tup [.int 1, .int 2], .tup [.int 3, .int 1]], .tup [.int 1, .int 1]], .tup [.tup [.tup [.int 1, .int 2], .tup [.int 3, .int 1]], .tup [.int 1, .int 1]], .tup [.tup [.tup [.int 1, .int 2], .tup [.int 3, .int 1]], .tup [.int 1, .int 1]]], .str [114, 111, 111, 109]]
theorem t1 (a b c : Int)   : evS (R 38) gcons (F_law_right.body.getD 0 .pass) [some (.ref 0), none, none, none, none, none, none, none, none, none, none] [[.int a, .int b, .int c]] = .nx [some (.ref 0), none, none, none, none, none, none, some (.tup [.tup [.int 1, .int 2], .tup [.int 3, .int 1]]), some (.tup [.tup [.tup [.int 1, .int 1], .tup [.int 0, .int 1]], .tup [.int 5, .int 1]]), none, none] [[.int a, .int b, .int c]] := by
  kernel_rfl
theorem t2 (a b c : Int)   : evS (R 38) gcons (F_law_right.body.getD 1 .pass) [some (.ref 0), none, none, none, none, none, none, some (.tup [.tup [.int 1, .int 2], .tup [.int 3, .int 1]]), some (.tup [.tup [.tup [.int 1, .int 1], .tup [.int 0, .int 1]], .tup [.int 5, .int 1]]), none, none] [[.int a, .int b, .int c]] = .nx [some (.ref 0), none, none, none, none, none, none, some (.tup [.tup [.int 1, .int 2], .tup [.int 3, .int 1]]), some (.tup [.tup [.tup [.int 1, .int 1], .tup [.int 0, .int 1]], .tup [.int 5, .int 1]]), some (.tup [.tup [.tup [.int 1, .int 2], .tup [.int 3, .int 1]], .tup [.int 1, .int 1]]), some (.tup [.tup [.tup [.tup [.int 1, .int 2], .tup [.int 3, .int 1]], .tup [.int 1, .int 1]], .tup [.tup [.tup [.int 1, .int 2], .tup [.int 3, .int 1]], .tup [.int 1, .int 1]], .tup [.tup [.tup [.int 1, .int 2], .tup [.int 3, .int 1]], .tup [.int 1, .int 1]]])] [[.int a, .int b, .int c]] := by
  kernel_rfl
theorem t3 (a b c : Int)   : evEs (R 38) gcons ([(.slot 0), (.lst [(.con .non), (.neg (.con (.int 1))), (.con (.int 25)), (.con (.bl true)), (.con (.str [50])), (.tup [(.con (.int 2))])])]) [some (.ref 0), none, none, none, none, none, none, some (.tup [.tup [.int 1, .int 2], .tup [.int 3, .int 1]]), some (.tup [.tup [.tup [.int 1, .int 1], .tup [.int 0, .int 1]], .tup [.int 5, .int 1]]), some (.tup [.tup [.tup [.int 1, .int 2], .tup [.int 3, .int 1]], .tup [.int 1, .int 1]]), some (.tup [.tup [.tup [.tup [.int 1, .int 2], .tup [.int 3, .int 1]], .tup [.int 1, .int 1]], .tup [.tup [.tup [.int 1, .int 2], .tup [.int 3, .int 1]], .tup [.int 1, .int 1]], .tup [.tup [.tup [.int 1, .int 2], .tup [.int 3, .int 1]], .tup [.int 1, .int 1]]])] [[.int a, .int b, .int c]] = .ok [.ref 0, .lst [.non, .int (-1), .int 25, .bl true, .str [50], .tup [.int 2]]] [[.int a, .int b, .int c]] := by
  kernel_rfl
theorem t5 (a4 b4 c4 : Int) (d0 : D)  : evEs (R 38) gcons ([(.slot 0), (.lst [(.con .non), (.tup []), (.bi .list [(.slot 7)]), (.slc (.slot 7) .none (.some (.con (.int 1)))), (.tup [(.tup [(.con (.int 1)), (.con (.int 2))]), (.con (.int 3))]), (.tup [(.tup [(.con (.int 2)), (.con (.int 4))]), (.tup [(.con (.int 3)), (.con (.int 1))])]), (.con (.int 0)), .dict0])]) [some (.ref 0), some d0, none, none, none, none, none, some (.tup [.tup [.int 1, .int 2], .tup [.int 3, .int 1]]), some (.tup [.tup [.tup [.int 1, .int 1], .tup [.int 0, .int 1]], .tup [.int 5, .int 1]]), some (.tup [.tup [.tup [.int 1, .int 2], .tup [.int 3, .int 1]], .tup [.int 1, .int 1]]), some (.tup [.tup [.tup [.tup [.int 1, .int 2], .tup [.int 3, .int 1]], .tup [.int 1, .int 1]], .tup [.tup [.tup [.int 1, .int 2], .tup [.int 3, .int 1]], .tup [.int 1, .int 1]], .tup [.tup [.tup [.int 1, .int 2], .tup [.int 3, .int 1]], .tup [.int 1, .int 1]]])] [[.int a4, .int b4, .int c4]] = .ok [.ref 0, .lst [.non, .tup [], .lst [.tup [.int 1, .int 2], .tup [.int 3, .int 1]], .tup [.tup [.int 1, .int 2]], .tup [.tup [.int 1, .int 2], .int 3], .tup [.tup [.int 2, .int 4], .tup [.int 3, .int 1]], .int 0, .dic]] [[.int a4, .int b4, .int c4]] := by
  kernel_rfl
theorem t7 (a6 b6 c6 : Int) (d0 : D) (d1 : D)  : evEs (R 38) gcons ([(.slot 0), (.lst [(.con .non), (.tup []), (.bi .list [(.slot 9)]), (.slc (.slot 9) .none (.some (.con (.int 1)))), (.tup [(.slot 7), (.con (.int 1))]), (.tup [(.slc (.slot 7) .none (.some (.con (.int 1)))), (.tup [(.con (.int 1)), (.con (.int 1))])]), (.con (.int 0)), .dict0, (.bin .add (.slot 9) (.tup [(.con (.int 0))]))])]) [some (.ref 0), some d0, some d1, none, none, none, none, some (.tup [.tup [.int 1, .int 2], .tup [.int 3, .int 1]]), some (.tup [.tup [.tup [.int 1, .int 1], .tup [.int 0, .int 1]], .tup [.int 5, .int 1]]), some (.tup [.tup [.tup [.int 1, .int 2], .tup [.int 3, .int 1]], .tup [.int 1, .int 1]]), some (.tup [.tup [.tup [.tup [.int 1, .int 2], .tup [.int 3, .int 1]], .tup [.int 1, .int 1]], .tup [.tup [.tup [.int 1, .int 2], .tup [.int 3, .int 1]], .tup [.int 1, .int 1]], .tup [.tup [.tup [.int 1, .int 2], .tup [.int 3, .int 1]], .tup [.int 1, .int 1]]])] [[.int a6, .int b6, .int c6]] = .ok [.ref 0, .lst [.non, .tup [], .lst [.tup [.tup [.int 1, .int 2], .tup [.int 3, .int 1]], .tup [.int 1, .int 1]], .tup [.tup [.tup [.int 1, .int 2], .tup [.int 3, .int 1]]], .tup [.tup [.tup [.int 1, .int 2], .tup [.int 3, .int 1]], .int 1], .tup [.tup [.tup [.int 1, .int 2]], .tup [.int 1, .int 1]], .int 0, .dic, .tup [.tup [.tup [.int 1, .int 2], .tup [.int 3, .int 1]], .tup [.int 1, .int 1], .int 0]]] [[.int a6, .int b6, .int c6]] := by
  kernel_rfl
theorem t9 (a8 b8 c8 : Int) (d0 : D) (d1 : D) (d2 : D)  : evEs (R 38) gcons ([(.slot 0), (.lst [(.con .non), (.bi .list [(.slot 10)]), (.tup [(.slot 3)]), (.bin .add (.slot 10) (.tup [(.con (.int 0))])), (.con (.int 0)), .dict0, (.bin .mul (.slot 10) (.con (.int 14))), (.con (.str [114, 111, 111, 109]))])]) [some (.ref 0), some d0, some d1, some d2, none, none, none, some (.tup [.tup [.int 1, .int 2], .tup [.int 3, .int 1]]), some (.tup [.tup [.tup [.int 1, .int 1], .tup [.int 0, .int 1]], .tup [.int 5, .int 1]]), some (.tup [.tup [.tup [.int 1, .int 2], .tup [.int 3, .int 1]], .tup [.int 1, .int 1]]), some (.tup [.tup [.tup [.tup [.int 1, .int 2], .tup [.int 3, .int 1]], .tup [.int 1, .int 1]], .tup [.tup [.tup [.int 1, .int 2], .tup [.int 3, .int 1]], .tup [.int 1, .int 1]], .tup [.tup [.tup [.int 1, .int 2], .tup [.int 3, .int 1]], .tup [.int 1, .int 1]]])] [[.int a8, .int b8, .int c8]] = .ok [.ref 0, .lst [.non, .lst [.tup [.tup [.tup [.int 1, .int 2], .tup [.int 3, .int 1]], .tup [.int 1, .int 1]], .tup [.tup [.tup [.int 1, .int 2], .tup [.int 3, .int 1]], .tup [.int 1, .int 1]], .tup [.tup [.tup [.int 1, .int 2], .tup [.int 3, .int 1]], .tup [.int 1, .int 1]]], .tup [d2], .tup [.tup [.tup [.tup [.int 1, .int 2], .tup [.int 3, .int 1]], .tup [.int 1, .int 1]], .tup [.tup [.tup [.int 1, .int 2], .tup [.int 3, .int 1]], .tup [.int 1, .int 1]], .tup [.tup [.tup [.int 1, .int 2], .tup [.int 3, .int 1]], .tup [.int 1, .int 1]], .int 0], .int 0, .dic, .tup [.tup [.tup [.tup [.int 1, .int 2], .tup [.int 3, .int 1]], .tup [.int 1, .int 1]], .tup [.tup [.tup [.int 1, .int 2], .tup [.int 3, .int 1]], .tup [.int 1, .int 1]], .tup [.tup [.tup [.int 1, .int 2], .tup [.int 3, .int 1]], .tup [.int 1, .int 1]], .tup [.tup [.tup [.int 1, .int 2], .tup [.int 3, .int 1]], .tup [.int 1, .int 1]], .tup [.tup [.tup [.int 1, .int 2], .tup [.int 3, .int 1]], .tup [.int 1, .int 1]], .tup [.tup [.tup [.int 1, .int 2], .tup [.int 3, .int 1]], .tup [.int 1, .int 1]], .tup [.tup [.tup [.int 1, .int 2], .tup [.int 3, .int 1]], .tup [.int 1, .int 1]], .tup [.tup [.tup [.int 1, .int 2], .tup [.int 3, .int 1]], .tup [.int 1, .int 1]], .tup [.tup [.tup [.int 1, .int 2], .tup [.int 3, .int 1]], .tup [.int 1, .int 1]], .tup [.tup [.tup [.int 1, .int 2], .tup [.int 3, .int 1]], .tup [.int 1, .int 1]], .tup [.tup [.tup [.int 1, .int 2], .tup [.int 3, .int 1]], .tup [.int 1, .int 1]], .tup [.tup [.tup [.int 1, .int 2], .tup [.int 3, .int 1]], .tup [.int 1, .int 1]], .tup [.tup [.tup [.int 1, .int 2], .tup [.int 3, .int 1]], .tup [.int 1, .int 1]], .tup [.tup [.tup [.int 1, .int 2], .tup [.int 3, .int 1]], .tup [.int 1, .int 1]], .tup [.tup [.tup [.int 1, .int 2], .tup [.int 3, .int 1]], .tup [.int 1, .int 1]], .tup [.tup [.tup [.int 1, .int 2], .tup [.int 3, .int 1]], .tup [.int 1, .int 1]], .tup [.tup [.tup [.int 1, .int 2], .tup [.int 3, .int 1]], .tup [.int 1, .int 1]], .tup [.tup [.tup [.int 1, .int 2], .tup [.int 3, .int 1]], .tup [.int 1, .int 1]], .tup [.tup [.tup [.int 1, .int 2], .tup [.int 3, .int 1]], .tup [.int 1, .int 1]], .tup [.tup [.tup [.int 1, .int 2], .tup [.int 3, .int 1]], .tup [.int 1, .int 1]], .tup [.tup [.tup [.int 1, .int 2], .tup [.int 3, .int 1]], .tup [.int 1, .int 1]], .tup [.tup [.tup [.int 1, .int 2], .tup [.int 3, .int 1]], .tup [.int 1, .int 1]], .tup [.tup [.tup [.int 1, .int 2], .tup [.int 3, .int 1]], .tup [.int 1, .int 1]], .tup [.tup [.tup [.int 1, .int 2], .tup [.int 3, .int 1]], .tup [.int 1, .int 1]], .tup [.tup [.tup [.int 1, .int 2], .tup [.int 3, .int 1]], .tup [.int 1, .int 1]], .tup [.tup [.tup [.int 1, .int 2], .tup [.int 3, .int 1]], .tup [.int 1, .int 1]], .tup [.tup [.tup [.int 1, .int 2], .tup [.int 3, .int 1]], .tup [.int 1, .int 1]], .tup [.tup [.tup [.int 1, .int 2], .tup [.int 3, .int 1]], .tup [.int 1, .int 1]], .tup [.tup [.tup [.int 1, .int 2], .tup [.int 3, .int 1]], .tup [.int 1, .int 1]], .tup [.tup [.tup [.int 1, .int 2], .tup [.int 3, .int 1]], .tup [.int 1, .int 1]], .tup [.tup [.tup [.int 1, .int 2], .tup [.int 3, .int 1]], .tup [.int 1, .int 1]], .tup [.tup [.tup [.int 1, .int 2], .tup [.int 3, .int 1]], .tup [.int 1, .int 1]], .tup [.tup [.tup [.int 1, .int 2], .tup [.int 3, .int 1]], .tup [.int 1, .int 1]], .tup [.tup [.tup [.int 1, .int 2], .tup [.int 3, .int 1]], .tup [.int 1, .int 1]], .tup [.tup [.tup [.int 1, .int 2], .tup [.int 3, .int 1]], .tup [.int 1, .int 1]], .tup [.tup [.tup [.int 1, .int 2], .tup [.int 3, .int 1]], .tup [.int 1, .int 1]], .tup [.tup [.tup [.int 1, .int 2], .tup [.int 3, .int 1]], .tup [.int 1, .int 1]], .tup [.tup [.tup [.int 1, .int 2], .tup [.int 3, .int 1]], .tup [.int 1, .int 1]], .tup [.tup [.tup [.int 1, .int 2], .tup [.int 3, .int 1]], .tup [.int 1, .int 1]], .tup [.tup [.tup [.int 1, .int 2], .tup [.int 3, .int 1]], .tup [.int 1, .int 1]], .tup [.tup [.tup [.int 1, .int 2], .tup [.int 3, .int 1]], .tup [.int 1, .int 1]], .tup [.tup [.tup [.int 1, .int 2], .tup [.int 3, .int 1]], .tup [.int 1, .int 1]]], .str [114, 111, 111, 109]]] [[.int a8, .int b8, .int c8]] := by
  kernel_rfl
theorem t11 (a10 b10 c10 : Int) (d0 : D) (d1 : D) (d2 : D) (d3 : D)  : evS (R 38) gcons (F_law_right.body.getD 6 .pass) [some (.ref 0), some d0, some d1, some d2, some d3, none, none, some (.tup [.tup [.int 1, .int 2], .tup [.int 3, .int 1]]), some (.tup [.tup [.tup [.int 1, .int 1], .tup [.int 0, .int 1]], .tup [.int 5, .int 1]]), some (.tup [.tup [.tup [.int 1, .int 2], .tup [.int 3, .int 1]], .tup [.int 1, .int 1]]), some (.tup [.tup [.tup [.tup [.int 1, .int 2], .tup [.int 3, .int 1]], .tup [.int 1, .int 1]], .tup [.tup [.tup [.int 1, .int 2], .tup [.int 3, .int 1]], .tup [.int 1, .int 1]], .tup [.tup [.tup [.int 1, .int 2], .tup [.int 3, .int 1]], .tup [.int 1, .int 1]]])] [[.int a10, .int b10, .int c10]] = .nx [some (.ref 0), some d0, some d1, some d2, some d3, some (.ref 1), none, some (.tup [.tup [.int 1, .int 2], .tup [.int 3, .int 1]]), some (.tup [.tup [.tup [.int 1, .int 1], .tup [.int 0, .int 1]], .tup [.int 5, .int 1]]), some (.tup [.tup [.tup [.int 1, .int 2], .tup [.int 3, .int 1]], .tup [.int 1, .int 1]]), some (.tup [.tup [.tup [.tup [.int 1, .int 2], .tup [.int 3, .int 1]], .tup [.int 1, .int 1]], .tup [.tup [.tup [.int 1, .int 2], .tup [.int 3, .int 1]], .tup [.int 1, .int 1]], .tup [.tup [.tup [.int 1, .int 2], .tup [.int 3, .int 1]], .tup [.int 1, .int 1]]])] [[.int a10, .int b10, .int c10], []] := by
  kernel_rfl
theorem t12 (a10 b10 c10 : Int) (d0 : D) (d1 : D) (d2 : D) (d3 : D)  : evI (R 38) gcons ((.seq (.tup [(.gfn 25), (.gfn 26)]))) [some (.ref 0), some d0, some d1, some d2, some d3, some (.ref 1), none, some (.tup [.tup [.int 1, .int 2], .tup [.int 3, .int 1]]), some (.tup [.tup [.tup [.int 1, .int 1], .tup [.int 0, .int 1]], .tup [.int 5, .int 1]]), some (.tup [.tup [.tup [.int 1, .int 2], .tup [.int 3, .int 1]], .tup [.int 1, .int 1]]), some (.tup [.tup [.tup [.tup [.int 1, .int 2], .tup [.int 3, .int 1]], .tup [.int 1, .int 1]], .tup [.tup [.tup [.int 1, .int 2], .tup [.int 3, .int 1]], .tup [.int 1, .int 1]], .tup [.tup [.tup [.int 1, .int 2], .tup [.int 3, .int 1]], .tup [.int 1, .int 1]]])] [[.int a10, .int b10, .int c10], []] = .ok [.fn 25, .fn 26] [[.int a10, .int b10, .int c10], []] := by
  kernel_rfl
theorem t13 (a10 b10 c10 : Int) (d0 : D) (d1 : D) (d2 : D) (d3 : D) (h_d0 : d0 ∈ m_d0) : evS (R 38) gcons ((blk (F_law_right.body.getD 7 .pass)).getD 0 .pass) [some (.ref 0), some d0, some d1, some d2, some d3, some (.ref 1), some (.fn 25), some (.tup [.tup [.int 1, .int 2], .tup [.int 3, .int 1]]), some (.tup [.tup [.tup [.int 1, .int 1], .tup [.int 0, .int 1]], .tup [.int 5, .int 1]]), some (.tup [.tup [.tup [.int 1, .int 2], .tup [.int 3, .int 1]], .tup [.int 1, .int 1]]), some (.tup [.tup [.tup [.tup [.int 1, .int 2], .tup [.int 3, .int 1]], .tup [.int 1, .int 1]], .tup [.tup [.tup [.int 1, .int 2], .tup [.int 3, .int 1]], .tup [.int 1, .int 1]], .tup [.tup [.tup [.int 1, .int 2], .tup [.int 3, .int 1]], .tup [.int 1, .int 1]]])] [[.int a10, .int b10, .int c10], []] = .nx [some (.ref 0), some d0, some d1, some d2, some d3, some (.ref 1), some (.fn 25), some (.tup [.tup [.int 1, .int 2], .tup [.int 3, .int 1]]), some (.tup [.tup [.tup [.int 1, .int 1], .tup [.int 0, .int 1]], .tup [.int 5, .int 1]]), some (.tup [.tup [.tup [.int 1, .int 2], .tup [.int 3, .int 1]], .tup [.int 1, .int 1]]), some (.tup [.tup [.tup [.tup [.int 1, .int 2], .tup [.int 3, .int 1]], .tup [.int 1, .int 1]], .tup [.tup [.tup [.int 1, .int 2], .tup [.int 3, .int 1]], .tup [.int 1, .int 1]], .tup [.tup [.tup [.int 1, .int 2], .tup [.int 3, .int 1]], .tup [.int 1, .int 1]]])] [[.int a10, .int b10, .int c10], [.str [119, 105, 100, 116, 104]]] := by
  simp only [m_d0, List.mem_cons, List.not_mem_nil, or_false] at h_d0
  rcases h_d0 with rfl | rfl | rfl | rfl | rfl | rfl <;> kernel_rfl
theorem t14 (a10 b10 c10 : Int) (d0 : D) (d1 : D) (d2 : D) (d3 : D) (h_d2 : d2 ∈ m_d2) : evS (R 38) gcons ((blk (F_law_right.body.getD 7 .pass)).getD 1 .pass) [some (.ref 0), some d0, some d1, some d2, some d3, some (.ref 1), some (.fn 25), some (.tup [.tup [.int 1, .int 2], .tup [.int 3, .int 1]]), some (.tup [.tup [.tup [.int 1, .int 1], .tup [.int 0, .int 1]], .tup [.int 5, .int 1]]), some (.tup [.tup [.tup [.int 1, .int 2], .tup [.int 3, .int 1]], .tup [.int 1, .int 1]]), some (.tup [.tup [.tup [.tup [.int 1, .int 2], .tup [.int 3, .int 1]], .tup [.int 1, .int 1]], .tup [.tup [.tup [.int 1, .int 2], .tup [.int 3, .int 1]], .tup [.int 1, .int 1]], .tup [.tup [.tup [.int 1, .int 2], .tup [.int 3, .int 1]], .tup [.int 1, .int 1]]])] [[.int a10, .int b10, .int c10], [.str [119, 105, 100, 116, 104]]] = .nx [some (.ref 0), some d0, some d1, some d2, some d3, some (.ref 1), some (.fn 25), some (.tup [.tup [.int 1, .int 2], .tup [.int 3, .int 1]]), some (.tup [.tup [.tup [.int 1, .int 1], .tup [.int 0, .int 1]], .tup [.int 5, .int 1]]), some (.tup [.tup [.tup [.int 1, .int 2], .tup [.int 3, .int 1]], .tup [.int 1, .int 1]]), some (.tup [.tup [.tup [.tup [.int 1, .int 2], .tup [.int 3, .int 1]], .tup [.int 1, .int 1]], .tup [.tup [.tup [.int 1, .int 2], .tup [.int 3, .int 1]], .tup [.int 1, .int 1]], .tup [.tup [.tup [.int 1, .int 2], .tup [.int 3, .int 1]], .tup [.int 1, .int 1]]])] [[.int a10, .int b10, .int c10], [.str [119, 105, 100, 116, 104], .str [102, 101, 110, 99, 101]]] := by
  simp only [m_d2, List.mem_cons, List.not_mem_nil, or_false] at h_d2
  rcases h_d2 with rfl | rfl | rfl | rfl | rfl | rfl | rfl | rfl | rfl <;> kernel_rfl
theorem t15 (a10 b10 c10 : Int) (d0 : D) (d1 : D) (d2 : D) (d3 : D) (h_d1 : d1 ∈ m_d1) : evS (R 38) gcons ((blk (F_law_right.body.getD 7 .pass)).getD 2 .pass) [some (.ref 0), some d0, some d1, some d2, some d3, some (.ref 1), some (.fn 25), some (.tup [.tup [.int 1, .int 2], .tup [.int 3, .int 1]]), some (.tup [.tup [.tup [.int 1, .int 1], .tup [.int 0, .int 1]], .tup [.int 5, .int 1]]), some (.tup [.tup [.tup [.int 1, .int 2], .tup [.int 3, .int 1]], .tup [.int 1, .int 1]]), some (.tup [.tup [.tup [.tup [.int 1, .int 2], .tup [.int 3, .int 1]], .tup [.int 1, .int 1]], .tup [.tup [.tup [.int 1, .int 2], .tup [.int 3, .int 1]], .tup [.int 1, .int 1]], .tup [.tup [.tup [.int 1, .int 2], .tup [.int 3, .int 1]], .tup [.int 1, .int 1]]])] [[.int a10, .int b10, .int c10], [.str [119, 105, 100, 116, 104], .str [102, 101, 110, 99, 101]]] = .nx [some (.ref 0), some d0, some d1, some d2, some d3, some (.ref 1), some (.fn 25), some (.tup [.tup [.int 1, .int 2], .tup [.int 3, .int 1]]), some (.tup [.tup [.tup [.int 1, .int 1], .tup [.int 0, .int 1]], .tup [.int 5, .int 1]]), some (.tup [.tup [.tup [.int 1, .int 2], .tup [.int 3, .int 1]], .tup [.int 1, .int 1]]), some (.tup [.tup [.tup [.tup [.int 1, .int 2], .tup [.int 3, .int 1]], .tup [.int 1, .int 1]], .tup [.tup [.tup [.int 1, .int 2], .tup [.int 3, .int 1]], .tup [.int 1, .int 1]], .tup [.tup [.tup [.int 1, .int 2], .tup [.int 3, .int 1]], .tup [.int 1, .int 1]]])] [[.int a10, .int b10, .int c10], [.str [119, 105, 100, 116, 104], .str [102, 101, 110, 99, 101], .str [114, 111, 119]]] := by
  simp only [m_d1, List.mem_cons, List.not_mem_nil, or_false] at h_d1
  rcases h_d1 with rfl | rfl | rfl | rfl | rfl | rfl | rfl | rfl <;> kernel_rfl
theorem t16 (a10 b10 c10 : Int) (d0 : D) (d1 : D) (d2 : D) (d3 : D)  : evS (R 38) gcons ((blk (F_law_right.body.getD 7 .pass)).getD 3 .pass) [some (.ref 0), some d0, some d1, some d2, some d3, some (.ref 1), some (.fn 25), some (.tup [.tup [.int 1, .int 2], .tup [.int 3, .int 1]]), some (.tup [.tup [.tup [.int 1, .int 1], .tup [.int 0, .int 1]], .tup [.int 5, .int 1]]), some (.tup [.tup [.tup [.int 1, .int 2], .tup [.int 3, .int 1]], .tup [.int 1, .int 1]]), some (.tup [.tup [.tup [.tup [.int 1, .int 2], .tup [.int 3, .int 1]], .tup [.int 1, .int 1]], .tup [.tup [.tup [.int 1, .int 2], .tup [.int 3, .int 1]], .tup [.int 1, .int 1]], .tup [.tup [.tup [.int 1, .int 2], .tup [.int 3, .int 1]], .tup [.int 1, .int 1]]])] [[.int a10, .int b10, .int c10], [.str [119, 105, 100, 116, 104], .str [102, 101, 110, 99, 101], .str [114, 111, 119]]] = .nx [some (.ref 0), some d0, some d1, some d2, some d3, some (.ref 1), some (.fn 25), some (.tup [.tup [.int 1, .int 2], .tup [.int 3, .int 1]]), some (.tup [.tup [.tup [.int 1, .int 1], .tup [.int 0, .int 1]], .tup [.int 5, .int 1]]), some (.tup [.tup [.tup [.int 1, .int 2], .tup [.int 3, .int 1]], .tup [.int 1, .int 1]]), some (.tup [.tup [.tup [.tup [.int 1, .int 2], .tup [.int 3, .int 1]], .tup [.int 1, .int 1]], .tup [.tup [.tup [.int 1, .int 2], .tup [.int 3, .int 1]], .tup [.int 1, .int 1]], .tup [.tup [.tup [.int 1, .int 2], .tup [.int 3, .int 1]], .tup [.int 1, .int 1]]])] [[.int a10, .int b10, .int c10], [.str [119, 105, 100, 116, 104], .str [102, 101, 110, 99, 101], .str [114, 111, 119], .str [102, 105, 110, 101]]] := by
  kernel_rfl
theorem t17 (a10 b10 c10 : Int) (d0 : D) (d1 : D) (d2 : D) (d3 : D) (h_d0 : d0 ∈ m_d0) : evS (R 38) gcons ((blk (F_law_right.body.getD 7 .pass)).getD 0 .pass) [some (.ref 0), some d0, some d1, some d2, some d3, some (.ref 1), some (.fn 26), some (.tup [.tup [.int 1, .int 2], .tup [.int 3, .int 1]]), some (.tup [.tup [.tup [.int 1, .int 1], .tup [.int 0, .int 1]], .tup [.int 5, .int 1]]), some (.tup [.tup [.tup [.int 1, .int 2], .tup [.int 3, .int 1]], .tup [.int 1, .int 1]]), some (.tup [.tup [.tup [.tup [.int 1, .int 2], .tup [.int 3, .int 1]], .tup [.int 1, .int 1]], .tup [.tup [.tup [.int 1, .int 2], .tup [.int 3, .int 1]], .tup [.int 1, .int 1]], .tup [.tup [.tup [.int 1, .int 2], .tup [.int 3, .int 1]], .tup [.int 1, .int 1]]])] [[.int a10, .int b10, .int c10], [.str [119, 105, 100, 116, 104], .str [102, 101, 110, 99, 101], .str [114, 111, 119], .str [102, 105, 110, 101]]] = .nx [some (.ref 0), some d0, some d1, some d2, some d3, some (.ref 1), some (.fn 26), some (.tup [.tup [.int 1, .int 2], .tup [.int 3, .int 1]]), some (.tup [.tup [.tup [.int 1, .int 1], .tup [.int 0, .int 1]], .tup [.int 5, .int 1]]), some (.tup [.tup [.tup [.int 1, .int 2], .tup [.int 3, .int 1]], .tup [.int 1, .int 1]]), some (.tup [.tup [.tup [.tup [.int 1, .int 2], .tup [.int 3, .int 1]], .tup [.int 1, .int 1]], .tup [.tup [.tup [.int 1, .int 2], .tup [.int 3, .int 1]], .tup [.int 1, .int 1]], .tup [.tup [.tup [.int 1, .int 2], .tup [.int 3, .int 1]], .tup [.int 1, .int 1]]])] [[.int a10, .int b10, .int c10], [.str [119, 105, 100, 116, 104], .str [102, 101, 110, 99, 101], .str [114, 111, 119], .str [102, 105, 110, 101], .str [119, 105, 100, 116, 104]]] := by
  simp only [m_d0, List.mem_cons, List.not_mem_nil, or_false] at h_d0
  rcases h_d0 with rfl | rfl | rfl | rfl | rfl | rfl <;> kernel_rfl
theorem t18 (a10 b10 c10 : Int) (d0 : D) (d1 : D) (d2 : D) (d3 : D) (h_d2 : d2 ∈ m_d2) : evS (R 38) gcons ((blk (F_law_right.body.getD 7 .pass)).getD 1 .pass) [some (.ref 0), some d0, some d1, some d2, some d3, some (.ref 1), some (.fn 26), some (.tup [.tup [.int 1, .int 2], .tup [.int 3, .int 1]]), some (.tup [.tup [.tup [.int 1, .int 1], .tup [.int 0, .int 1]], .tup [.int 5, .int 1]]), some (.tup [.tup [.tup [.int 1, .int 2], .tup [.int 3, .int 1]], .tup [.int 1, .int 1]]), some (.tup [.tup [.tup [.tup [.int 1, .int 2], .tup [.int 3, .int 1]], .tup [.int 1, .int 1]], .tup [.tup [.tup [.int 1, .int 2], .tup [.int 3, .int 1]], .tup [.int 1, .int 1]], .tup [.tup [.tup [.int 1, .int 2], .tup [.int 3, .int 1]], .tup [.int 1, .int 1]]])] [[.int a10, .int b10, .int c10], [.str [119, 105, 100, 116, 104], .str [102, 101, 110, 99, 101], .str [114, 111, 119], .str [102, 105, 110, 101], .str [119, 105, 100, 116, 104]]] = .nx [some (.ref 0), some d0, some d1, some d2, some d3, some (.ref 1), some (.fn 26), some (.tup [.tup [.int 1, .int 2], .tup [.int 3, .int 1]]), some (.tup [.tup [.tup [.int 1, .int 1], .tup [.int 0, .int 1]], .tup [.int 5, .int 1]]), some (.tup [.tup [.tup [.int 1, .int 2], .tup [.int 3, .int 1]], .tup [.int 1, .int 1]]), some (.tup [.tup [.tup [.tup [.int 1, .int 2], .tup [.int 3, .int 1]], .tup [.int 1, .int 1]], .tup [.tup [.tup [.int 1, .int 2], .tup [.int 3, .int 1]], .tup [.int 1, .int 1]], .tup [.tup [.tup [.int 1, .int 2], .tup [.int 3, .int 1]], .tup [.int 1, .int 1]]])] [[.int a10, .int b10, .int c10], [.str [119, 105, 100, 116, 104], .str [102, 101, 110, 99, 101], .str [114, 111, 119], .str [102, 105, 110, 101], .str [119, 105, 100, 116, 104], .str [102, 101, 110, 99, 101]]] := by
  simp only [m_d2, List.mem_cons, List.not_mem_nil, or_false] at h_d2
  rcases h_d2 with rfl | rfl | rfl | rfl | rfl | rfl | rfl | rfl | rfl <;> kernel_rfl
theorem t19 (a10 b10 c10 : Int) (d0 : D) (d1 : D) (d2 : D) (d3 : D) (h_d1 : d1 ∈ m_d1) : evS (R 38) gcons ((blk (F_law_right.body.getD 7 .pass)).getD 2 .pass) [some (.ref 0), some d0, some d1, some d2, some d3, some (.ref 1), some (.fn 26), some (.tup [.tup [.int 1, .int 2], .tup [.int 3, .int 1]]), some (.tup [.tup [.tup [.int 1, .int 1], .tup [.int 0, .int 1]], .tup [.int 5, .int 1]]), some (.tup [.tup [.tup [.int 1, .int 2], .tup [.int 3, .int 1]], .tup [.int 1, .int 1]]), some (.tup [.tup [.tup [.tup [.int 1, .int 2], .tup [.int 3, .int 1]], .tup [.int 1, .int 1]], .tup [.tup [.tup [.int 1, .int 2], .tup [.int 3, .int 1]], .tup [.int 1, .int 1]], .tup [.tup [.tup [.int 1, .int 2], .tup [.int 3, .int 1]], .tup [.int 1, .int 1]]])] [[.int a10, .int b10, .int c10], [.str [119, 105, 100, 116, 104], .str [102, 101, 110, 99, 101], .str [114, 111, 119], .str [102, 105, 110, 101], .str [119, 105, 100, 116, 104], .str [102, 101, 110, 99, 101]]] = .nx [some (.ref 0), some d0, some d1, some d2, some d3, some (.ref 1), some (.fn 26), some (.tup [.tup [.int 1, .int 2], .tup [.int 3, .int 1]]), some (.tup [.tup [.tup [.int 1, .int 1], .tup [.int 0, .int 1]], .tup [.int 5, .int 1]]), some (.tup [.tup [.tup [.int 1, .int 2], .tup [.int 3, .int 1]], .tup [.int 1, .int 1]]), some (.tup [.tup [.tup [.tup [.int 1, .int 2], .tup [.int 3, .int 1]], .tup [.int 1, .int 1]], .tup [.tup [.tup [.int 1, .int 2], .tup [.int 3, .int 1]], .tup [.int 1, .int 1]], .tup [.tup [.tup [.int 1, .int 2], .tup [.int 3, .int 1]], .tup [.int 1, .int 1]]])] [[.int a10, .int b10, .int c10], [.str [119, 105, 100, 116, 104], .str [102, 101, 110, 99, 101], .str [114, 111, 119], .str [102, 105, 110, 101], .str [119, 105, 100, 116, 104], .str [102, 101, 110, 99, 101], .str [114, 111, 119]]] := by
  simp only [m_d1, List.mem_cons, List.not_mem_nil, or_false] at h_d1
  rcases h_d1 with rfl | rfl | rfl | rfl | rfl | rfl | rfl | rfl <;> kernel_rfl
theorem t20 (a10 b10 c10 : Int) (d0 : D) (d1 : D) (d2 : D) (d3 : D)  : evS (R 38) gcons ((blk (F_law_right.body.getD 7 .pass)).getD 3 .pass) [some (.ref 0), some d0, some d1, some d2, some d3, some (.ref 1), some (.fn 26), some (.tup [.tup [.int 1, .int 2], .tup [.int 3, .int 1]]), some (.tup [.tup [.tup [.int 1, .int 1], .tup [.int 0, .int 1]], .tup [.int 5, .int 1]]), some (.tup [.tup [.tup [.int 1, .int 2], .tup [.int 3, .int 1]], .tup [.int 1, .int 1]]), some (.tup [.tup [.tup [.tup [.int 1, .int 2], .tup [.int 3, .int 1]], .tup [.int 1, .int 1]], .tup [.tup [.tup [.int 1, .int 2], .tup [.int 3, .int 1]], .tup [.int 1, .int 1]], .tup [.tup [.tup [.int 1, .int 2], .tup [.int 3, .int 1]], .tup [.int 1, .int 1]]])] [[.int a10, .int b10, .int c10], [.str [119, 105, 100, 116, 104], .str [102, 101, 110, 99, 101], .str [114, 111, 119], .str [102, 105, 110, 101], .str [119, 105, 100, 116, 104], .str [102, 101, 110, 99, 101], .str [114, 111, 119]]] = .nx [some (.ref 0), some d0, some d1, some d2, some d3, some (.ref 1), some (.fn 26), some (.tup [.tup [.int 1, .int 2], .tup [.int 3, .int 1]]), some (.tup [.tup [.tup [.int 1, .int 1], .tup [.int 0, .int 1]], .tup [.int 5, .int 1]]), some (.tup [.tup [.tup [.int 1, .int 2], .tup [.int 3, .int 1]], .tup [.int 1, .int 1]]), some (.tup [.tup [.tup [.tup [.int 1, .int 2], .tup [.int 3, .int 1]], .tup [.int 1, .int 1]], .tup [.tup [.tup [.int 1, .int 2], .tup [.int 3, .int 1]], .tup [.int 1, .int 1]], .tup [.tup [.tup [.int 1, .int 2], .tup [.int 3, .int 1]], .tup [.int 1, .int 1]]])] [[.int a10, .int b10, .int c10], [.str [119, 105, 100, 116, 104], .str [102, 101, 110, 99, 101], .str [114, 111, 119], .str [102, 105, 110, 101], .str [119, 105, 100, 116, 104], .str [102, 101, 110, 99, 101], .str [114, 111, 119], .str [102, 105, 110, 101]]] := by
  kernel_rfl
theorem t21 (a10 b10 c10 : Int) (d0 : D) (d1 : D) (d2 : D) (d3 : D)  : evS (R 38) gcons (F_law_right.body.getD 8 .pass) [some (.ref 0), some d0, some d1, some d2, some d3, some (.ref 1), some (.fn 26), some (.tup [.tup [.int 1, .int 2], .tup [.int 3, .int 1]]), some (.tup [.tup [.tup [.int 1, .int 1], .tup [.int 0, .int 1]], .tup [.int 5, .int 1]]), some (.tup [.tup [.tup [.int 1, .int 2], .tup [.int 3, .int 1]], .tup [.int 1, .int 1]]), some (.tup [.tup [.tup [.tup [.int 1, .int 2], .tup [.int 3, .int 1]], .tup [.int 1, .int 1]], .tup [.tup [.tup [.int 1, .int 2], .tup [.int 3, .int 1]], .tup [.int 1, .int 1]], .tup [.tup [.tup [.int 1, .int 2], .tup [.int 3, .int 1]], .tup [.int 1, .int 1]]])] [[.int a10, .int b10, .int c10], [.str [119, 105, 100, 116, 104], .str [102, 101, 110, 99, 101], .str [114, 111, 119], .str [102, 105, 110, 101], .str [119, 105, 100, 116, 104], .str [102, 101, 110, 99, 101], .str [114, 111, 119], .str [102, 105, 110, 101]]] = .nx [some (.ref 0), some d0, some d1, some d2, some d3, some (.ref 1), some (.fn 26), some (.tup [.tup [.int 1, .int 2], .tup [.int 3, .int 1]]), some (.tup [.tup [.tup [.int 1, .int 1], .tup [.int 0, .int 1]], .tup [.int 5, .int 1]]), some (.tup [.tup [.tup [.int 1, .int 2], .tup [.int 3, .int 1]], .tup [.int 1, .int 1]]), some (.tup [.tup [.tup [.tup [.int 1, .int 2], .tup [.int 3, .int 1]], .tup [.int 1, .int 1]], .tup [.tup [.tup [.int 1, .int 2], .tup [.int 3, .int 1]], .tup [.int 1, .int 1]], .tup [.tup [.tup [.int 1, .int 2], .tup [.int 3, .int 1]], .tup [.int 1, .int 1]]])] [[.int a10, .int b10, .int c10], [.str [119, 105, 100, 116, 104], .str [102, 101, 110, 99, 101], .str [114, 111, 119], .str [102, 105, 110, 101], .str [119, 105, 100, 116, 104], .str [102, 101, 110, 99, 101], .str [114, 111, 119], .str [102, 105, 110, 101]]] := by
  kernel_rfl
theorem t22 (a10 b10 c10 : Int) (d0 : D) (d1 : D) (d2 : D) (d3 : D)  : evS (R 38) gcons (F_law_right.body.getD 9 .pass) [some (.ref 0), some d0, some d1, some d2, some d3, some (.ref 1), some (.fn 26), some (.tup [.tup [.int 1, .int 2], .tup [.int 3, .int 1]]), some (.tup [.tup [.tup [.int 1, .int 1], .tup [.int 0, .int 1]], .tup [.int 5, .int 1]]), some (.tup [.tup [.tup [.int 1, .int 2], .tup [.int 3, .int 1]], .tup [.int 1, .int 1]]), some (.tup [.tup [.tup [.tup [.int 1, .int 2], .tup [.int 3, .int 1]], .tup [.int 1, .int 1]], .tup [.tup [.tup [.int 1, .int 2], .tup [.int 3, .int 1]], .tup [.int 1, .int 1]], .tup [.tup [.tup [.int 1, .int 2], .tup [.int 3, .int 1]], .tup [.int 1, .int 1]]])] [[.int a10, .int b10, .int c10], [.str [119, 105, 100, 116, 104], .str [102, 101, 110, 99, 101], .str [114, 111, 119], .str [102, 105, 110, 101], .str [119, 105, 100, 116, 104], .str [102, 101, 110, 99, 101], .str [114, 111, 119], .str [102, 105, 110, 101]]] = .nx [some (.ref 0), some d0, some d1, some d2, some d3, some (.ref 2), some (.fn 26), some (.tup [.tup [.int 1, .int 2], .tup [.int 3, .int 1]]), some (.tup [.tup [.tup [.int 1, .int 1], .tup [.int 0, .int 1]], .tup [.int 5, .int 1]]), some (.tup [.tup [.tup [.int 1, .int 2], .tup [.int 3, .int 1]], .tup [.int 1, .int 1]]), some (.tup [.tup [.tup [.tup [.int 1, .int 2], .tup [.int 3, .int 1]], .tup [.int 1, .int 1]], .tup [.tup [.tup [.int 1, .int 2], .tup [.int 3, .int 1]], .tup [.int 1, .int 1]], .tup [.tup [.tup [.int 1, .int 2], .tup [.int 3, .int 1]], .tup [.int 1, .int 1]]])] [[.int a10, .int b10, .int c10], [.str [119, 105, 100, 116, 104], .str [102, 101, 110, 99, 101], .str [114, 111, 119], .str [102, 105, 110, 101], .str [119, 105, 100, 116, 104], .str [102, 101, 110, 99, 101], .str [114, 111, 119], .str [102, 105, 110, 101]], []] := by
  kernel_rfl
theorem t23 (a10 b10 c10 : Int) (d0 : D) (d1 : D) (d2 : D) (d3 : D)  : evI (R 38) gcons ((.seq (.tup [(.gfn 31), (.gfn 32)]))) [some (.ref 0), some d0, some d1, some d2, some d3, some (.ref 2), some (.fn 26), some (.tup [.tup [.int 1, .int 2], .tup [.int 3, .int 1]]), some (.tup [.tup [.tup [.int 1, .int 1], .tup [.int 0, .int 1]], .tup [.int 5, .int 1]]), some (.tup [.tup [.tup [.int 1, .int 2], .tup [.int 3, .int 1]], .tup [.int 1, .int 1]]), some (.tup [.tup [.tup [.tup [.int 1, .int 2], .tup [.int 3, .int 1]], .tup [.int 1, .int 1]], .tup [.tup [.tup [.int 1, .int 2], .tup [.int 3, .int 1]], .tup [.int 1, .int 1]], .tup [.tup [.tup [.int 1, .int 2], .tup [.int 3, .int 1]], .tup [.int 1, .int 1]]])] [[.int a10, .int b10, .int c10], [.str [119, 105, 100, 116, 104], .str [102, 101, 110, 99, 101], .str [114, 111, 119], .str [102, 105, 110, 101], .str [119, 105, 100, 116, 104], .str [102, 101, 110, 99, 101], .str [114, 111, 119], .str [102, 105, 110, 101]], []] = .ok [.fn 31, .fn 32] [[.int a10, .int b10, .int c10], [.str [119, 105, 100, 116, 104], .str [102, 101, 110, 99, 101], .str [114, 111, 119], .str [102, 105, 110, 101], .str [119, 105, 100, 116, 104], .str [102, 101, 110, 99, 101], .str [114, 111, 119], .str [102, 105, 110, 101]], []] := by
  kernel_rfl
theorem t24 (a10 b10 c10 : Int) (d0 : D) (d1 : D) (d2 : D) (d3 : D) (h_d0 : d0 ∈ m_d0) : evS (R 38) gcons ((blk (F_law_right.body.getD 10 .pass)).getD 0 .pass) [some (.ref 0), some d0, some d1, some d2, some d3, some (.ref 2), some (.fn 31), some (.tup [.tup [.int 1, .int 2], .tup [.int 3, .int 1]]), some (.tup [.tup [.tup [.int 1, .int 1], .tup [.int 0, .int 1]], .tup [.int 5, .int 1]]), some (.tup [.tup [.tup [.int 1, .int 2], .tup [.int 3, .int 1]], .tup [.int 1, .int 1]]), some (.tup [.tup [.tup [.tup [.int 1, .int 2], .tup [.int 3, .int 1]], .tup [.int 1, .int 1]], .tup [.tup [.tup [.int 1, .int 2], .tup [.int 3, .int 1]], .tup [.int 1, .int 1]], .tup [.tup [.tup [.int 1, .int 2], .tup [.int 3, .int 1]], .tup [.int 1, .int 1]]])] [[.int a10, .int b10, .int c10], [.str [119, 105, 100, 116, 104], .str [102, 101, 110, 99, 101], .str [114, 111, 119], .str [102, 105, 110, 101], .str [119, 105, 100, 116, 104], .str [102, 101, 110, 99, 101], .str [114, 111, 119], .str [102, 105, 110, 101]], []] = .nx [some (.ref 0), some d0, some d1, some d2, some d3, some (.ref 2), some (.fn 31), some (.tup [.tup [.int 1, .int 2], .tup [.int 3, .int 1]]), some (.tup [.tup [.tup [.int 1, .int 1], .tup [.int 0, .int 1]], .tup [.int 5, .int 1]]), some (.tup [.tup [.tup [.int 1, .int 2], .tup [.int 3, .int 1]], .tup [.int 1, .int 1]]), some (.tup [.tup [.tup [.tup [.int 1, .int 2], .tup [.int 3, .int 1]], .tup [.int 1, .int 1]], .tup [.tup [.tup [.int 1, .int 2], .tup [.int 3, .int 1]], .tup [.int 1, .int 1]], .tup [.tup [.tup [.int 1, .int 2], .tup [.int 3, .int 1]], .tup [.int 1, .int 1]]])] [[.int a10, .int b10, .int c10], [.str [119, 105, 100, 116, 104], .str [102, 101, 110, 99, 101], .str [114, 111, 119], .str [102, 105, 110, 101], .str [119, 105, 100, 116, 104], .str [102, 101, 110, 99, 101], .str [114, 111, 119], .str [102, 105, 110, 101]], [.str [119, 105, 100, 116, 104]]] := by
  simp only [m_d0, List.mem_cons, List.not_mem_nil, or_false] at h_d0
  rcases h_d0 with rfl | rfl | rfl | rfl | rfl | rfl <;> kernel_rfl
theorem t25 (a10 b10 c10 : Int) (d0 : D) (d1 : D) (d2 : D) (d3 : D) (h_d2 : d2 ∈ m_d2) (h_d3 : d3 ∈ m_d3 d2) : evS (R 38) gcons ((blk (F_law_right.body.getD 10 .pass)).getD 1 .pass) [some (.ref 0), some d0, some d1, some d2, some d3, some (.ref 2), some (.fn 31), some (.tup [.tup [.int 1, .int 2], .tup [.int 3, .int 1]]), some (.tup [.tup [.tup [.int 1, .int 1], .tup [.int 0, .int 1]], .tup [.int 5, .int 1]]), some (.tup [.tup [.tup [.int 1, .int 2], .tup [.int 3, .int 1]], .tup [.int 1, .int 1]]), some (.tup [.tup [.tup [.tup [.int 1, .int 2], .tup [.int 3, .int 1]], .tup [.int 1, .int 1]], .tup [.tup [.tup [.int 1, .int 2], .tup [.int 3, .int 1]], .tup [.int 1, .int 1]], .tup [.tup [.tup [.int 1, .int 2], .tup [.int 3, .int 1]], .tup [.int 1, .int 1]]])] [[.int a10, .int b10, .int c10], [.str [119, 105, 100, 116, 104], .str [102, 101, 110, 99, 101], .str [114, 111, 119], .str [102, 105, 110, 101], .str [119, 105, 100, 116, 104], .str [102, 101, 110, 99, 101], .str [114, 111, 119], .str [102, 105, 110, 101]], [.str [119, 105, 100, 116, 104]]] = .nx [some (.ref 0), some d0, some d1, some d2, some d3, some (.ref 2), some (.fn 31), some (.tup [.tup [.int 1, .int 2], .tup [.int 3, .int 1]]), some (.tup [.tup [.tup [.int 1, .int 1], .tup [.int 0, .int 1]], .tup [.int 5, .int 1]]), some (.tup [.tup [.tup [.int 1, .int 2], .tup [.int 3, .int 1]], .tup [.int 1, .int 1]]), some (.tup [.tup [.tup [.tup [.int 1, .int 2], .tup [.int 3, .int 1]], .tup [.int 1, .int 1]], .tup [.tup [.tup [.int 1, .int 2], .tup [.int 3, .int 1]], .tup [.int 1, .int 1]], .tup [.tup [.tup [.int 1, .int 2], .tup [.int 3, .int 1]], .tup [.int 1, .int 1]]])] [[.int a10, .int b10, .int c10], [.str [119, 105, 100, 116, 104], .str [102, 101, 110, 99, 101], .str [114, 111, 119], .str [102, 105, 110, 101], .str [119, 105, 100, 116, 104], .str [102, 101, 110, 99, 101], .str [114, 111, 119], .str [102, 105, 110, 101]], [.str [119, 105, 100, 116, 104], .str [114, 111, 111, 109]]] := by
  simp only [m_d3, List.mem_cons, List.not_mem_nil, or_false] at h_d3
  rcases h_d3 with rfl | rfl | rfl | rfl | rfl | rfl | rfl | rfl
  · kernel_rfl
  · kernel_rfl
  · simp only [m_d2, List.mem_cons, List.not_mem_nil, or_false] at h_d2
    rcases h_d2 with rfl | rfl | rfl | rfl | rfl | rfl | rfl | rfl | rfl <;> kernel_rfl
  · kernel_rfl
  · kernel_rfl
  · kernel_rfl
  · kernel_rfl
  · kernel_rfl
theorem t26 (a10 b10 c10 : Int) (d0 : D) (d1 : D) (d2 : D) (d3 : D) (h_d1 : d1 ∈ m_d1) : evS (R 38) gcons ((blk (F_law_right.body.getD 10 .pass)).getD 2 .pass) [some (.ref 0), some d0, some d1, some d2, some d3, some (.ref 2), some (.fn 31), some (.tup [.tup [.int 1, .int 2], .tup [.int 3, .int 1]]), some (.tup [.tup [.tup [.int 1, .int 1], .tup [.int 0, .int 1]], .tup [.int 5, .int 1]]), some (.tup [.tup [.tup [.int 1, .int 2], .tup [.int 3, .int 1]], .tup [.int 1, .int 1]]), some (.tup [.tup [.tup [.tup [.int 1, .int 2], .tup [.int 3, .int 1]], .tup [.int 1, .int 1]], .tup [.tup [.tup [.int 1, .int 2], .tup [.int 3, .int 1]], .tup [.int 1, .int 1]], .tup [.tup [.tup [.int 1, .int 2], .tup [.int 3, .int 1]], .tup [.int 1, .int 1]]])] [[.int a10, .int b10, .int c10], [.str [119, 105, 100, 116, 104], .str [102, 101, 110, 99, 101], .str [114, 111, 119], .str [102, 105, 110, 101], .str [119, 105, 100, 116, 104], .str [102, 101, 110, 99, 101], .str [114, 111, 119], .str [102, 105, 110, 101]], [.str [119, 105, 100, 116, 104], .str [114, 111, 111, 109]]] = .nx [some (.ref 0), some d0, some d1, some d2, some d3, some (.ref 2), some (.fn 31), some (.tup [.tup [.int 1, .int 2], .tup [.int 3, .int 1]]), some (.tup [.tup [.tup [.int 1, .int 1], .tup [.int 0, .int 1]], .tup [.int 5, .int 1]]), some (.tup [.tup [.tup [.int 1, .int 2], .tup [.int 3, .int 1]], .tup [.int 1, .int 1]]), some (.tup [.tup [.tup [.tup [.int 1, .int 2], .tup [.int 3, .int 1]], .tup [.int 1, .int 1]], .tup [.tup [.tup [.int 1, .int 2], .tup [.int 3, .int 1]], .tup [.int 1, .int 1]], .tup [.tup [.tup [.int 1, .int 2], .tup [.int 3, .int 1]], .tup [.int 1, .int 1]]])] [[.int a10, .int b10, .int c10], [.str [119, 105, 100, 116, 104], .str [102, 101, 110, 99, 101], .str [114, 111, 119], .str [102, 105, 110, 101], .str [119, 105, 100, 116, 104], .str [102, 101, 110, 99, 101], .str [114, 111, 119], .str [102, 105, 110, 101]], [.str [119, 105, 100, 116, 104], .str [114, 111, 111, 109], .str [114, 111, 119]]] := by
  simp only [m_d1, List.mem_cons, List.not_mem_nil, or_false] at h_d1
  rcases h_d1 with rfl | rfl | rfl | rfl | rfl | rfl | rfl | rfl <;> kernel_rfl
theorem t27 (a10 b10 c10 : Int) (d0 : D) (d1 : D) (d2 : D) (d3 : D)  : evS (R 38) gcons ((blk (F_law_right.body.getD 10 .pass)).getD 3 .pass) [some (.ref 0), some d0, some d1, some d2, some d3, some (.ref 2), some (.fn 31), some (.tup [.tup [.int 1, .int 2], .tup [.int 3, .int 1]]), some (.tup [.tup [.tup [.int 1, .int 1], .tup [.int 0, .int 1]], .tup [.int 5, .int 1]]), some (.tup [.tup [.tup [.int 1, .int 2], .tup [.int 3, .int 1]], .tup [.int 1, .int 1]]), some (.tup [.tup [.tup [.tup [.int 1, .int 2], .tup [.int 3, .int 1]], .tup [.int 1, .int 1]], .tup [.tup [.tup [.int 1, .int 2], .tup [.int 3, .int 1]], .tup [.int 1, .int 1]], .tup [.tup [.tup [.int 1, .int 2], .tup [.int 3, .int 1]], .tup [.int 1, .int 1]]])] [[.int a10, .int b10, .int c10], [.str [119, 105, 100, 116, 104], .str [102, 101, 110, 99, 101], .str [114, 111, 119], .str [102, 105, 110, 101], .str [119, 105, 100, 116, 104], .str [102, 101, 110, 99, 101], .str [114, 111, 119], .str [102, 105, 110, 101]], [.str [119, 105, 100, 116, 104], .str [114, 111, 111, 109], .str [114, 111, 119]]] = .nx [some (.ref 0), some d0, some d1, some d2, some d3, some (.ref 2), some (.fn 31), some (.tup [.tup [.int 1, .int 2], .tup [.int 3, .int 1]]), some (.tup [.tup [.tup [.int 1, .int 1], .tup [.int 0, .int 1]], .tup [.int 5, .int 1]]), some (.tup [.tup [.tup [.int 1, .int 2], .tup [.int 3, .int 1]], .tup [.int 1, .int 1]]), some (.tup [.tup [.tup [.tup [.int 1, .int 2], .tup [.int 3, .int 1]], .tup [.int 1, .int 1]], .tup [.tup [.tup [.int 1, .int 2], .tup [.int 3, .int 1]], .tup [.int 1, .int 1]], .tup [.tup [.tup [.int 1, .int 2], .tup [.int 3, .int 1]], .tup [.int 1, .int 1]]])] [[.int a10, .int b10, .int c10], [.str [119, 105, 100, 116, 104], .str [102, 101, 110, 99, 101], .str [114, 111, 119], .str [102, 105, 110, 101], .str [119, 105, 100, 116, 104], .str [102, 101, 110, 99, 101], .str [114, 111, 119], .str [102, 105, 110, 101]], [.str [119, 105, 100, 116, 104], .str [114, 111, 111, 109], .str [114, 111, 119], .str [102, 105, 110, 101]]] := by
  kernel_rfl
theorem t28 (a10 b10 c10 : Int) (d0 : D) (d1 : D) (d2 : D) (d3 : D) (h_d0 : d0 ∈ m_d0) : evS (R 38) gcons ((blk (F_law_right.body.getD 10 .pass)).getD 0 .pass) [some (.ref 0), some d0, some d1, some d2, some d3, some (.ref 2), some (.fn 32), some (.tup [.tup [.int 1, .int 2], .tup [.int 3, .int 1]]), some (.tup [.tup [.tup [.int 1, .int 1], .tup [.int 0, .int 1]], .tup [.int 5, .int 1]]), some (.tup [.tup [.tup [.int 1, .int 2], .tup [.int 3, .int 1]], .tup [.int 1, .int 1]]), some (.tup [.tup [.tup [.tup [.int 1, .int 2], .tup [.int 3, .int 1]], .tup [.int 1, .int 1]], .tup [.tup [.tup [.int 1, .int 2], .tup [.int 3, .int 1]], .tup [.int 1, .int 1]], .tup [.tup [.tup [.int 1, .int 2], .tup [.int 3, .int 1]], .tup [.int 1, .int 1]]])] [[.int a10, .int b10, .int c10], [.str [119, 105, 100, 116, 104], .str [102, 101, 110, 99, 101], .str [114, 111, 119], .str [102, 105, 110, 101], .str [119, 105, 100, 116, 104], .str [102, 101, 110, 99, 101], .str [114, 111, 119], .str [102, 105, 110, 101]], [.str [119, 105, 100, 116, 104], .str [114, 111, 111, 109], .str [114, 111, 119], .str [102, 105, 110, 101]]] = .nx [some (.ref 0), some d0, some d1, some d2, some d3, some (.ref 2), some (.fn 32), some (.tup [.tup [.int 1, .int 2], .tup [.int 3, .int 1]]), some (.tup [.tup [.tup [.int 1, .int 1], .tup [.int 0, .int 1]], .tup [.int 5, .int 1]]), some (.tup [.tup [.tup [.int 1, .int 2], .tup [.int 3, .int 1]], .tup [.int 1, .int 1]]), some (.tup [.tup [.tup [.tup [.int 1, .int 2], .tup [.int 3, .int 1]], .tup [.int 1, .int 1]], .tup [.tup [.tup [.int 1, .int 2], .tup [.int 3, .int 1]], .tup [.int 1, .int 1]], .tup [.tup [.tup [.int 1, .int 2], .tup [.int 3, .int 1]], .tup [.int 1, .int 1]]])] [[.int a10, .int b10, .int c10], [.str [119, 105, 100, 116, 104], .str [102, 101, 110, 99, 101], .str [114, 111, 119], .str [102, 105, 110, 101], .str [119, 105, 100, 116, 104], .str [102, 101, 110, 99, 101], .str [114, 111, 119], .str [102, 105, 110, 101]], [.str [119, 105, 100, 116, 104], .str [114, 111, 111, 109], .str [114, 111, 119], .str [102, 105, 110, 101], .str [119, 105, 100, 116, 104]]] := by
  simp only [m_d0, List.mem_cons, List.not_mem_nil, or_false] at h_d0
  rcases h_d0 with rfl | rfl | rfl | rfl | rfl | rfl <;> kernel_rfl
theorem t29 (a10 b10 c10 : Int) (d0 : D) (d1 : D) (d2 : D) (d3 : D) (h_d2 : d2 ∈ m_d2) (h_d3 : d3 ∈ m_d3 d2) : evS (R 38) gcons ((blk (F_law_right.body.getD 10 .pass)).getD 1 .pass) [some (.ref 0), some d0, some d1, some d2, some d3, some (.ref 2), some (.fn 32), some (.tup [.tup [.int 1, .int 2], .tup [.int 3, .int 1]]), some (.tup [.tup [.tup [.int 1, .int 1], .tup [.int 0, .int 1]], .tup [.int 5, .int 1]]), some (.tup [.tup [.tup [.int 1, .int 2], .tup [.int 3, .int 1]], .tup [.int 1, .int 1]]), some (.tup [.tup [.tup [.tup [.int 1, .int 2], .tup [.int 3, .int 1]], .tup [.int 1, .int 1]], .tup [.tup [.tup [.int 1, .int 2], .tup [.int 3, .int 1]], .tup [.int 1, .int 1]], .tup [.tup [.tup [.int 1, .int 2], .tup [.int 3, .int 1]], .tup [.int 1, .int 1]]])] [[.int a10, .int b10, .int c10], [.str [119, 105, 100, 116, 104], .str [102, 101, 110, 99, 101], .str [114, 111, 119], .str [102, 105, 110, 101], .str [119, 105, 100, 116, 104], .str [102, 101, 110, 99, 101], .str [114, 111, 119], .str [102, 105, 110, 101]], [.str [119, 105, 100, 116, 104], .str [114, 111, 111, 109], .str [114, 111, 119], .str [102, 105, 110, 101], .str [119, 105, 100, 116, 104]]] = .nx [some (.ref 0), some d0, some d1, some d2, some d3, some (.ref 2), some (.fn 32), some (.tup [.tup [.int 1, .int 2], .tup [.int 3, .int 1]]), some (.tup [.tup [.tup [.int 1, .int 1], .tup [.int 0, .int 1]], .tup [.int 5, .int 1]]), some (.tup [.tup [.tup [.int 1, .int 2], .tup [.int 3, .int 1]], .tup [.int 1, .int 1]]), some (.tup [.tup [.tup [.tup [.int 1, .int 2], .tup [.int 3, .int 1]], .tup [.int 1, .int 1]], .tup [.tup [.tup [.int 1, .int 2], .tup [.int 3, .int 1]], .tup [.int 1, .int 1]], .tup [.tup [.tup [.int 1, .int 2], .tup [.int 3, .int 1]], .tup [.int 1, .int 1]]])] [[.int a10, .int b10, .int c10], [.str [119, 105, 100, 116, 104], .str [102, 101, 110, 99, 101], .str [114, 111, 119], .str [102, 105, 110, 101], .str [119, 105, 100, 116, 104], .str [102, 101, 110, 99, 101], .str [114, 111, 119], .str [102, 105, 110, 101]], [.str [119, 105, 100, 116, 104], .str [114, 111, 111, 109], .str [114, 111, 119], .str [102, 105, 110, 101], .str [119, 105, 100, 116, 104], .str [114, 111, 111, 109]]] := by
  simp only [m_d3, List.mem_cons, List.not_mem_nil, or_false] at h_d3
  rcases h_d3 with rfl | rfl | rfl | rfl | rfl | rfl | rfl | rfl
  · kernel_rfl
  · kernel_rfl
  · simp only [m_d2, List.mem_cons, List.not_mem_nil, or_false] at h_d2
    rcases h_d2 with rfl | rfl | rfl | rfl | rfl | rfl | rfl | rfl | rfl <;> kernel_rfl
  · kernel_rfl
  · kernel_rfl
  · kernel_rfl
  · kernel_rfl
  · kernel_rfl
theorem t30 (a10 b10 c10 : Int) (d0 : D) (d1 : D) (d2 : D) (d3 : D) (h_d1 : d1 ∈ m_d1) : evS (R 38) gcons ((blk (F_law_right.body.getD 10 .pass)).getD 2 .pass) [some (.ref 0), some d0, some d1, some d2, some d3, some (.ref 2), some (.fn 32), some (.tup [.tup [.int 1, .int 2], .tup [.int 3, .int 1]]), some (.tup [.tup [.tup [.int 1, .int 1], .tup [.int 0, .int 1]], .tup [.int 5, .int 1]]), some (.tup [.tup [.tup [.int 1, .int 2], .tup [.int 3, .int 1]], .tup [.int 1, .int 1]]), some (.tup [.tup [.tup [.tup [.int 1, .int 2], .tup [.int 3, .int 1]], .tup [.int 1, .int 1]], .tup [.tup [.tup [.int 1, .int 2], .tup [.int 3, .int 1]], .tup [.int 1, .int 1]], .tup [.tup [.tup [.int 1, .int 2], .tup [.int 3, .int 1]], .tup [.int 1, .int 1]]])] [[.int a10, .int b10, .int c10], [.str [119, 105, 100, 116, 104], .str [102, 101, 110, 99, 101], .str [114, 111, 119], .str [102, 105, 110, 101], .str [119, 105, 100, 116, 104], .str [102, 101, 110, 99, 101], .str [114, 111, 119], .str [102, 105, 110, 101]], [.str [119, 105, 100, 116, 104], .str [114, 111, 111, 109], .str [114, 111, 119], .str [102, 105, 110, 101], .str [119, 105, 100, 116, 104], .str [114, 111, 111, 109]]] = .nx [some (.ref 0), some d0, some d1, some d2, some d3, some (.ref 2), some (.fn 32), some (.tup [.tup [.int 1, .int 2], .tup [.int 3, .int 1]]), some (.tup [.tup [.tup [.int 1, .int 1], .tup [.int 0, .int 1]], .tup [.int 5, .int 1]]), some (.tup [.tup [.tup [.int 1, .int 2], .tup [.int 3, .int 1]], .tup [.int 1, .int 1]]), some (.tup [.tup [.tup [.tup [.int 1, .int 2], .tup [.int 3, .int 1]], .tup [.int 1, .int 1]], .tup [.tup [.tup [.int 1, .int 2], .tup [.int 3, .int 1]], .tup [.int 1, .int 1]], .tup [.tup [.tup [.int 1, .int 2], .tup [.int 3, .int 1]], .tup [.int 1, .int 1]]])] [[.int a10, .int b10, .int c10], [.str [119, 105, 100, 116, 104], .str [102, 101, 110, 99, 101], .str [114, 111, 119], .str [102, 105, 110, 101], .str [119, 105, 100, 116, 104], .str [102, 101, 110, 99, 101], .str [114, 111, 119], .str [102, 105, 110, 101]], [.str [119, 105, 100, 116, 104], .str [114, 111, 111, 109], .str [114, 111, 119], .str [102, 105, 110, 101], .str [119, 105, 100, 116, 104], .str [114, 111, 111, 109], .str [114, 111, 119]]] := by
  simp only [m_d1, List.mem_cons, List.not_mem_nil, or_false] at h_d1
  rcases h_d1 with rfl | rfl | rfl | rfl | rfl | rfl | rfl | rfl <;> kernel_rfl
theorem t31 (a10 b10 c10 : Int) (d0 : D) (d1 : D) (d2 : D) (d3 : D)  : evS (R 38) gcons ((blk (F_law_right.body.getD 10 .pass)).getD 3 .pass) [some (.ref 0), some d0, some d1, some d2, some d3, some (.ref 2), some (.fn 32), some (.tup [.tup [.int 1, .int 2], .tup [.int 3, .int 1]]), some (.tup [.tup [.tup [.int 1, .int 1], .tup [.int 0, .int 1]], .tup [.int 5, .int 1]]), some (.tup [.tup [.tup [.int 1, .int 2], .tup [.int 3, .int 1]], .tup [.int 1, .int 1]]), some (.tup [.tup [.tup [.tup [.int 1, .int 2], .tup [.int 3, .int 1]], .tup [.int 1, .int 1]], .tup [.tup [.tup [.int 1, .int 2], .tup [.int 3, .int 1]], .tup [.int 1, .int 1]], .tup [.tup [.tup [.int 1, .int 2], .tup [.int 3, .int 1]], .tup [.int 1, .int 1]]])] [[.int a10, .int b10, .int c10], [.str [119, 105, 100, 116, 104], .str [102, 101, 110, 99, 101], .str [114, 111, 119], .str [102, 105, 110, 101], .str [119, 105, 100, 116, 104], .str [102, 101, 110, 99, 101], .str [114, 111, 119], .str [102, 105, 110, 101]], [.str [119, 105, 100, 116, 104], .str [114, 111, 111, 109], .str [114, 111, 119], .str [102, 105, 110, 101], .str [119, 105, 100, 116, 104], .str [114, 111, 111, 109], .str [114, 111, 119]]] = .nx [some (.ref 0), some d0, some d1, some d2, some d3, some (.ref 2), some (.fn 32), some (.tup [.tup [.int 1, .int 2], .tup [.int 3, .int 1]]), some (.tup [.tup [.tup [.int 1, .int 1], .tup [.int 0, .int 1]], .tup [.int 5, .int 1]]), some (.tup [.tup [.tup [.int 1, .int 2], .tup [.int 3, .int 1]], .tup [.int 1, .int 1]]), some (.tup [.tup [.tup [.tup [.int 1, .int 2], .tup [.int 3, .int 1]], .tup [.int 1, .int 1]], .tup [.tup [.tup [.int 1, .int 2], .tup [.int 3, .int 1]], .tup [.int 1, .int 1]], .tup [.tup [.tup [.int 1, .int 2], .tup [.int 3, .int 1]], .tup [.int 1, .int 1]]])] [[.int a10, .int b10, .int c10], [.str [119, 105, 100, 116, 104], .str [102, 101, 110, 99, 101], .str [114, 111, 119], .str [102, 105, 110, 101], .str [119, 105, 100, 116, 104], .str [102, 101, 110, 99, 101], .str [114, 111, 119], .str [102, 105, 110, 101]], [.str [119, 105, 100, 116, 104], .str [114, 111, 111, 109], .str [114, 111, 119], .str [102, 105, 110, 101], .str [119, 105, 100, 116, 104], .str [114, 111, 111, 109], .str [114, 111, 119], .str [102, 105, 110, 101]]] := by
  kernel_rfl
theorem t32 (a10 b10 c10 : Int) (d0 : D) (d1 : D) (d2 : D) (d3 : D)  : evS (R 38) gcons (F_law_right.body.getD 11 .pass) [some (.ref 0), some d0, some d1, some d2, some d3, some (.ref 2), some (.fn 32), some (.tup [.tup [.int 1, .int 2], .tup [.int 3, .int 1]]), some (.tup [.tup [.tup [.int 1, .int 1], .tup [.int 0, .int 1]], .tup [.int 5, .int 1]]), some (.tup [.tup [.tup [.int 1, .int 2], .tup [.int 3, .int 1]], .tup [.int 1, .int 1]]), some (.tup [.tup [.tup [.tup [.int 1, .int 2], .tup [.int 3, .int 1]], .tup [.int 1, .int 1]], .tup [.tup [.tup [.int 1, .int 2], .tup [.int 3, .int 1]], .tup [.int 1, .int 1]], .tup [.tup [.tup [.int 1, .int 2], .tup [.int 3, .int 1]], .tup [.int 1, .int 1]]])] [[.int a10, .int b10, .int c10], [.str [119, 105, 100, 116, 104], .str [102, 101, 110, 99, 101], .str [114, 111, 119], .str [102, 105, 110, 101], .str [119, 105, 100, 116, 104], .str [102, 101, 110, 99, 101], .str [114, 111, 119], .str [102, 105, 110, 101]], [.str [119, 105, 100, 116, 104], .str [114, 111, 111, 109], .str [114, 111, 119], .str [102, 105, 110, 101], .str [119, 105, 100, 116, 104], .str [114, 111, 111, 109], .str [114, 111, 119], .str [102, 105, 110, 101]]] = .nx [some (.ref 0), some d0, some d1, some d2, some d3, some (.ref 2), some (.fn 32), some (.tup [.tup [.int 1, .int 2], .tup [.int 3, .int 1]]), some (.tup [.tup [.tup [.int 1, .int 1], .tup [.int 0, .int 1]], .tup [.int 5, .int 1]]), some (.tup [.tup [.tup [.int 1, .int 2], .tup [.int 3, .int 1]], .tup [.int 1, .int 1]]), some (.tup [.tup [.tup [.tup [.int 1, .int 2], .tup [.int 3, .int 1]], .tup [.int 1, .int 1]], .tup [.tup [.tup [.int 1, .int 2], .tup [.int 3, .int 1]], .tup [.int 1, .int 1]], .tup [.tup [.tup [.int 1, .int 2], .tup [.int 3, .int 1]], .tup [.int 1, .int 1]]])] [[.int a10, .int b10, .int c10], [.str [119, 105, 100, 116, 104], .str [102, 101, 110, 99, 101], .str [114, 111, 119], .str [102, 105, 110, 101], .str [119, 105, 100, 116, 104], .str [102, 101, 110, 99, 101], .str [114, 111, 119], .str [102, 105, 110, 101]], [.str [119, 105, 100, 116, 104], .str [114, 111, 111, 109], .str [114, 111, 119], .str [102, 105, 110, 101], .str [119, 105, 100, 116, 104], .str [114, 111, 111, 109], .str [114, 111, 119], .str [102, 105, 110, 101]]] := by
  kernel_rfl
theorem t33 (a10 b10 c10 : Int) (d0 : D) (d1 : D) (d2 : D) (d3 : D)  : evS (R 38) gcons (F_law_right.body.getD 12 .pass) [some (.ref 0), some d0, some d1, some d2, some d3, some (.ref 2), some (.fn 32), some (.tup [.tup [.int 1, .int 2], .tup [.int 3, .int 1]]), some (.tup [.tup [.tup [.int 1, .int 1], .tup [.int 0, .int 1]], .tup [.int 5, .int 1]]), some (.tup [.tup [.tup [.int 1, .int 2], .tup [.int 3, .int 1]], .tup [.int 1, .int 1]]), some (.tup [.tup [.tup [.tup [.int 1, .int 2], .tup [.int 3, .int 1]], .tup [.int 1, .int 1]], .tup [.tup [.tup [.int 1, .int 2], .tup [.int 3, .int 1]], .tup [.int 1, .int 1]], .tup [.tup [.tup [.int 1, .int 2], .tup [.int 3, .int 1]], .tup [.int 1, .int 1]]])] [[.int a10, .int b10, .int c10], [.str [119, 105, 100, 116, 104], .str [102, 101, 110, 99, 101], .str [114, 111, 119], .str [102, 105, 110, 101], .str [119, 105, 100, 116, 104], .str [102, 101, 110, 99, 101], .str [114, 111, 119], .str [102, 105, 110, 101]], [.str [119, 105, 100, 116, 104], .str [114, 111, 111, 109], .str [114, 111, 119], .str [102, 105, 110, 101], .str [119, 105, 100, 116, 104], .str [114, 111, 111, 109], .str [114, 111, 119], .str [102, 105, 110, 101]]] = .nx [some (.ref 0), some d0, some d1, some d2, some d3, some (.ref 3), some (.fn 32), some (.tup [.tup [.int 1, .int 2], .tup [.int 3, .int 1]]), some (.tup [.tup [.tup [.int 1, .int 1], .tup [.int 0, .int 1]], .tup [.int 5, .int 1]]), some (.tup [.tup [.tup [.int 1, .int 2], .tup [.int 3, .int 1]], .tup [.int 1, .int 1]]), some (.tup [.tup [.tup [.tup [.int 1, .int 2], .tup [.int 3, .int 1]], .tup [.int 1, .int 1]], .tup [.tup [.tup [.int 1, .int 2], .tup [.int 3, .int 1]], .tup [.int 1, .int 1]], .tup [.tup [.tup [.int 1, .int 2], .tup [.int 3, .int 1]], .tup [.int 1, .int 1]]])] [[.int a10, .int b10, .int c10], [.str [119, 105, 100, 116, 104], .str [102, 101, 110, 99, 101], .str [114, 111, 119], .str [102, 105, 110, 101], .str [119, 105, 100, 116, 104], .str [102, 101, 110, 99, 101], .str [114, 111, 119], .str [102, 105, 110, 101]], [.str [119, 105, 100, 116, 104], .str [114, 111, 111, 109], .str [114, 111, 119], .str [102, 105, 110, 101], .str [119, 105, 100, 116, 104], .str [114, 111, 111, 109], .str [114, 111, 119], .str [102, 105, 110, 101]], []] := by
  kernel_rfl
theorem t34 (a10 b10 c10 : Int) (d0 : D) (d1 : D) (d2 : D) (d3 : D)  : evI (R 38) gcons ((.seq (.tup [(.gfn 34), (.gfn 36), (.gfn 42)]))) [some (.ref 0), some d0, some d1, some d2, some d3, some (.ref 3), some (.fn 32), some (.tup [.tup [.int 1, .int 2], .tup [.int 3, .int 1]]), some (.tup [.tup [.tup [.int 1, .int 1], .tup [.int 0, .int 1]], .tup [.int 5, .int 1]]), some (.tup [.tup [.tup [.int 1, .int 2], .tup [.int 3, .int 1]], .tup [.int 1, .int 1]]), some (.tup [.tup [.tup [.tup [.int 1, .int 2], .tup [.int 3, .int 1]], .tup [.int 1, .int 1]], .tup [.tup [.tup [.int 1, .int 2], .tup [.int 3, .int 1]], .tup [.int 1, .int 1]], .tup [.tup [.tup [.int 1, .int 2], .tup [.int 3, .int 1]], .tup [.int 1, .int 1]]])] [[.int a10, .int b10, .int c10], [.str [119, 105, 100, 116, 104], .str [102, 101, 110, 99, 101], .str [114, 111, 119], .str [102, 105, 110, 101], .str [119, 105, 100, 116, 104], .str [102, 101, 110, 99, 101], .str [114, 111, 119], .str [102, 105, 110, 101]], [.str [119, 105, 100, 116, 104], .str [114, 111, 111, 109], .str [114, 111, 119], .str [102, 105, 110, 101], .str [119, 105, 100, 116, 104], .str [114, 111, 111, 109], .str [114, 111, 119], .str [102, 105, 110, 101]], []] = .ok [.fn 34, .fn 36, .fn 42] [[.int a10, .int b10, .int c10], [.str [119, 105, 100, 116, 104], .str [102, 101, 110, 99, 101], .str [114, 111, 119], .str [102, 105, 110, 101], .str [119, 105, 100, 116, 104], .str [102, 101, 110, 99, 101], .str [114, 111, 119], .str [102, 105, 110, 101]], [.str [119, 105, 100, 116, 104], .str [114, 111, 111, 109], .str [114, 111, 119], .str [102, 105, 110, 101], .str [119, 105, 100, 116, 104], .str [114, 111, 111, 109], .str [114, 111, 119], .str [102, 105, 110, 101]], []] := by
  kernel_rfl
theorem t35 (a10 b10 c10 : Int) (d0 : D) (d1 : D) (d2 : D) (d3 : D) (h_d0 : d0 ∈ m_d0) : evS (R 38) gcons ((blk (F_law_right.body.getD 13 .pass)).getD 0 .pass) [some (.ref 0), some d0, some d1, some d2, some d3, some (.ref 3), some (.fn 34), some (.tup [.tup [.int 1, .int 2], .tup [.int 3, .int 1]]), some (.tup [.tup [.tup [.int 1, .int 1], .tup [.int 0, .int 1]], .tup [.int 5, .int 1]]), some (.tup [.tup [.tup [.int 1, .int 2], .tup [.int 3, .int 1]], .tup [.int 1, .int 1]]), some (.tup [.tup [.tup [.tup [.int 1, .int 2], .tup [.int 3, .int 1]], .tup [.int 1, .int 1]], .tup [.tup [.tup [.int 1, .int 2], .tup [.int 3, .int 1]], .tup [.int 1, .int 1]], .tup [.tup [.tup [.int 1, .int 2], .tup [.int 3, .int 1]], .tup [.int 1, .int 1]]])] [[.int a10, .int b10, .int c10], [.str [119, 105, 100, 116, 104], .str [102, 101, 110, 99, 101], .str [114, 111, 119], .str [102, 105, 110, 101], .str [119, 105, 100, 116, 104], .str [102, 101, 110, 99, 101], .str [114, 111, 119], .str [102, 105, 110, 101]], [.str [119, 105, 100, 116, 104], .str [114, 111, 111, 109], .str [114, 111, 119], .str [102, 105, 110, 101], .str [119, 105, 100, 116, 104], .str [114, 111, 111, 109], .str [114, 111, 119], .str [102, 105, 110, 101]], []] = .nx [some (.ref 0), some d0, some d1, some d2, some d3, some (.ref 3), some (.fn 34), some (.tup [.tup [.int 1, .int 2], .tup [.int 3, .int 1]]), some (.tup [.tup [.tup [.int 1, .int 1], .tup [.int 0, .int 1]], .tup [.int 5, .int 1]]), some (.tup [.tup [.tup [.int 1, .int 2], .tup [.int 3, .int 1]], .tup [.int 1, .int 1]]), some (.tup [.tup [.tup [.tup [.int 1, .int 2], .tup [.int 3, .int 1]], .tup [.int 1, .int 1]], .tup [.tup [.tup [.int 1, .int 2], .tup [.int 3, .int 1]], .tup [.int 1, .int 1]], .tup [.tup [.tup [.int 1, .int 2], .tup [.int 3, .int 1]], .tup [.int 1, .int 1]]])] [[.int a10, .int b10, .int c10], [.str [119, 105, 100, 116, 104], .str [102, 101, 110, 99, 101], .str [114, 111, 119], .str [102, 105, 110, 101], .str [119, 105, 100, 116, 104], .str [102, 101, 110, 99, 101], .str [114, 111, 119], .str [102, 105, 110, 101]], [.str [119, 105, 100, 116, 104], .str [114, 111, 111, 109], .str [114, 111, 119], .str [102, 105, 110, 101], .str [119, 105, 100, 116, 104], .str [114, 111, 111, 109], .str [114, 111, 119], .str [102, 105, 110, 101]], [.str [119, 105, 100, 116, 104]]] := by
  simp only [m_d0, List.mem_cons, List.not_mem_nil, or_false] at h_d0
  rcases h_d0 with rfl | rfl | rfl | rfl | rfl | rfl <;> kernel_rfl
theorem t36 (a10 b10 c10 : Int) (d0 : D) (d1 : D) (d2 : D) (d3 : D) (h_d2 : d2 ∈ m_d2) : evS (R 38) gcons ((blk (F_law_right.body.getD 13 .pass)).getD 1 .pass) [some (.ref 0), some d0, some d1, some d2, some d3, some (.ref 3), some (.fn 34), some (.tup [.tup [.int 1, .int 2], .tup [.int 3, .int 1]]), some (.tup [.tup [.tup [.int 1, .int 1], .tup [.int 0, .int 1]], .tup [.int 5, .int 1]]), some (.tup [.tup [.tup [.int 1, .int 2], .tup [.int 3, .int 1]], .tup [.int 1, .int 1]]), some (.tup [.tup [.tup [.tup [.int 1, .int 2], .tup [.int 3, .int 1]], .tup [.int 1, .int 1]], .tup [.tup [.tup [.int 1, .int 2], .tup [.int 3, .int 1]], .tup [.int 1, .int 1]], .tup [.tup [.tup [.int 1, .int 2], .tup [.int 3, .int 1]], .tup [.int 1, .int 1]]])] [[.int a10, .int b10, .int c10], [.str [119, 105, 100, 116, 104], .str [102, 101, 110, 99, 101], .str [114, 111, 119], .str [102, 105, 110, 101], .str [119, 105, 100, 116, 104], .str [102, 101, 110, 99, 101], .str [114, 111, 119], .str [102, 105, 110, 101]], [.str [119, 105, 100, 116, 104], .str [114, 111, 111, 109], .str [114, 111, 119], .str [102, 105, 110, 101], .str [119, 105, 100, 116, 104], .str [114, 111, 111, 109], .str [114, 111, 119], .str [102, 105, 110, 101]], [.str [119, 105, 100, 116, 104]]] = .nx [some (.ref 0), some d0, some d1, some d2, some d3, some (.ref 3), some (.fn 34), some (.tup [.tup [.int 1, .int 2], .tup [.int 3, .int 1]]), some (.tup [.tup [.tup [.int 1, .int 1], .tup [.int 0, .int 1]], .tup [.int 5, .int 1]]), some (.tup [.tup [.tup [.int 1, .int 2], .tup [.int 3, .int 1]], .tup [.int 1, .int 1]]), some (.tup [.tup [.tup [.tup [.int 1, .int 2], .tup [.int 3, .int 1]], .tup [.int 1, .int 1]], .tup [.tup [.tup [.int 1, .int 2], .tup [.int 3, .int 1]], .tup [.int 1, .int 1]], .tup [.tup [.tup [.int 1, .int 2], .tup [.int 3, .int 1]], .tup [.int 1, .int 1]]])] [[.int a10, .int b10, .int c10], [.str [119, 105, 100, 116, 104], .str [102, 101, 110, 99, 101], .str [114, 111, 119], .str [102, 105, 110, 101], .str [119, 105, 100, 116, 104], .str [102, 101, 110, 99, 101], .str [114, 111, 119], .str [102, 105, 110, 101]], [.str [119, 105, 100, 116, 104], .str [114, 111, 111, 109], .str [114, 111, 119], .str [102, 105, 110, 101], .str [119, 105, 100, 116, 104], .str [114, 111, 111, 109], .str [114, 111, 119], .str [102, 105, 110, 101]], [.str [119, 105, 100, 116, 104], .str [102, 101, 110, 99, 101]]] := by
  simp only [m_d2, List.mem_cons, List.not_mem_nil, or_false] at h_d2
  rcases h_d2 with rfl | rfl | rfl | rfl | rfl | rfl | rfl | rfl | rfl <;> kernel_rfl
theorem t37 (a10 b10 c10 : Int) (d0 : D) (d1 : D) (d2 : D) (d3 : D)  : evS (R 38) gcons ((blk (F_law_right.body.getD 13 .pass)).getD 2 .pass) [some (.ref 0), some d0, some d1, some d2, some d3, some (.ref 3), some (.fn 34), some (.tup [.tup [.int 1, .int 2], .tup [.int 3, .int 1]]), some (.tup [.tup [.tup [.int 1, .int 1], .tup [.int 0, .int 1]], .tup [.int 5, .int 1]]), some (.tup [.tup [.tup [.int 1, .int 2], .tup [.int 3, .int 1]], .tup [.int 1, .int 1]]), some (.tup [.tup [.tup [.tup [.int 1, .int 2], .tup [.int 3, .int 1]], .tup [.int 1, .int 1]], .tup [.tup [.tup [.int 1, .int 2], .tup [.int 3, .int 1]], .tup [.int 1, .int 1]], .tup [.tup [.tup [.int 1, .int 2], .tup [.int 3, .int 1]], .tup [.int 1, .int 1]]])] [[.int a10, .int b10, .int c10], [.str [119, 105, 100, 116, 104], .str [102, 101, 110, 99, 101], .str [114, 111, 119], .str [102, 105, 110, 101], .str [119, 105, 100, 116, 104], .str [102, 101, 110, 99, 101], .str [114, 111, 119], .str [102, 105, 110, 101]], [.str [119, 105, 100, 116, 104], .str [114, 111, 111, 109], .str [114, 111, 119], .str [102, 105, 110, 101], .str [119, 105, 100, 116, 104], .str [114, 111, 111, 109], .str [114, 111, 119], .str [102, 105, 110, 101]], [.str [119, 105, 100, 116, 104], .str [102, 101, 110, 99, 101]]] = .nx [some (.ref 0), some d0, some d1, some d2, some d3, some (.ref 3), some (.fn 34), some (.tup [.tup [.int 1, .int 2], .tup [.int 3, .int 1]]), some (.tup [.tup [.tup [.int 1, .int 1], .tup [.int 0, .int 1]], .tup [.int 5, .int 1]]), some (.tup [.tup [.tup [.int 1, .int 2], .tup [.int 3, .int 1]], .tup [.int 1, .int 1]]), some (.tup [.tup [.tup [.tup [.int 1, .int 2], .tup [.int 3, .int 1]], .tup [.int 1, .int 1]], .tup [.tup [.tup [.int 1, .int 2], .tup [.int 3, .int 1]], .tup [.int 1, .int 1]], .tup [.tup [.tup [.int 1, .int 2], .tup [.int 3, .int 1]], .tup [.int 1, .int 1]]])] [[.int a10, .int b10, .int c10], [.str [119, 105, 100, 116, 104], .str [102, 101, 110, 99, 101], .str [114, 111, 119], .str [102, 105, 110, 101], .str [119, 105, 100, 116, 104], .str [102, 101, 110, 99, 101], .str [114, 111, 119], .str [102, 105, 110, 101]], [.str [119, 105, 100, 116, 104], .str [114, 111, 111, 109], .str [114, 111, 119], .str [102, 105, 110, 101], .str [119, 105, 100, 116, 104], .str [114, 111, 111, 109], .str [114, 111, 119], .str [102, 105, 110, 101]], [.str [119, 105, 100, 116, 104], .str [102, 101, 110, 99, 101], .str [102, 105, 110, 101]]] := by
  kernel_rfl
theorem t38 (a10 b10 c10 : Int) (d0 : D) (d1 : D) (d2 : D) (d3 : D) (h_d0 : d0 ∈ m_d0) : evS (R 38) gcons ((blk (F_law_right.body.getD 13 .pass)).getD 0 .pass) [some (.ref 0), some d0, some d1, some d2, some d3, some (.ref 3), some (.fn 36), some (.tup [.tup [.int 1, .int 2], .tup [.int 3, .int 1]]), some (.tup [.tup [.tup [.int 1, .int 1], .tup [.int 0, .int 1]], .tup [.int 5, .int 1]]), some (.tup [.tup [.tup [.int 1, .int 2], .tup [.int 3, .int 1]], .tup [.int 1, .int 1]]), some (.tup [.tup [.tup [.tup [.int 1, .int 2], .tup [.int 3, .int 1]], .tup [.int 1, .int 1]], .tup [.tup [.tup [.int 1, .int 2], .tup [.int 3, .int 1]], .tup [.int 1, .int 1]], .tup [.tup [.tup [.int 1, .int 2], .tup [.int 3, .int 1]], .tup [.int 1, .int 1]]])] [[.int a10, .int b10, .int c10], [.str [119, 105, 100, 116, 104], .str [102, 101, 110, 99, 101], .str [114, 111, 119], .str [102, 105, 110, 101], .str [119, 105, 100, 116, 104], .str [102, 101, 110, 99, 101], .str [114, 111, 119], .str [102, 105, 110, 101]], [.str [119, 105, 100, 116, 104], .str [114, 111, 111, 109], .str [114, 111, 119], .str [102, 105, 110, 101], .str [119, 105, 100, 116, 104], .str [114, 111, 111, 109], .str [114, 111, 119], .str [102, 105, 110, 101]], [.str [119, 105, 100, 116, 104], .str [102, 101, 110, 99, 101], .str [102, 105, 110, 101]]] = .nx [some (.ref 0), some d0, some d1, some d2, some d3, some (.ref 3), some (.fn 36), some (.tup [.tup [.int 1, .int 2], .tup [.int 3, .int 1]]), some (.tup [.tup [.tup [.int 1, .int 1], .tup [.int 0, .int 1]], .tup [.int 5, .int 1]]), some (.tup [.tup [.tup [.int 1, .int 2], .tup [.int 3, .int 1]], .tup [.int 1, .int 1]]), some (.tup [.tup [.tup [.tup [.int 1, .int 2], .tup [.int 3, .int 1]], .tup [.int 1, .int 1]], .tup [.tup [.tup [.int 1, .int 2], .tup [.int 3, .int 1]], .tup [.int 1, .int 1]], .tup [.tup [.tup [.int 1, .int 2], .tup [.int 3, .int 1]], .tup [.int 1, .int 1]]])] [[.int a10, .int b10, .int c10], [.str [119, 105, 100, 116, 104], .str [102, 101, 110, 99, 101], .str [114, 111, 119], .str [102, 105, 110, 101], .str [119, 105, 100, 116, 104], .str [102, 101, 110, 99, 101], .str [114, 111, 119], .str [102, 105, 110, 101]], [.str [119, 105, 100, 116, 104], .str [114, 111, 111, 109], .str [114, 111, 119], .str [102, 105, 110, 101], .str [119, 105, 100, 116, 104], .str [114, 111, 111, 109], .str [114, 111, 119], .str [102, 105, 110, 101]], [.str [119, 105, 100, 116, 104], .str [102, 101, 110, 99, 101], .str [102, 105, 110, 101], .str [119, 105, 100, 116, 104]]] := by
  simp only [m_d0, List.mem_cons, List.not_mem_nil, or_false] at h_d0
  rcases h_d0 with rfl | rfl | rfl | rfl | rfl | rfl <;> kernel_rfl
theorem t39 (a10 b10 c10 : Int) (d0 : D) (d1 : D) (d2 : D) (d3 : D) (h_d2 : d2 ∈ m_d2) : evS (R 38) gcons ((blk (F_law_right.body.getD 13 .pass)).getD 1 .pass) [some (.ref 0), some d0, some d1, some d2, some d3, some (.ref 3), some (.fn 36), some (.tup [.tup [.int 1, .int 2], .tup [.int 3, .int 1]]), some (.tup [.tup [.tup [.int 1, .int 1], .tup [.int 0, .int 1]], .tup [.int 5, .int 1]]), some (.tup [.tup [.tup [.int 1, .int 2], .tup [.int 3, .int 1]], .tup [.int 1, .int 1]]), some (.tup [.tup [.tup [.tup [.int 1, .int 2], .tup [.int 3, .int 1]], .tup [.int 1, .int 1]], .tup [.tup [.tup [.int 1, .int 2], .tup [.int 3, .int 1]], .tup [.int 1, .int 1]], .tup [.tup [.tup [.int 1, .int 2], .tup [.int 3, .int 1]], .tup [.int 1, .int 1]]])] [[.int a10, .int b10, .int c10], [.str [119, 105, 100, 116, 104], .str [102, 101, 110, 99, 101], .str [114, 111, 119], .str [102, 105, 110, 101], .str [119, 105, 100, 116, 104], .str [102, 101, 110, 99, 101], .str [114, 111, 119], .str [102, 105, 110, 101]], [.str [119, 105, 100, 116, 104], .str [114, 111, 111, 109], .str [114, 111, 119], .str [102, 105, 110, 101], .str [119, 105, 100, 116, 104], .str [114, 111, 111, 109], .str [114, 111, 119], .str [102, 105, 110, 101]], [.str [119, 105, 100, 116, 104], .str [102, 101, 110, 99, 101], .str [102, 105, 110, 101], .str [119, 105, 100, 116, 104]]] = .nx [some (.ref 0), some d0, some d1, some d2, some d3, some (.ref 3), some (.fn 36), some (.tup [.tup [.int 1, .int 2], .tup [.int 3, .int 1]]), some (.tup [.tup [.tup [.int 1, .int 1], .tup [.int 0, .int 1]], .tup [.int 5, .int 1]]), some (.tup [.tup [.tup [.int 1, .int 2], .tup [.int 3, .int 1]], .tup [.int 1, .int 1]]), some (.tup [.tup [.tup [.tup [.int 1, .int 2], .tup [.int 3, .int 1]], .tup [.int 1, .int 1]], .tup [.tup [.tup [.int 1, .int 2], .tup [.int 3, .int 1]], .tup [.int 1, .int 1]], .tup [.tup [.tup [.int 1, .int 2], .tup [.int 3, .int 1]], .tup [.int 1, .int 1]]])] [[.int a10, .int b10, .int c10], [.str [119, 105, 100, 116, 104], .str [102, 101, 110, 99, 101], .str [114, 111, 119], .str [102, 105, 110, 101], .str [119, 105, 100, 116, 104], .str [102, 101, 110, 99, 101], .str [114, 111, 119], .str [102, 105, 110, 101]], [.str [119, 105, 100, 116, 104], .str [114, 111, 111, 109], .str [114, 111, 119], .str [102, 105, 110, 101], .str [119, 105, 100, 116, 104], .str [114, 111, 111, 109], .str [114, 111, 119], .str [102, 105, 110, 101]], [.str [119, 105, 100, 116, 104], .str [102, 101, 110, 99, 101], .str [102, 105, 110, 101], .str [119, 105, 100, 116, 104], .str [102, 101, 110, 99, 101]]] := by
  simp only [m_d2, List.mem_cons, List.not_mem_nil, or_false] at h_d2
  rcases h_d2 with rfl | rfl | rfl | rfl | rfl | rfl | rfl | rfl | rfl <;> kernel_rfl
theorem t40 (a10 b10 c10 : Int) (d0 : D) (d1 : D) (d2 : D) (d3 : D)  : evS (R 38) gcons ((blk (F_law_right.body.getD 13 .pass)).getD 2 .pass) [some (.ref 0), some d0, some d1, some d2, some d3, some (.ref 3), some (.fn 36), some (.tup [.tup [.int 1, .int 2], .tup [.int 3, .int 1]]), some (.tup [.tup [.tup [.int 1, .int 1], .tup [.int 0, .int 1]], .tup [.int 5, .int 1]]), some (.tup [.tup [.tup [.int 1, .int 2], .tup [.int 3, .int 1]], .tup [.int 1, .int 1]]), some (.tup [.tup [.tup [.tup [.int 1, .int 2], .tup [.int 3, .int 1]], .tup [.int 1, .int 1]], .tup [.tup [.tup [.int 1, .int 2], .tup [.int 3, .int 1]], .tup [.int 1, .int 1]], .tup [.tup [.tup [.int 1, .int 2], .tup [.int 3, .int 1]], .tup [.int 1, .int 1]]])] [[.int a10, .int b10, .int c10], [.str [119, 105, 100, 116, 104], .str [102, 101, 110, 99, 101], .str [114, 111, 119], .str [102, 105, 110, 101], .str [119, 105, 100, 116, 104], .str [102, 101, 110, 99, 101], .str [114, 111, 119], .str [102, 105, 110, 101]], [.str [119, 105, 100, 116, 104], .str [114, 111, 111, 109], .str [114, 111, 119], .str [102, 105, 110, 101], .str [119, 105, 100, 116, 104], .str [114, 111, 111, 109], .str [114, 111, 119], .str [102, 105, 110, 101]], [.str [119, 105, 100, 116, 104], .str [102, 101, 110, 99, 101], .str [102, 105, 110, 101], .str [119, 105, 100, 116, 104], .str [102, 101, 110, 99, 101]]] = .nx [some (.ref 0), some d0, some d1, some d2, some d3, some (.ref 3), some (.fn 36), some (.tup [.tup [.int 1, .int 2], .tup [.int 3, .int 1]]), some (.tup [.tup [.tup [.int 1, .int 1], .tup [.int 0, .int 1]], .tup [.int 5, .int 1]]), some (.tup [.tup [.tup [.int 1, .int 2], .tup [.int 3, .int 1]], .tup [.int 1, .int 1]]), some (.tup [.tup [.tup [.tup [.int 1, .int 2], .tup [.int 3, .int 1]], .tup [.int 1, .int 1]], .tup [.tup [.tup [.int 1, .int 2], .tup [.int 3, .int 1]], .tup [.int 1, .int 1]], .tup [.tup [.tup [.int 1, .int 2], .tup [.int 3, .int 1]], .tup [.int 1, .int 1]]])] [[.int a10, .int b10, .int c10], [.str [119, 105, 100, 116, 104], .str [102, 101, 110, 99, 101], .str [114, 111, 119], .str [102, 105, 110, 101], .str [119, 105, 100, 116, 104], .str [102, 101, 110, 99, 101], .str [114, 111, 119], .str [102, 105, 110, 101]], [.str [119, 105, 100, 116, 104], .str [114, 111, 111, 109], .str [114, 111, 119], .str [102, 105, 110, 101], .str [119, 105, 100, 116, 104], .str [114, 111, 111, 109], .str [114, 111, 119], .str [102, 105, 110, 101]], [.str [119, 105, 100, 116, 104], .str [102, 101, 110, 99, 101], .str [102, 105, 110, 101], .str [119, 105, 100, 116, 104], .str [102, 101, 110, 99, 101], .str [102, 105, 110, 101]]] := by
  kernel_rfl
theorem t41 (a10 b10 c10 : Int) (d0 : D) (d1 : D) (d2 : D) (d3 : D) (h_d0 : d0 ∈ m_d0) : evS (R 38) gcons ((blk (F_law_right.body.getD 13 .pass)).getD 0 .pass) [some (.ref 0), some d0, some d1, some d2, some d3, some (.ref 3), some (.fn 42), some (.tup [.tup [.int 1, .int 2], .tup [.int 3, .int 1]]), some (.tup [.tup [.tup [.int 1, .int 1], .tup [.int 0, .int 1]], .tup [.int 5, .int 1]]), some (.tup [.tup [.tup [.int 1, .int 2], .tup [.int 3, .int 1]], .tup [.int 1, .int 1]]), some (.tup [.tup [.tup [.tup [.int 1, .int 2], .tup [.int 3, .int 1]], .tup [.int 1, .int 1]], .tup [.tup [.tup [.int 1, .int 2], .tup [.int 3, .int 1]], .tup [.int 1, .int 1]], .tup [.tup [.tup [.int 1, .int 2], .tup [.int 3, .int 1]], .tup [.int 1, .int 1]]])] [[.int a10, .int b10, .int c10], [.str [119, 105, 100, 116, 104], .str [102, 101, 110, 99, 101], .str [114, 111, 119], .str [102, 105, 110, 101], .str [119, 105, 100, 116, 104], .str [102, 101, 110, 99, 101], .str [114, 111, 119], .str [102, 105, 110, 101]], [.str [119, 105, 100, 116, 104], .str [114, 111, 111, 109], .str [114, 111, 119], .str [102, 105, 110, 101], .str [119, 105, 100, 116, 104], .str [114, 111, 111, 109], .str [114, 111, 119], .str [102, 105, 110, 101]], [.str [119, 105, 100, 116, 104], .str [102, 101, 110, 99, 101], .str [102, 105, 110, 101], .str [119, 105, 100, 116, 104], .str [102, 101, 110, 99, 101], .str [102, 105, 110, 101]]] = .nx [some (.ref 0), some d0, some d1, some d2, some d3, some (.ref 3), some (.fn 42), some (.tup [.tup [.int 1, .int 2], .tup [.int 3, .int 1]]), some (.tup [.tup [.tup [.int 1, .int 1], .tup [.int 0, .int 1]], .tup [.int 5, .int 1]]), some (.tup [.tup [.tup [.int 1, .int 2], .tup [.int 3, .int 1]], .tup [.int 1, .int 1]]), some (.tup [.tup [.tup [.tup [.int 1, .int 2], .tup [.int 3, .int 1]], .tup [.int 1, .int 1]], .tup [.tup [.tup [.int 1, .int 2], .tup [.int 3, .int 1]], .tup [.int 1, .int 1]], .tup [.tup [.tup [.int 1, .int 2], .tup [.int 3, .int 1]], .tup [.int 1, .int 1]]])] [[.int a10, .int b10, .int c10], [.str [119, 105, 100, 116, 104], .str [102, 101, 110, 99, 101], .str [114, 111, 119], .str [102, 105, 110, 101], .str [119, 105, 100, 116, 104], .str [102, 101, 110, 99, 101], .str [114, 111, 119], .str [102, 105, 110, 101]], [.str [119, 105, 100, 116, 104], .str [114, 111, 111, 109], .str [114, 111, 119], .str [102, 105, 110, 101], .str [119, 105, 100, 116, 104], .str [114, 111, 111, 109], .str [114, 111, 119], .str [102, 105, 110, 101]], [.str [119, 105, 100, 116, 104], .str [102, 101, 110, 99, 101], .str [102, 105, 110, 101], .str [119, 105, 100, 116, 104], .str [102, 101, 110, 99, 101], .str [102, 105, 110, 101], .str [119, 105, 100, 116, 104]]] := by
  simp only [m_d0, List.mem_cons, List.not_mem_nil, or_false] at h_d0
  rcases h_d0 with rfl | rfl | rfl | rfl | rfl | rfl <;> kernel_rfl
theorem t42 (a10 b10 c10 : Int) (d0 : D) (d1 : D) (d2 : D) (d3 : D) (h_d2 : d2 ∈ m_d2) : evS (R 38) gcons ((blk (F_law_right.body.getD 13 .pass)).getD 1 .pass) [some (.ref 0), some d0, some d1, some d2, some d3, some (.ref 3), some (.fn 42), some (.tup [.tup [.int 1, .int 2], .tup [.int 3, .int 1]]), some (.tup [.tup [.tup [.int 1, .int 1], .tup [.int 0, .int 1]], .tup [.int 5, .int 1]]), some (.tup [.tup [.tup [.int 1, .int 2], .tup [.int 3, .int 1]], .tup [.int 1, .int 1]]), some (.tup [.tup [.tup [.tup [.int 1, .int 2], .tup [.int 3, .int 1]], .tup [.int 1, .int 1]], .tup [.tup [.tup [.int 1, .int 2], .tup [.int 3, .int 1]], .tup [.int 1, .int 1]], .tup [.tup [.tup [.int 1, .int 2], .tup [.int 3, .int 1]], .tup [.int 1, .int 1]]])] [[.int a10, .int b10, .int c10], [.str [119, 105, 100, 116, 104], .str [102, 101, 110, 99, 101], .str [114, 111, 119], .str [102, 105, 110, 101], .str [119, 105, 100, 116, 104], .str [102, 101, 110, 99, 101], .str [114, 111, 119], .str [102, 105, 110, 101]], [.str [119, 105, 100, 116, 104], .str [114, 111, 111, 109], .str [114, 111, 119], .str [102, 105, 110, 101], .str [119, 105, 100, 116, 104], .str [114, 111, 111, 109], .str [114, 111, 119], .str [102, 105, 110, 101]], [.str [119, 105, 100, 116, 104], .str [102, 101, 110, 99, 101], .str [102, 105, 110, 101], .str [119, 105, 100, 116, 104], .str [102, 101, 110, 99, 101], .str [102, 105, 110, 101], .str [119, 105, 100, 116, 104]]] = .nx [some (.ref 0), some d0, some d1, some d2, some d3, some (.ref 3), some (.fn 42), some (.tup [.tup [.int 1, .int 2], .tup [.int 3, .int 1]]), some (.tup [.tup [.tup [.int 1, .int 1], .tup [.int 0, .int 1]], .tup [.int 5, .int 1]]), some (.tup [.tup [.tup [.int 1, .int 2], .tup [.int 3, .int 1]], .tup [.int 1, .int 1]]), some (.tup [.tup [.tup [.tup [.int 1, .int 2], .tup [.int 3, .int 1]], .tup [.int 1, .int 1]], .tup [.tup [.tup [.int 1, .int 2], .tup [.int 3, .int 1]], .tup [.int 1, .int 1]], .tup [.tup [.tup [.int 1, .int 2], .tup [.int 3, .int 1]], .tup [.int 1, .int 1]]])] [[.int a10, .int b10, .int c10], [.str [119, 105, 100, 116, 104], .str [102, 101, 110, 99, 101], .str [114, 111, 119], .str [102, 105, 110, 101], .str [119, 105, 100, 116, 104], .str [102, 101, 110, 99, 101], .str [114, 111, 119], .str [102, 105, 110, 101]], [.str [119, 105, 100, 116, 104], .str [114, 111, 111, 109], .str [114, 111, 119], .str [102, 105, 110, 101], .str [119, 105, 100, 116, 104], .str [114, 111, 111, 109], .str [114, 111, 119], .str [102, 105, 110, 101]], [.str [119, 105, 100, 116, 104], .str [102, 101, 110, 99, 101], .str [102, 105, 110, 101], .str [119, 105, 100, 116, 104], .str [102, 101, 110, 99, 101], .str [102, 105, 110, 101], .str [119, 105, 100, 116, 104], .str [102, 101, 110, 99, 101]]] := by
  simp only [m_d2, List.mem_cons, List.not_mem_nil, or_false] at h_d2
  rcases h_d2 with rfl | rfl | rfl | rfl | rfl | rfl | rfl | rfl | rfl <;> kernel_rfl
theorem t43 (a10 b10 c10 : Int) (d0 : D) (d1 : D) (d2 : D) (d3 : D)  : evS (R 38) gcons ((blk (F_law_right.body.getD 13 .pass)).getD 2 .pass) [some (.ref 0), some d0, some d1, some d2, some d3, some (.ref 3), some (.fn 42), some (.tup [.tup [.int 1, .int 2], .tup [.int 3, .int 1]]), some (.tup [.tup [.tup [.int 1, .int 1], .tup [.int 0, .int 1]], .tup [.int 5, .int 1]]), some (.tup [.tup [.tup [.int 1, .int 2], .tup [.int 3, .int 1]], .tup [.int 1, .int 1]]), some (.tup [.tup [.tup [.tup [.int 1, .int 2], .tup [.int 3, .int 1]], .tup [.int 1, .int 1]], .tup [.tup [.tup [.int 1, .int 2], .tup [.int 3, .int 1]], .tup [.int 1, .int 1]], .tup [.tup [.tup [.int 1, .int 2], .tup [.int 3, .int 1]], .tup [.int 1, .int 1]]])] [[.int a10, .int b10, .int c10], [.str [119, 105, 100, 116, 104], .str [102, 101, 110, 99, 101], .str [114, 111, 119], .str [102, 105, 110, 101], .str [119, 105, 100, 116, 104], .str [102, 101, 110, 99, 101], .str [114, 111, 119], .str [102, 105, 110, 101]], [.str [119, 105, 100, 116, 104], .str [114, 111, 111, 109], .str [114, 111, 119], .str [102, 105, 110, 101], .str [119, 105, 100, 116, 104], .str [114, 111, 111, 109], .str [114, 111, 119], .str [102, 105, 110, 101]], [.str [119, 105, 100, 116, 104], .str [102, 101, 110, 99, 101], .str [102, 105, 110, 101], .str [119, 105, 100, 116, 104], .str [102, 101, 110, 99, 101], .str [102, 105, 110, 101], .str [119, 105, 100, 116, 104], .str [102, 101, 110, 99, 101]]] = .nx [some (.ref 0), some d0, some d1, some d2, some d3, some (.ref 3), some (.fn 42), some (.tup [.tup [.int 1, .int 2], .tup [.int 3, .int 1]]), some (.tup [.tup [.tup [.int 1, .int 1], .tup [.int 0, .int 1]], .tup [.int 5, .int 1]]), some (.tup [.tup [.tup [.int 1, .int 2], .tup [.int 3, .int 1]], .tup [.int 1, .int 1]]), some (.tup [.tup [.tup [.tup [.int 1, .int 2], .tup [.int 3, .int 1]], .tup [.int 1, .int 1]], .tup [.tup [.tup [.int 1, .int 2], .tup [.int 3, .int 1]], .tup [.int 1, .int 1]], .tup [.tup [.tup [.int 1, .int 2], .tup [.int 3, .int 1]], .tup [.int 1, .int 1]]])] [[.int a10, .int b10, .int c10], [.str [119, 105, 100, 116, 104], .str [102, 101, 110, 99, 101], .str [114, 111, 119], .str [102, 105, 110, 101], .str [119, 105, 100, 116, 104], .str [102, 101, 110, 99, 101], .str [114, 111, 119], .str [102, 105, 110, 101]], [.str [119, 105, 100, 116, 104], .str [114, 111, 111, 109], .str [114, 111, 119], .str [102, 105, 110, 101], .str [119, 105, 100, 116, 104], .str [114, 111, 111, 109], .str [114, 111, 119], .str [102, 105, 110, 101]], [.str [119, 105, 100, 116, 104], .str [102, 101, 110, 99, 101], .str [102, 105, 110, 101], .str [119, 105, 100, 116, 104], .str [102, 101, 110, 99, 101], .str [102, 105, 110, 101], .str [119, 105, 100, 116, 104], .str [102, 101, 110, 99, 101], .str [102, 105, 110, 101]]] := by
  kernel_rfl
theorem t44 (a10 b10 c10 : Int) (d0 : D) (d1 : D) (d2 : D) (d3 : D)  : evS (R 38) gcons (F_law_right.body.getD 14 .pass) [some (.ref 0), some d0, some d1, some d2, some d3, some (.ref 3), some (.fn 42), some (.tup [.tup [.int 1, .int 2], .tup [.int 3, .int 1]]), some (.tup [.tup [.tup [.int 1, .int 1], .tup [.int 0, .int 1]], .tup [.int 5, .int 1]]), some (.tup [.tup [.tup [.int 1, .int 2], .tup [.int 3, .int 1]], .tup [.int 1, .int 1]]), some (.tup [.tup [.tup [.tup [.int 1, .int 2], .tup [.int 3, .int 1]], .tup [.int 1, .int 1]], .tup [.tup [.tup [.int 1, .int 2], .tup [.int 3, .int 1]], .tup [.int 1, .int 1]], .tup [.tup [.tup [.int 1, .int 2], .tup [.int 3, .int 1]], .tup [.int 1, .int 1]]])] [[.int a10, .int b10, .int c10], [.str [119, 105, 100, 116, 104], .str [102, 101, 110, 99, 101], .str [114, 111, 119], .str [102, 105, 110, 101], .str [119, 105, 100, 116, 104], .str [102, 101, 110, 99, 101], .str [114, 111, 119], .str [102, 105, 110, 101]], [.str [119, 105, 100, 116, 104], .str [114, 111, 111, 109], .str [114, 111, 119], .str [102, 105, 110, 101], .str [119, 105, 100, 116, 104], .str [114, 111, 111, 109], .str [114, 111, 119], .str [102, 105, 110, 101]], [.str [119, 105, 100, 116, 104], .str [102, 101, 110, 99, 101], .str [102, 105, 110, 101], .str [119, 105, 100, 116, 104], .str [102, 101, 110, 99, 101], .str [102, 105, 110, 101], .str [119, 105, 100, 116, 104], .str [102, 101, 110, 99, 101], .str [102, 105, 110, 101]]] = .nx [some (.ref 0), some d0, some d1, some d2, some d3, some (.ref 3), some (.fn 42), some (.tup [.tup [.int 1, .int 2], .tup [.int 3, .int 1]]), some (.tup [.tup [.tup [.int 1, .int 1], .tup [.int 0, .int 1]], .tup [.int 5, .int 1]]), some (.tup [.tup [.tup [.int 1, .int 2], .tup [.int 3, .int 1]], .tup [.int 1, .int 1]]), some (.tup [.tup [.tup [.tup [.int 1, .int 2], .tup [.int 3, .int 1]], .tup [.int 1, .int 1]], .tup [.tup [.tup [.int 1, .int 2], .tup [.int 3, .int 1]], .tup [.int 1, .int 1]], .tup [.tup [.tup [.int 1, .int 2], .tup [.int 3, .int 1]], .tup [.int 1, .int 1]]])] [[.int a10, .int b10, .int c10], [.str [119, 105, 100, 116, 104], .str [102, 101, 110, 99, 101], .str [114, 111, 119], .str [102, 105, 110, 101], .str [119, 105, 100, 116, 104], .str [102, 101, 110, 99, 101], .str [114, 111, 119], .str [102, 105, 110, 101]], [.str [119, 105, 100, 116, 104], .str [114, 111, 111, 109], .str [114, 111, 119], .str [102, 105, 110, 101], .str [119, 105, 100, 116, 104], .str [114, 111, 111, 109], .str [114, 111, 119], .str [102, 105, 110, 101]], [.str [119, 105, 100, 116, 104], .str [102, 101, 110, 99, 101], .str [102, 105, 110, 101], .str [119, 105, 100, 116, 104], .str [102, 101, 110, 99, 101], .str [102, 105, 110, 101], .str [119, 105, 100, 116, 104], .str [102, 101, 110, 99, 101], .str [102, 105, 110, 101]]] := by
  kernel_rfl
theorem t45 (a10 b10 c10 : Int) (d0 : D) (d1 : D) (d2 : D) (d3 : D)  : evEs (R 38) gcons ([(.slot 0), (.slot 7), (.slot 8), (.slot 9), (.slot 10), (.slot 1), (.slot 2), (.slot 3), (.slot 4)]) [some (.ref 0), some d0, some d1, some d2, some d3, some (.ref 3), some (.fn 42), some (.tup [.tup [.int 1, .int 2], .tup [.int 3, .int 1]]), some (.tup [.tup [.tup [.int 1, .int 1], .tup [.int 0, .int 1]], .tup [.int 5, .int 1]]), some (.tup [.tup [.tup [.int 1, .int 2], .tup [.int 3, .int 1]], .tup [.int 1, .int 1]]), some (.tup [.tup [.tup [.tup [.int 1, .int 2], .tup [.int 3, .int 1]], .tup [.int 1, .int 1]], .tup [.tup [.tup [.int 1, .int 2], .tup [.int 3, .int 1]], .tup [.int 1, .int 1]], .tup [.tup [.tup [.int 1, .int 2], .tup [.int 3, .int 1]], .tup [.int 1, .int 1]]])] [[.int a10, .int b10, .int c10], [.str [119, 105, 100, 116, 104], .str [102, 101, 110, 99, 101], .str [114, 111, 119], .str [102, 105, 110, 101], .str [119, 105, 100, 116, 104], .str [102, 101, 110, 99, 101], .str [114, 111, 119], .str [102, 105, 110, 101]], [.str [119, 105, 100, 116, 104], .str [114, 111, 111, 109], .str [114, 111, 119], .str [102, 105, 110, 101], .str [119, 105, 100, 116, 104], .str [114, 111, 111, 109], .str [114, 111, 119], .str [102, 105, 110, 101]], [.str [119, 105, 100, 116, 104], .str [102, 101, 110, 99, 101], .str [102, 105, 110, 101], .str [119, 105, 100, 116, 104], .str [102, 101, 110, 99, 101], .str [102, 105, 110, 101], .str [119, 105, 100, 116, 104], .str [102, 101, 110, 99, 101], .str [102, 105, 110, 101]]] = .ok [.ref 0, .tup [.tup [.int 1, .int 2], .tup [.int 3, .int 1]], .tup [.tup [.tup [.int 1, .int 1], .tup [.int 0, .int 1]], .tup [.int 5, .int 1]], .tup [.tup [.tup [.int 1, .int 2], .tup [.int 3, .int 1]], .tup [.int 1, .int 1]], .tup [.tup [.tup [.tup [.int 1, .int 2], .tup [.int 3, .int 1]], .tup [.int 1, .int 1]], .tup [.tup [.tup [.int 1, .int 2], .tup [.int 3, .int 1]], .tup [.int 1, .int 1]], .tup [.tup [.tup [.int 1, .int 2], .tup [.int 3, .int 1]], .tup [.int 1, .int 1]]], d0, d1, d2, d3] [[.int a10, .int b10, .int c10], [.str [119, 105, 100, 116, 104], .str [102, 101, 110, 99, 101], .str [114, 111, 119], .str [102, 105, 110, 101], .str [119, 105, 100, 116, 104], .str [102, 101, 110, 99, 101], .str [114, 111, 119], .str [102, 105, 110, 101]], [.str [119, 105, 100, 116, 104], .str [114, 111, 111, 109], .str [114, 111, 119], .str [102, 105, 110, 101], .str [119, 105, 100, 116, 104], .str [114, 111, 111, 109], .str [114, 111, 119], .str [102, 105, 110, 101]], [.str [119, 105, 100, 116, 104], .str [102, 101, 110, 99, 101], .str [102, 105, 110, 101], .str [119, 105, 100, 116, 104], .str [102, 101, 110, 99, 101], .str [102, 105, 110, 101], .str [119, 105, 100, 116, 104], .str [102, 101, 110, 99, 101], .str [102, 105, 110, 101]]] := by
  kernel_rfl
def m_d4 : List D := [.non, .tup [], .lst [.tup [.int 0, .int 1], .tup [.int 0, .int 1], .tup [.int 0, .int 1]], .tup [.tup [.int 0, .int 1], .tup [.int 0, .int 1]], .tup [.tup [.int 0, .int 1], .tup [.int 0, .int 1], .tup [.int (-1), .int 2]], .tup [.tup [.int 0, .int 1], .tup [.int 0, .int 1], .tup [.int 0, .int 1], .tup [.int 0, .int 1]], .int 0]
theorem t46 (a10 b10 c10 : Int) (d0 : D) (d1 : D) (d2 : D) (d3 : D)  : evEs (R 37) gcons ([(.slot 0), (.lst [(.con .non), (.tup []), (.bin .mul (.lst [(.tup [(.con (.int 0)), (.con (.int 1))])]) (.con (.int 3))), (.bin .mul (.tup [(.tup [(.con (.int 0)), (.con (.int 1))])]) (.con (.int 2))), (.tup [(.tup [(.con (.int 0)), (.con (.int 1))]), (.tup [(.con (.int 0)), (.con (.int 1))]), (.tup [(.neg (.con (.int 1))), (.con (.int 2))])]), (.bin .mul (.tup [(.tup [(.con (.int 0)), (.con (.int 1))])]) (.con (.int 4))), (.con (.int 0))])]) [some (.ref 0), some (.tup [.tup [.int 1, .int 2], .tup [.int 3, .int 1]]), some (.tup [.tup [.tup [.int 1, .int 1], .tup [.int 0, .int 1]], .tup [.int 5, .int 1]]), some (.tup [.tup [.tup [.int 1, .int 2], .tup [.int 3, .int 1]], .tup [.int 1, .int 1]]), some (.tup [.tup [.tup [.tup [.int 1, .int 2], .tup [.int 3, .int 1]], .tup [.int 1, .int 1]], .tup [.tup [.tup [.int 1, .int 2], .tup [.int 3, .int 1]], .tup [.int 1, .int 1]], .tup [.tup [.tup [.int 1, .int 2], .tup [.int 3, .int 1]], .tup [.int 1, .int 1]]]), some d0, some d1, some d2, some d3, none, none, none, none] [[.int a10, .int b10, .int c10], [.str [119, 105, 100, 116, 104], .str [102, 101, 110, 99, 101], .str [114, 111, 119], .str [102, 105, 110, 101], .str [119, 105, 100, 116, 104], .str [102, 101, 110, 99, 101], .str [114, 111, 119], .str [102, 105, 110, 101]], [.str [119, 105, 100, 116, 104], .str [114, 111, 111, 109], .str [114, 111, 119], .str [102, 105, 110, 101], .str [119, 105, 100, 116, 104], .str [114, 111, 111, 109], .str [114, 111, 119], .str [102, 105, 110, 101]], [.str [119, 105, 100, 116, 104], .str [102, 101, 110, 99, 101], .str [102, 105, 110, 101], .str [119, 105, 100, 116, 104], .str [102, 101, 110, 99, 101], .str [102, 105, 110, 101], .str [119, 105, 100, 116, 104], .str [102, 101, 110, 99, 101], .str [102, 105, 110, 101]]] = .ok [.ref 0, .lst [.non, .tup [], .lst [.tup [.int 0, .int 1], .tup [.int 0, .int 1], .tup [.int 0, .int 1]], .tup [.tup [.int 0, .int 1], .tup [.int 0, .int 1]], .tup [.tup [.int 0, .int 1], .tup [.int 0, .int 1], .tup [.int (-1), .int 2]], .tup [.tup [.int 0, .int 1], .tup [.int 0, .int 1], .tup [.int 0, .int 1], .tup [.int 0, .int 1]], .int 0]] [[.int a10, .int b10, .int c10], [.str [119, 105, 100, 116, 104], .str [102, 101, 110, 99, 101], .str [114, 111, 119], .str [102, 105, 110, 101], .str [119, 105, 100, 116, 104], .str [102, 101, 110, 99, 101], .str [114, 111, 119], .str [102, 105, 110, 101]], [.str [119, 105, 100, 116, 104], .str [114, 111, 111, 109], .str [114, 111, 119], .str [102, 105, 110, 101], .str [119, 105, 100, 116, 104], .str [114, 111, 111, 109], .str [114, 111, 119], .str [102, 105, 110, 101]], [.str [119, 105, 100, 116, 104], .str [102, 101, 110, 99, 101], .str [102, 105, 110, 101], .str [119, 105, 100, 116, 104], .str [102, 101, 110, 99, 101], .str [102, 105, 110, 101], .str [119, 105, 100, 116, 104], .str [102, 101, 110, 99, 101], .str [102, 105, 110, 101]]] := by
  kernel_rfl
theorem t48 (a47 b47 c47 : Int) (d0 : D) (d1 : D) (d2 : D) (d3 : D) (d4 : D)  : evS (R 37) gcons (F_law_others_right.body.getD 1 .pass) [some (.ref 0), some (.tup [.tup [.int 1, .int 2], .tup [.int 3, .int 1]]), some (.tup [.tup [.tup [.int 1, .int 1], .tup [.int 0, .int 1]], .tup [.int 5, .int 1]]), some (.tup [.tup [.tup [.int 1, .int 2], .tup [.int 3, .int 1]], .tup [.int 1, .int 1]]), some (.tup [.tup [.tup [.tup [.int 1, .int 2], .tup [.int 3, .int 1]], .tup [.int 1, .int 1]], .tup [.tup [.tup [.int 1, .int 2], .tup [.int 3, .int 1]], .tup [.int 1, .int 1]], .tup [.tup [.tup [.int 1, .int 2], .tup [.int 3, .int 1]], .tup [.int 1, .int 1]]]), some d0, some d1, some d2, some d3, some d4, none, none, none] [[.int a47, .int b47, .int c47], [.str [119, 105, 100, 116, 104], .str [102, 101, 110, 99, 101], .str [114, 111, 119], .str [102, 105, 110, 101], .str [119, 105, 100, 116, 104], .str [102, 101, 110, 99, 101], .str [114, 111, 119], .str [102, 105, 110, 101]], [.str [119, 105, 100, 116, 104], .str [114, 111, 111, 109], .str [114, 111, 119], .str [102, 105, 110, 101], .str [119, 105, 100, 116, 104], .str [114, 111, 111, 109], .str [114, 111, 119], .str [102, 105, 110, 101]], [.str [119, 105, 100, 116, 104], .str [102, 101, 110, 99, 101], .str [102, 105, 110, 101], .str [119, 105, 100, 116, 104], .str [102, 101, 110, 99, 101], .str [102, 105, 110, 101], .str [119, 105, 100, 116, 104], .str [102, 101, 110, 99, 101], .str [102, 105, 110, 101]]] = .nx [some (.ref 0), some (.tup [.tup [.int 1, .int 2], .tup [.int 3, .int 1]]), some (.tup [.tup [.tup [.int 1, .int 1], .tup [.int 0, .int 1]], .tup [.int 5, .int 1]]), some (.tup [.tup [.tup [.int 1, .int 2], .tup [.int 3, .int 1]], .tup [.int 1, .int 1]]), some (.tup [.tup [.tup [.tup [.int 1, .int 2], .tup [.int 3, .int 1]], .tup [.int 1, .int 1]], .tup [.tup [.tup [.int 1, .int 2], .tup [.int 3, .int 1]], .tup [.int 1, .int 1]], .tup [.tup [.tup [.int 1, .int 2], .tup [.int 3, .int 1]], .tup [.int 1, .int 1]]]), some d0, some d1, some d2, some d3, some d4, some (.lams 0), none, none] [[.int a47, .int b47, .int c47], [.str [119, 105, 100, 116, 104], .str [102, 101, 110, 99, 101], .str [114, 111, 119], .str [102, 105, 110, 101], .str [119, 105, 100, 116, 104], .str [102, 101, 110, 99, 101], .str [114, 111, 119], .str [102, 105, 110, 101]], [.str [119, 105, 100, 116, 104], .str [114, 111, 111, 109], .str [114, 111, 119], .str [102, 105, 110, 101], .str [119, 105, 100, 116, 104], .str [114, 111, 111, 109], .str [114, 111, 119], .str [102, 105, 110, 101]], [.str [119, 105, 100, 116, 104], .str [102, 101, 110, 99, 101], .str [102, 105, 110, 101], .str [119, 105, 100, 116, 104], .str [102, 101, 110, 99, 101], .str [102, 105, 110, 101], .str [119, 105, 100, 116, 104], .str [102, 101, 110, 99, 101], .str [102, 105, 110, 101]]] := by
  kernel_rfl
theorem t49 (a47 b47 c47 : Int) (d0 : D) (d1 : D) (d2 : D) (d3 : D) (d4 : D)  : evS (R 37) gcons (F_law_others_right.body.getD 2 .pass) [some (.ref 0), some (.tup [.tup [.int 1, .int 2], .tup [.int 3, .int 1]]), some (.tup [.tup [.tup [.int 1, .int 1], .tup [.int 0, .int 1]], .tup [.int 5, .int 1]]), some (.tup [.tup [.tup [.int 1, .int 2], .tup [.int 3, .int 1]], .tup [.int 1, .int 1]]), some (.tup [.tup [.tup [.tup [.int 1, .int 2], .tup [.int 3, .int 1]], .tup [.int 1, .int 1]], .tup [.tup [.tup [.int 1, .int 2], .tup [.int 3, .int 1]], .tup [.int 1, .int 1]], .tup [.tup [.tup [.int 1, .int 2], .tup [.int 3, .int 1]], .tup [.int 1, .int 1]]]), some d0, some d1, some d2, some d3, some d4, some (.lams 0), none, none] [[.int a47, .int b47, .int c47], [.str [119, 105, 100, 116, 104], .str [102, 101, 110, 99, 101], .str [114, 111, 119], .str [102, 105, 110, 101], .str [119, 105, 100, 116, 104], .str [102, 101, 110, 99, 101], .str [114, 111, 119], .str [102, 105, 110, 101]], [.str [119, 105, 100, 116, 104], .str [114, 111, 111, 109], .str [114, 111, 119], .str [102, 105, 110, 101], .str [119, 105, 100, 116, 104], .str [114, 111, 111, 109], .str [114, 111, 119], .str [102, 105, 110, 101]], [.str [119, 105, 100, 116, 104], .str [102, 101, 110, 99, 101], .str [102, 105, 110, 101], .str [119, 105, 100, 116, 104], .str [102, 101, 110, 99, 101], .str [102, 105, 110, 101], .str [119, 105, 100, 116, 104], .str [102, 101, 110, 99, 101], .str [102, 105, 110, 101]]] = .nx [some (.ref 0), some (.tup [.tup [.int 1, .int 2], .tup [.int 3, .int 1]]), some (.tup [.tup [.tup [.int 1, .int 1], .tup [.int 0, .int 1]], .tup [.int 5, .int 1]]), some (.tup [.tup [.tup [.int 1, .int 2], .tup [.int 3, .int 1]], .tup [.int 1, .int 1]]), some (.tup [.tup [.tup [.tup [.int 1, .int 2], .tup [.int 3, .int 1]], .tup [.int 1, .int 1]], .tup [.tup [.tup [.int 1, .int 2], .tup [.int 3, .int 1]], .tup [.int 1, .int 1]], .tup [.tup [.tup [.int 1, .int 2], .tup [.int 3, .int 1]], .tup [.int 1, .int 1]]]), some d0, some d1, some d2, some d3, some d4, some (.lams 0), some (.lst [.str [119, 105, 100, 116, 104], .str [119, 105, 100, 116, 104], .str [119, 105, 100, 116, 104], .str [114, 111, 111, 109], .str [114, 111, 111, 109], .str [109, 97, 110, 121, 32, 52, 48], .str [102, 105, 110, 101], .str [119, 105, 100, 116, 104], .str [102, 111, 114, 109], .str [102, 101, 110, 99, 101], .str [119, 105, 100, 116, 104], .str [102, 111, 114, 109], .str [102, 105, 110, 101]]), none] [[.int a47, .int b47, .int c47], [.str [119, 105, 100, 116, 104], .str [102, 101, 110, 99, 101], .str [114, 111, 119], .str [102, 105, 110, 101], .str [119, 105, 100, 116, 104], .str [102, 101, 110, 99, 101], .str [114, 111, 119], .str [102, 105, 110, 101]], [.str [119, 105, 100, 116, 104], .str [114, 111, 111, 109], .str [114, 111, 119], .str [102, 105, 110, 101], .str [119, 105, 100, 116, 104], .str [114, 111, 111, 109], .str [114, 111, 119], .str [102, 105, 110, 101]], [.str [119, 105, 100, 116, 104], .str [102, 101, 110, 99, 101], .str [102, 105, 110, 101], .str [119, 105, 100, 116, 104], .str [102, 101, 110, 99, 101], .str [102, 105, 110, 101], .str [119, 105, 100, 116, 104], .str [102, 101, 110, 99, 101], .str [102, 105, 110, 101]]] := by
  kernel_rfl
theorem t50 (a47 b47 c47 : Int) (d0 : D) (d1 : D) (d2 : D) (d3 : D) (d4 : D)  : evS (R 37) gcons (F_law_others_right.body.getD 3 .pass) [some (.ref 0), some (.tup [.tup [.int 1, .int 2], .tup [.int 3, .int 1]]), some (.tup [.tup [.tup [.int 1, .int 1], .tup [.int 0, .int 1]], .tup [.int 5, .int 1]]), some (.tup [.tup [.tup [.int 1, .int 2], .tup [.int 3, .int 1]], .tup [.int 1, .int 1]]), some (.tup [.tup [.tup [.tup [.int 1, .int 2], .tup [.int 3, .int 1]], .tup [.int 1, .int 1]], .tup [.tup [.tup [.int 1, .int 2], .tup [.int 3, .int 1]], .tup [.int 1, .int 1]], .tup [.tup [.tup [.int 1, .int 2], .tup [.int 3, .int 1]], .tup [.int 1, .int 1]]]), some d0, some d1, some d2, some d3, some d4, some (.lams 0), some (.lst [.str [119, 105, 100, 116, 104], .str [119, 105, 100, 116, 104], .str [119, 105, 100, 116, 104], .str [114, 111, 111, 109], .str [114, 111, 111, 109], .str [109, 97, 110, 121, 32, 52, 48], .str [102, 105, 110, 101], .str [119, 105, 100, 116, 104], .str [102, 111, 114, 109], .str [102, 101, 110, 99, 101], .str [119, 105, 100, 116, 104], .str [102, 111, 114, 109], .str [102, 105, 110, 101]]), none] [[.int a47, .int b47, .int c47], [.str [119, 105, 100, 116, 104], .str [102, 101, 110, 99, 101], .str [114, 111, 119], .str [102, 105, 110, 101], .str [119, 105, 100, 116, 104], .str [102, 101, 110, 99, 101], .str [114, 111, 119], .str [102, 105, 110, 101]], [.str [119, 105, 100, 116, 104], .str [114, 111, 111, 109], .str [114, 111, 119], .str [102, 105, 110, 101], .str [119, 105, 100, 116, 104], .str [114, 111, 111, 109], .str [114, 111, 119], .str [102, 105, 110, 101]], [.str [119, 105, 100, 116, 104], .str [102, 101, 110, 99, 101], .str [102, 105, 110, 101], .str [119, 105, 100, 116, 104], .str [102, 101, 110, 99, 101], .str [102, 105, 110, 101], .str [119, 105, 100, 116, 104], .str [102, 101, 110, 99, 101], .str [102, 105, 110, 101]]] = .nx [some (.ref 0), some (.tup [.tup [.int 1, .int 2], .tup [.int 3, .int 1]]), some (.tup [.tup [.tup [.int 1, .int 1], .tup [.int 0, .int 1]], .tup [.int 5, .int 1]]), some (.tup [.tup [.tup [.int 1, .int 2], .tup [.int 3, .int 1]], .tup [.int 1, .int 1]]), some (.tup [.tup [.tup [.tup [.int 1, .int 2], .tup [.int 3, .int 1]], .tup [.int 1, .int 1]], .tup [.tup [.tup [.int 1, .int 2], .tup [.int 3, .int 1]], .tup [.int 1, .int 1]], .tup [.tup [.tup [.int 1, .int 2], .tup [.int 3, .int 1]], .tup [.int 1, .int 1]]]), some d0, some d1, some d2, some d3, some d4, some (.lams 0), some (.lst [.str [119, 105, 100, 116, 104], .str [119, 105, 100, 116, 104], .str [119, 105, 100, 116, 104], .str [114, 111, 111, 109], .str [114, 111, 111, 109], .str [109, 97, 110, 121, 32, 52, 48], .str [102, 105, 110, 101], .str [119, 105, 100, 116, 104], .str [102, 111, 114, 109], .str [102, 101, 110, 99, 101], .str [119, 105, 100, 116, 104], .str [102, 111, 114, 109], .str [102, 105, 110, 101], .str [114, 111, 111, 109], .str [119, 105, 100, 116, 104], .str [102, 111, 114, 109], .str [114, 111, 111, 109], .str [119, 105, 100, 116, 104], .str [119, 105, 100, 116, 104], .str [119, 105, 100, 116, 104], .str [114, 111, 119], .str [109, 97, 110, 121, 32, 52, 48], .str [102, 105, 110, 101], .str [114, 111, 119], .str [114, 111, 119]]), none] [[.int a47, .int b47, .int c47], [.str [119, 105, 100, 116, 104], .str [102, 101, 110, 99, 101], .str [114, 111, 119], .str [102, 105, 110, 101], .str [119, 105, 100, 116, 104], .str [102, 101, 110, 99, 101], .str [114, 111, 119], .str [102, 105, 110, 101]], [.str [119, 105, 100, 116, 104], .str [114, 111, 111, 109], .str [114, 111, 119], .str [102, 105, 110, 101], .str [119, 105, 100, 116, 104], .str [114, 111, 111, 109], .str [114, 111, 119], .str [102, 105, 110, 101]], [.str [119, 105, 100, 116, 104], .str [102, 101, 110, 99, 101], .str [102, 105, 110, 101], .str [119, 105, 100, 116, 104], .str [102, 101, 110, 99, 101], .str [102, 105, 110, 101], .str [119, 105, 100, 116, 104], .str [102, 101, 110, 99, 101], .str [102, 105, 110, 101]]] := by
  kernel_rfl
theorem t51 (a47 b47 c47 : Int) (d0 : D) (d1 : D) (d2 : D) (d3 : D) (d4 : D) (h_d0 : d0 ∈ m_d0) : wordD fine hds (evE (R 37) gcons (GS_law_others_right_0.getD 0 .dict0) [some (.ref 0), some (.tup [.tup [.int 1, .int 2], .tup [.int 3, .int 1]]), some (.tup [.tup [.tup [.int 1, .int 1], .tup [.int 0, .int 1]], .tup [.int 5, .int 1]]), some (.tup [.tup [.tup [.int 1, .int 2], .tup [.int 3, .int 1]], .tup [.int 1, .int 1]]), some (.tup [.tup [.tup [.tup [.int 1, .int 2], .tup [.int 3, .int 1]], .tup [.int 1, .int 1]], .tup [.tup [.tup [.int 1, .int 2], .tup [.int 3, .int 1]], .tup [.int 1, .int 1]], .tup [.tup [.tup [.int 1, .int 2], .tup [.int 3, .int 1]], .tup [.int 1, .int 1]]]), some d0, some d1, some d2, some d3, some d4, some (.lams 0), some (.lst [.str [119, 105, 100, 116, 104], .str [119, 105, 100, 116, 104], .str [119, 105, 100, 116, 104], .str [114, 111, 111, 109], .str [114, 111, 111, 109], .str [109, 97, 110, 121, 32, 52, 48], .str [102, 105, 110, 101], .str [119, 105, 100, 116, 104], .str [102, 111, 114, 109], .str [102, 101, 110, 99, 101], .str [119, 105, 100, 116, 104], .str [102, 111, 114, 109], .str [102, 105, 110, 101], .str [114, 111, 111, 109], .str [119, 105, 100, 116, 104], .str [102, 111, 114, 109], .str [114, 111, 111, 109], .str [119, 105, 100, 116, 104], .str [119, 105, 100, 116, 104], .str [119, 105, 100, 116, 104], .str [114, 111, 119], .str [109, 97, 110, 121, 32, 52, 48], .str [102, 105, 110, 101], .str [114, 111, 119], .str [114, 111, 119]]), none] [[.int a47, .int b47, .int c47], [.str [119, 105, 100, 116, 104], .str [102, 101, 110, 99, 101], .str [114, 111, 119], .str [102, 105, 110, 101], .str [119, 105, 100, 116, 104], .str [102, 101, 110, 99, 101], .str [114, 111, 119], .str [102, 105, 110, 101]], [.str [119, 105, 100, 116, 104], .str [114, 111, 111, 109], .str [114, 111, 119], .str [102, 105, 110, 101], .str [119, 105, 100, 116, 104], .str [114, 111, 111, 109], .str [114, 111, 119], .str [102, 105, 110, 101]], [.str [119, 105, 100, 116, 104], .str [102, 101, 110, 99, 101], .str [102, 105, 110, 101], .str [119, 105, 100, 116, 104], .str [102, 101, 110, 99, 101], .str [102, 105, 110, 101], .str [119, 105, 100, 116, 104], .str [102, 101, 110, 99, 101], .str [102, 105, 110, 101]]]) = .ok (.str [119, 105, 100, 116, 104]) [[.int a47, .int b47, .int c47], [.str [119, 105, 100, 116, 104], .str [102, 101, 110, 99, 101], .str [114, 111, 119], .str [102, 105, 110, 101], .str [119, 105, 100, 116, 104], .str [102, 101, 110, 99, 101], .str [114, 111, 119], .str [102, 105, 110, 101]], [.str [119, 105, 100, 116, 104], .str [114, 111, 111, 109], .str [114, 111, 119], .str [102, 105, 110, 101], .str [119, 105, 100, 116, 104], .str [114, 111, 111, 109], .str [114, 111, 119], .str [102, 105, 110, 101]], [.str [119, 105, 100, 116, 104], .str [102, 101, 110, 99, 101], .str [102, 105, 110, 101], .str [119, 105, 100, 116, 104], .str [102, 101, 110, 99, 101], .str [102, 105, 110, 101], .str [119, 105, 100, 116, 104], .str [102, 101, 110, 99, 101], .str [102, 105, 110, 101]]] := by
  simp only [m_d0, List.mem_cons, List.not_mem_nil, or_false] at h_d0
  rcases h_d0 with rfl | rfl | rfl | rfl | rfl | rfl <;> kernel_rfl
theorem t52 (a47 b47 c47 : Int) (d0 : D) (d1 : D) (d2 : D) (d3 : D) (d4 : D) (h_d0 : d0 ∈ m_d0) : wordD fine hds (evE (R 37) gcons (GS_law_others_right_0.getD 1 .dict0) [some (.ref 0), some (.tup [.tup [.int 1, .int 2], .tup [.int 3, .int 1]]), some (.tup [.tup [.tup [.int 1, .int 1], .tup [.int 0, .int 1]], .tup [.int 5, .int 1]]), some (.tup [.tup [.tup [.int 1, .int 2], .tup [.int 3, .int 1]], .tup [.int 1, .int 1]]), some (.tup [.tup [.tup [.tup [.int 1, .int 2], .tup [.int 3, .int 1]], .tup [.int 1, .int 1]], .tup [.tup [.tup [.int 1, .int 2], .tup [.int 3, .int 1]], .tup [.int 1, .int 1]], .tup [.tup [.tup [.int 1, .int 2], .tup [.int 3, .int 1]], .tup [.int 1, .int 1]]]), some d0, some d1, some d2, some d3, some d4, some (.lams 0), some (.lst [.str [119, 105, 100, 116, 104], .str [119, 105, 100, 116, 104], .str [119, 105, 100, 116, 104], .str [114, 111, 111, 109], .str [114, 111, 111, 109], .str [109, 97, 110, 121, 32, 52, 48], .str [102, 105, 110, 101], .str [119, 105, 100, 116, 104], .str [102, 111, 114, 109], .str [102, 101, 110, 99, 101], .str [119, 105, 100, 116, 104], .str [102, 111, 114, 109], .str [102, 105, 110, 101], .str [114, 111, 111, 109], .str [119, 105, 100, 116, 104], .str [102, 111, 114, 109], .str [114, 111, 111, 109], .str [119, 105, 100, 116, 104], .str [119, 105, 100, 116, 104], .str [119, 105, 100, 116, 104], .str [114, 111, 119], .str [109, 97, 110, 121, 32, 52, 48], .str [102, 105, 110, 101], .str [114, 111, 119], .str [114, 111, 119]]), none] [[.int a47, .int b47, .int c47], [.str [119, 105, 100, 116, 104], .str [102, 101, 110, 99, 101], .str [114, 111, 119], .str [102, 105, 110, 101], .str [119, 105, 100, 116, 104], .str [102, 101, 110, 99, 101], .str [114, 111, 119], .str [102, 105, 110, 101]], [.str [119, 105, 100, 116, 104], .str [114, 111, 111, 109], .str [114, 111, 119], .str [102, 105, 110, 101], .str [119, 105, 100, 116, 104], .str [114, 111, 111, 109], .str [114, 111, 119], .str [102, 105, 110, 101]], [.str [119, 105, 100, 116, 104], .str [102, 101, 110, 99, 101], .str [102, 105, 110, 101], .str [119, 105, 100, 116, 104], .str [102, 101, 110, 99, 101], .str [102, 105, 110, 101], .str [119, 105, 100, 116, 104], .str [102, 101, 110, 99, 101], .str [102, 105, 110, 101]]]) = .ok (.str [119, 105, 100, 116, 104]) [[.int a47, .int b47, .int c47], [.str [119, 105, 100, 116, 104], .str [102, 101, 110, 99, 101], .str [114, 111, 119], .str [102, 105, 110, 101], .str [119, 105, 100, 116, 104], .str [102, 101, 110, 99, 101], .str [114, 111, 119], .str [102, 105, 110, 101]], [.str [119, 105, 100, 116, 104], .str [114, 111, 111, 109], .str [114, 111, 119], .str [102, 105, 110, 101], .str [119, 105, 100, 116, 104], .str [114, 111, 111, 109], .str [114, 111, 119], .str [102, 105, 110, 101]], [.str [119, 105, 100, 116, 104], .str [102, 101, 110, 99, 101], .str [102, 105, 110, 101], .str [119, 105, 100, 116, 104], .str [102, 101, 110, 99, 101], .str [102, 105, 110, 101], .str [119, 105, 100, 116, 104], .str [102, 101, 110, 99, 101], .str [102, 105, 110, 101]]] := by
  simp only [m_d0, List.mem_cons, List.not_mem_nil, or_false] at h_d0
  rcases h_d0 with rfl | rfl | rfl | rfl | rfl | rfl <;> kernel_rfl
theorem t53 (a47 b47 c47 : Int) (d0 : D) (d1 : D) (d2 : D) (d3 : D) (d4 : D) (h_d0 : d0 ∈ m_d0) : wordD fine hds (evE (R 37) gcons (GS_law_others_right_0.getD 2 .dict0) [some (.ref 0), some (.tup [.tup [.int 1, .int 2], .tup [.int 3, .int 1]]), some (.tup [.tup [.tup [.int 1, .int 1], .tup [.int 0, .int 1]], .tup [.int 5, .int 1]]), some (.tup [.tup [.tup [.int 1, .int 2], .tup [.int 3, .int 1]], .tup [.int 1, .int 1]]), some (.tup [.tup [.tup [.tup [.int 1, .int 2], .tup [.int 3, .int 1]], .tup [.int 1, .int 1]], .tup [.tup [.tup [.int 1, .int 2], .tup [.int 3, .int 1]], .tup [.int 1, .int 1]], .tup [.tup [.tup [.int 1, .int 2], .tup [.int 3, .int 1]], .tup [.int 1, .int 1]]]), some d0, some d1, some d2, some d3, some d4, some (.lams 0), some (.lst [.str [119, 105, 100, 116, 104], .str [119, 105, 100, 116, 104], .str [119, 105, 100, 116, 104], .str [114, 111, 111, 109], .str [114, 111, 111, 109], .str [109, 97, 110, 121, 32, 52, 48], .str [102, 105, 110, 101], .str [119, 105, 100, 116, 104], .str [102, 111, 114, 109], .str [102, 101, 110, 99, 101], .str [119, 105, 100, 116, 104], .str [102, 111, 114, 109], .str [102, 105, 110, 101], .str [114, 111, 111, 109], .str [119, 105, 100, 116, 104], .str [102, 111, 114, 109], .str [114, 111, 111, 109], .str [119, 105, 100, 116, 104], .str [119, 105, 100, 116, 104], .str [119, 105, 100, 116, 104], .str [114, 111, 119], .str [109, 97, 110, 121, 32, 52, 48], .str [102, 105, 110, 101], .str [114, 111, 119], .str [114, 111, 119]]), none] [[.int a47, .int b47, .int c47], [.str [119, 105, 100, 116, 104], .str [102, 101, 110, 99, 101], .str [114, 111, 119], .str [102, 105, 110, 101], .str [119, 105, 100, 116, 104], .str [102, 101, 110, 99, 101], .str [114, 111, 119], .str [102, 105, 110, 101]], [.str [119, 105, 100, 116, 104], .str [114, 111, 111, 109], .str [114, 111, 119], .str [102, 105, 110, 101], .str [119, 105, 100, 116, 104], .str [114, 111, 111, 109], .str [114, 111, 119], .str [102, 105, 110, 101]], [.str [119, 105, 100, 116, 104], .str [102, 101, 110, 99, 101], .str [102, 105, 110, 101], .str [119, 105, 100, 116, 104], .str [102, 101, 110, 99, 101], .str [102, 105, 110, 101], .str [119, 105, 100, 116, 104], .str [102, 101, 110, 99, 101], .str [102, 105, 110, 101]]]) = .ok (.str [119, 105, 100, 116, 104]) [[.int a47, .int b47, .int c47], [.str [119, 105, 100, 116, 104], .str [102, 101, 110, 99, 101], .str [114, 111, 119], .str [102, 105, 110, 101], .str [119, 105, 100, 116, 104], .str [102, 101, 110, 99, 101], .str [114, 111, 119], .str [102, 105, 110, 101]], [.str [119, 105, 100, 116, 104], .str [114, 111, 111, 109], .str [114, 111, 119], .str [102, 105, 110, 101], .str [119, 105, 100, 116, 104], .str [114, 111, 111, 109], .str [114, 111, 119], .str [102, 105, 110, 101]], [.str [119, 105, 100, 116, 104], .str [102, 101, 110, 99, 101], .str [102, 105, 110, 101], .str [119, 105, 100, 116, 104], .str [102, 101, 110, 99, 101], .str [102, 105, 110, 101], .str [119, 105, 100, 116, 104], .str [102, 101, 110, 99, 101], .str [102, 105, 110, 101]]] := by
  simp only [m_d0, List.mem_cons, List.not_mem_nil, or_false] at h_d0
  rcases h_d0 with rfl | rfl | rfl | rfl | rfl | rfl <;> kernel_rfl
theorem t54 (a47 b47 c47 : Int) (d0 : D) (d1 : D) (d2 : D) (d3 : D) (d4 : D) (h_d2 : d2 ∈ m_d2) (h_d3 : d3 ∈ m_d3 d2) : wordD fine hds (evE (R 37) gcons (GS_law_others_right_0.getD 3 .dict0) [some (.ref 0), some (.tup [.tup [.int 1, .int 2], .tup [.int 3, .int 1]]), some (.tup [.tup [.tup [.int 1, .int 1], .tup [.int 0, .int 1]], .tup [.int 5, .int 1]]), some (.tup [.tup [.tup [.int 1, .int 2], .tup [.int 3, .int 1]], .tup [.int 1, .int 1]]), some (.tup [.tup [.tup [.tup [.int 1, .int 2], .tup [.int 3, .int 1]], .tup [.int 1, .int 1]], .tup [.tup [.tup [.int 1, .int 2], .tup [.int 3, .int 1]], .tup [.int 1, .int 1]], .tup [.tup [.tup [.int 1, .int 2], .tup [.int 3, .int 1]], .tup [.int 1, .int 1]]]), some d0, some d1, some d2, some d3, some d4, some (.lams 0), some (.lst [.str [119, 105, 100, 116, 104], .str [119, 105, 100, 116, 104], .str [119, 105, 100, 116, 104], .str [114, 111, 111, 109], .str [114, 111, 111, 109], .str [109, 97, 110, 121, 32, 52, 48], .str [102, 105, 110, 101], .str [119, 105, 100, 116, 104], .str [102, 111, 114, 109], .str [102, 101, 110, 99, 101], .str [119, 105, 100, 116, 104], .str [102, 111, 114, 109], .str [102, 105, 110, 101], .str [114, 111, 111, 109], .str [119, 105, 100, 116, 104], .str [102, 111, 114, 109], .str [114, 111, 111, 109], .str [119, 105, 100, 116, 104], .str [119, 105, 100, 116, 104], .str [119, 105, 100, 116, 104], .str [114, 111, 119], .str [109, 97, 110, 121, 32, 52, 48], .str [102, 105, 110, 101], .str [114, 111, 119], .str [114, 111, 119]]), none] [[.int a47, .int b47, .int c47], [.str [119, 105, 100, 116, 104], .str [102, 101, 110, 99, 101], .str [114, 111, 119], .str [102, 105, 110, 101], .str [119, 105, 100, 116, 104], .str [102, 101, 110, 99, 101], .str [114, 111, 119], .str [102, 105, 110, 101]], [.str [119, 105, 100, 116, 104], .str [114, 111, 111, 109], .str [114, 111, 119], .str [102, 105, 110, 101], .str [119, 105, 100, 116, 104], .str [114, 111, 111, 109], .str [114, 111, 119], .str [102, 105, 110, 101]], [.str [119, 105, 100, 116, 104], .str [102, 101, 110, 99, 101], .str [102, 105, 110, 101], .str [119, 105, 100, 116, 104], .str [102, 101, 110, 99, 101], .str [102, 105, 110, 101], .str [119, 105, 100, 116, 104], .str [102, 101, 110, 99, 101], .str [102, 105, 110, 101]]]) = .ok (.str [114, 111, 111, 109]) [[.int a47, .int b47, .int c47], [.str [119, 105, 100, 116, 104], .str [102, 101, 110, 99, 101], .str [114, 111, 119], .str [102, 105, 110, 101], .str [119, 105, 100, 116, 104], .str [102, 101, 110, 99, 101], .str [114, 111, 119], .str [102, 105, 110, 101]], [.str [119, 105, 100, 116, 104], .str [114, 111, 111, 109], .str [114, 111, 119], .str [102, 105, 110, 101], .str [119, 105, 100, 116, 104], .str [114, 111, 111, 109], .str [114, 111, 119], .str [102, 105, 110, 101]], [.str [119, 105, 100, 116, 104], .str [102, 101, 110, 99, 101], .str [102, 105, 110, 101], .str [119, 105, 100, 116, 104], .str [102, 101, 110, 99, 101], .str [102, 105, 110, 101], .str [119, 105, 100, 116, 104], .str [102, 101, 110, 99, 101], .str [102, 105, 110, 101]]] := by
  simp only [m_d3, List.mem_cons, List.not_mem_nil, or_false] at h_d3
  rcases h_d3 with rfl | rfl | rfl | rfl | rfl | rfl | rfl | rfl
  · kernel_rfl
  · kernel_rfl
  · simp only [m_d2, List.mem_cons, List.not_mem_nil, or_false] at h_d2
    rcases h_d2 with rfl | rfl | rfl | rfl | rfl | rfl | rfl | rfl | rfl <;> kernel_rfl
  · kernel_rfl
  · kernel_rfl
  · kernel_rfl
  · kernel_rfl
  · kernel_rfl
theorem t55 (a47 b47 c47 : Int) (d0 : D) (d1 : D) (d2 : D) (d3 : D) (d4 : D) (h_d2 : d2 ∈ m_d2) (h_d3 : d3 ∈ m_d3 d2) : wordD fine hds (evE (R 37) gcons (GS_law_others_right_0.getD 4 .dict0) [some (.ref 0), some (.tup [.tup [.int 1, .int 2], .tup [.int 3, .int 1]]), some (.tup [.tup [.tup [.int 1, .int 1], .tup [.int 0, .int 1]], .tup [.int 5, .int 1]]), some (.tup [.tup [.tup [.int 1, .int 2], .tup [.int 3, .int 1]], .tup [.int 1, .int 1]]), some (.tup [.tup [.tup [.tup [.int 1, .int 2], .tup [.int 3, .int 1]], .tup [.int 1, .int 1]], .tup [.tup [.tup [.int 1, .int 2], .tup [.int 3, .int 1]], .tup [.int 1, .int 1]], .tup [.tup [.tup [.int 1, .int 2], .tup [.int 3, .int 1]], .tup [.int 1, .int 1]]]), some d0, some d1, some d2, some d3, some d4, some (.lams 0), some (.lst [.str [119, 105, 100, 116, 104], .str [119, 105, 100, 116, 104], .str [119, 105, 100, 116, 104], .str [114, 111, 111, 109], .str [114, 111, 111, 109], .str [109, 97, 110, 121, 32, 52, 48], .str [102, 105, 110, 101], .str [119, 105, 100, 116, 104], .str [102, 111, 114, 109], .str [102, 101, 110, 99, 101], .str [119, 105, 100, 116, 104], .str [102, 111, 114, 109], .str [102, 105, 110, 101], .str [114, 111, 111, 109], .str [119, 105, 100, 116, 104], .str [102, 111, 114, 109], .str [114, 111, 111, 109], .str [119, 105, 100, 116, 104], .str [119, 105, 100, 116, 104], .str [119, 105, 100, 116, 104], .str [114, 111, 119], .str [109, 97, 110, 121, 32, 52, 48], .str [102, 105, 110, 101], .str [114, 111, 119], .str [114, 111, 119]]), none] [[.int a47, .int b47, .int c47], [.str [119, 105, 100, 116, 104], .str [102, 101, 110, 99, 101], .str [114, 111, 119], .str [102, 105, 110, 101], .str [119, 105, 100, 116, 104], .str [102, 101, 110, 99, 101], .str [114, 111, 119], .str [102, 105, 110, 101]], [.str [119, 105, 100, 116, 104], .str [114, 111, 111, 109], .str [114, 111, 119], .str [102, 105, 110, 101], .str [119, 105, 100, 116, 104], .str [114, 111, 111, 109], .str [114, 111, 119], .str [102, 105, 110, 101]], [.str [119, 105, 100, 116, 104], .str [102, 101, 110, 99, 101], .str [102, 105, 110, 101], .str [119, 105, 100, 116, 104], .str [102, 101, 110, 99, 101], .str [102, 105, 110, 101], .str [119, 105, 100, 116, 104], .str [102, 101, 110, 99, 101], .str [102, 105, 110, 101]]]) = .ok (.str [114, 111, 111, 109]) [[.int a47, .int b47, .int c47], [.str [119, 105, 100, 116, 104], .str [102, 101, 110, 99, 101], .str [114, 111, 119], .str [102, 105, 110, 101], .str [119, 105, 100, 116, 104], .str [102, 101, 110, 99, 101], .str [114, 111, 119], .str [102, 105, 110, 101]], [.str [119, 105, 100, 116, 104], .str [114, 111, 111, 109], .str [114, 111, 119], .str [102, 105, 110, 101], .str [119, 105, 100, 116, 104], .str [114, 111, 111, 109], .str [114, 111, 119], .str [102, 105, 110, 101]], [.str [119, 105, 100, 116, 104], .str [102, 101, 110, 99, 101], .str [102, 105, 110, 101], .str [119, 105, 100, 116, 104], .str [102, 101, 110, 99, 101], .str [102, 105, 110, 101], .str [119, 105, 100, 116, 104], .str [102, 101, 110, 99, 101], .str [102, 105, 110, 101]]] := by
  simp only [m_d3, List.mem_cons, List.not_mem_nil, or_false] at h_d3
  rcases h_d3 with rfl | rfl | rfl | rfl | rfl | rfl | rfl | rfl
  · kernel_rfl
  · kernel_rfl
  · simp only [m_d2, List.mem_cons, List.not_mem_nil, or_false] at h_d2
    rcases h_d2 with rfl | rfl | rfl | rfl | rfl | rfl | rfl | rfl | rfl <;> kernel_rfl
  · kernel_rfl
  · kernel_rfl
  · kernel_rfl
  · kernel_rfl
  · kernel_rfl
theorem t56 (a47 b47 c47 : Int) (d0 : D) (d1 : D) (d2 : D) (d3 : D) (d4 : D)  : wordD fine hds (evE (R 37) gcons (GS_law_others_right_0.getD 5 .dict0) [some (.ref 0), some (.tup [.tup [.int 1, .int 2], .tup [.int 3, .int 1]]), some (.tup [.tup [.tup [.int 1, .int 1], .tup [.int 0, .int 1]], .tup [.int 5, .int 1]]), some (.tup [.tup [.tup [.int 1, .int 2], .tup [.int 3, .int 1]], .tup [.int 1, .int 1]]), some (.tup [.tup [.tup [.tup [.int 1, .int 2], .tup [.int 3, .int 1]], .tup [.int 1, .int 1]], .tup [.tup [.tup [.int 1, .int 2], .tup [.int 3, .int 1]], .tup [.int 1, .int 1]], .tup [.tup [.tup [.int 1, .int 2], .tup [.int 3, .int 1]], .tup [.int 1, .int 1]]]), some d0, some d1, some d2, some d3, some d4, some (.lams 0), some (.lst [.str [119, 105, 100, 116, 104], .str [119, 105, 100, 116, 104], .str [119, 105, 100, 116, 104], .str [114, 111, 111, 109], .str [114, 111, 111, 109], .str [109, 97, 110, 121, 32, 52, 48], .str [102, 105, 110, 101], .str [119, 105, 100, 116, 104], .str [102, 111, 114, 109], .str [102, 101, 110, 99, 101], .str [119, 105, 100, 116, 104], .str [102, 111, 114, 109], .str [102, 105, 110, 101], .str [114, 111, 111, 109], .str [119, 105, 100, 116, 104], .str [102, 111, 114, 109], .str [114, 111, 111, 109], .str [119, 105, 100, 116, 104], .str [119, 105, 100, 116, 104], .str [119, 105, 100, 116, 104], .str [114, 111, 119], .str [109, 97, 110, 121, 32, 52, 48], .str [102, 105, 110, 101], .str [114, 111, 119], .str [114, 111, 119]]), none] [[.int a47, .int b47, .int c47], [.str [119, 105, 100, 116, 104], .str [102, 101, 110, 99, 101], .str [114, 111, 119], .str [102, 105, 110, 101], .str [119, 105, 100, 116, 104], .str [102, 101, 110, 99, 101], .str [114, 111, 119], .str [102, 105, 110, 101]], [.str [119, 105, 100, 116, 104], .str [114, 111, 111, 109], .str [114, 111, 119], .str [102, 105, 110, 101], .str [119, 105, 100, 116, 104], .str [114, 111, 111, 109], .str [114, 111, 119], .str [102, 105, 110, 101]], [.str [119, 105, 100, 116, 104], .str [102, 101, 110, 99, 101], .str [102, 105, 110, 101], .str [119, 105, 100, 116, 104], .str [102, 101, 110, 99, 101], .str [102, 105, 110, 101], .str [119, 105, 100, 116, 104], .str [102, 101, 110, 99, 101], .str [102, 105, 110, 101]]]) = .ok (.str [109, 97, 110, 121, 32, 52, 48]) [[.int a47, .int b47, .int c47], [.str [119, 105, 100, 116, 104], .str [102, 101, 110, 99, 101], .str [114, 111, 119], .str [102, 105, 110, 101], .str [119, 105, 100, 116, 104], .str [102, 101, 110, 99, 101], .str [114, 111, 119], .str [102, 105, 110, 101]], [.str [119, 105, 100, 116, 104], .str [114, 111, 111, 109], .str [114, 111, 119], .str [102, 105, 110, 101], .str [119, 105, 100, 116, 104], .str [114, 111, 111, 109], .str [114, 111, 119], .str [102, 105, 110, 101]], [.str [119, 105, 100, 116, 104], .str [102, 101, 110, 99, 101], .str [102, 105, 110, 101], .str [119, 105, 100, 116, 104], .str [102, 101, 110, 99, 101], .str [102, 105, 110, 101], .str [119, 105, 100, 116, 104], .str [102, 101, 110, 99, 101], .str [102, 105, 110, 101]]] := by
  kernel_rfl
theorem t57 (a47 b47 c47 : Int) (d0 : D) (d1 : D) (d2 : D) (d3 : D) (d4 : D)  : wordD fine hds (evE (R 37) gcons (GS_law_others_right_0.getD 6 .dict0) [some (.ref 0), some (.tup [.tup [.int 1, .int 2], .tup [.int 3, .int 1]]), some (.tup [.tup [.tup [.int 1, .int 1], .tup [.int 0, .int 1]], .tup [.int 5, .int 1]]), some (.tup [.tup [.tup [.int 1, .int 2], .tup [.int 3, .int 1]], .tup [.int 1, .int 1]]), some (.tup [.tup [.tup [.tup [.int 1, .int 2], .tup [.int 3, .int 1]], .tup [.int 1, .int 1]], .tup [.tup [.tup [.int 1, .int 2], .tup [.int 3, .int 1]], .tup [.int 1, .int 1]], .tup [.tup [.tup [.int 1, .int 2], .tup [.int 3, .int 1]], .tup [.int 1, .int 1]]]), some d0, some d1, some d2, some d3, some d4, some (.lams 0), some (.lst [.str [119, 105, 100, 116, 104], .str [119, 105, 100, 116, 104], .str [119, 105, 100, 116, 104], .str [114, 111, 111, 109], .str [114, 111, 111, 109], .str [109, 97, 110, 121, 32, 52, 48], .str [102, 105, 110, 101], .str [119, 105, 100, 116, 104], .str [102, 111, 114, 109], .str [102, 101, 110, 99, 101], .str [119, 105, 100, 116, 104], .str [102, 111, 114, 109], .str [102, 105, 110, 101], .str [114, 111, 111, 109], .str [119, 105, 100, 116, 104], .str [102, 111, 114, 109], .str [114, 111, 111, 109], .str [119, 105, 100, 116, 104], .str [119, 105, 100, 116, 104], .str [119, 105, 100, 116, 104], .str [114, 111, 119], .str [109, 97, 110, 121, 32, 52, 48], .str [102, 105, 110, 101], .str [114, 111, 119], .str [114, 111, 119]]), none] [[.int a47, .int b47, .int c47], [.str [119, 105, 100, 116, 104], .str [102, 101, 110, 99, 101], .str [114, 111, 119], .str [102, 105, 110, 101], .str [119, 105, 100, 116, 104], .str [102, 101, 110, 99, 101], .str [114, 111, 119], .str [102, 105, 110, 101]], [.str [119, 105, 100, 116, 104], .str [114, 111, 111, 109], .str [114, 111, 119], .str [102, 105, 110, 101], .str [119, 105, 100, 116, 104], .str [114, 111, 111, 109], .str [114, 111, 119], .str [102, 105, 110, 101]], [.str [119, 105, 100, 116, 104], .str [102, 101, 110, 99, 101], .str [102, 105, 110, 101], .str [119, 105, 100, 116, 104], .str [102, 101, 110, 99, 101], .str [102, 105, 110, 101], .str [119, 105, 100, 116, 104], .str [102, 101, 110, 99, 101], .str [102, 105, 110, 101]]]) = .ok (.str [102, 105, 110, 101]) [[.int a47, .int b47, .int c47], [.str [119, 105, 100, 116, 104], .str [102, 101, 110, 99, 101], .str [114, 111, 119], .str [102, 105, 110, 101], .str [119, 105, 100, 116, 104], .str [102, 101, 110, 99, 101], .str [114, 111, 119], .str [102, 105, 110, 101]], [.str [119, 105, 100, 116, 104], .str [114, 111, 111, 109], .str [114, 111, 119], .str [102, 105, 110, 101], .str [119, 105, 100, 116, 104], .str [114, 111, 111, 109], .str [114, 111, 119], .str [102, 105, 110, 101]], [.str [119, 105, 100, 116, 104], .str [102, 101, 110, 99, 101], .str [102, 105, 110, 101], .str [119, 105, 100, 116, 104], .str [102, 101, 110, 99, 101], .str [102, 105, 110, 101], .str [119, 105, 100, 116, 104], .str [102, 101, 110, 99, 101], .str [102, 105, 110, 101]]] := by
  kernel_rfl
theorem t58 (a47 b47 c47 : Int) (d0 : D) (d1 : D) (d2 : D) (d3 : D) (d4 : D) (h_d0 : d0 ∈ m_d0) : wordD fine hds (evE (R 37) gcons (GS_law_others_right_0.getD 7 .dict0) [some (.ref 0), some (.tup [.tup [.int 1, .int 2], .tup [.int 3, .int 1]]), some (.tup [.tup [.tup [.int 1, .int 1], .tup [.int 0, .int 1]], .tup [.int 5, .int 1]]), some (.tup [.tup [.tup [.int 1, .int 2], .tup [.int 3, .int 1]], .tup [.int 1, .int 1]]), some (.tup [.tup [.tup [.tup [.int 1, .int 2], .tup [.int 3, .int 1]], .tup [.int 1, .int 1]], .tup [.tup [.tup [.int 1, .int 2], .tup [.int 3, .int 1]], .tup [.int 1, .int 1]], .tup [.tup [.tup [.int 1, .int 2], .tup [.int 3, .int 1]], .tup [.int 1, .int 1]]]), some d0, some d1, some d2, some d3, some d4, some (.lams 0), some (.lst [.str [119, 105, 100, 116, 104], .str [119, 105, 100, 116, 104], .str [119, 105, 100, 116, 104], .str [114, 111, 111, 109], .str [114, 111, 111, 109], .str [109, 97, 110, 121, 32, 52, 48], .str [102, 105, 110, 101], .str [119, 105, 100, 116, 104], .str [102, 111, 114, 109], .str [102, 101, 110, 99, 101], .str [119, 105, 100, 116, 104], .str [102, 111, 114, 109], .str [102, 105, 110, 101], .str [114, 111, 111, 109], .str [119, 105, 100, 116, 104], .str [102, 111, 114, 109], .str [114, 111, 111, 109], .str [119, 105, 100, 116, 104], .str [119, 105, 100, 116, 104], .str [119, 105, 100, 116, 104], .str [114, 111, 119], .str [109, 97, 110, 121, 32, 52, 48], .str [102, 105, 110, 101], .str [114, 111, 119], .str [114, 111, 119]]), none] [[.int a47, .int b47, .int c47], [.str [119, 105, 100, 116, 104], .str [102, 101, 110, 99, 101], .str [114, 111, 119], .str [102, 105, 110, 101], .str [119, 105, 100, 116, 104], .str [102, 101, 110, 99, 101], .str [114, 111, 119], .str [102, 105, 110, 101]], [.str [119, 105, 100, 116, 104], .str [114, 111, 111, 109], .str [114, 111, 119], .str [102, 105, 110, 101], .str [119, 105, 100, 116, 104], .str [114, 111, 111, 109], .str [114, 111, 119], .str [102, 105, 110, 101]], [.str [119, 105, 100, 116, 104], .str [102, 101, 110, 99, 101], .str [102, 105, 110, 101], .str [119, 105, 100, 116, 104], .str [102, 101, 110, 99, 101], .str [102, 105, 110, 101], .str [119, 105, 100, 116, 104], .str [102, 101, 110, 99, 101], .str [102, 105, 110, 101]]]) = .ok (.str [119, 105, 100, 116, 104]) [[.int a47, .int b47, .int c47], [.str [119, 105, 100, 116, 104], .str [102, 101, 110, 99, 101], .str [114, 111, 119], .str [102, 105, 110, 101], .str [119, 105, 100, 116, 104], .str [102, 101, 110, 99, 101], .str [114, 111, 119], .str [102, 105, 110, 101]], [.str [119, 105, 100, 116, 104], .str [114, 111, 111, 109], .str [114, 111, 119], .str [102, 105, 110, 101], .str [119, 105, 100, 116, 104], .str [114, 111, 111, 109], .str [114, 111, 119], .str [102, 105, 110, 101]], [.str [119, 105, 100, 116, 104], .str [102, 101, 110, 99, 101], .str [102, 105, 110, 101], .str [119, 105, 100, 116, 104], .str [102, 101, 110, 99, 101], .str [102, 105, 110, 101], .str [119, 105, 100, 116, 104], .str [102, 101, 110, 99, 101], .str [102, 105, 110, 101]]] := by
  simp only [m_d0, List.mem_cons, List.not_mem_nil, or_false] at h_d0
  rcases h_d0 with rfl | rfl | rfl | rfl | rfl | rfl <;> kernel_rfl
theorem t59 (a47 b47 c47 : Int) (d0 : D) (d1 : D) (d2 : D) (d3 : D) (d4 : D) (h_d1 : d1 ∈ m_d1) : wordD fine hds (evE (R 37) gcons (GS_law_others_right_0.getD 8 .dict0) [some (.ref 0), some (.tup [.tup [.int 1, .int 2], .tup [.int 3, .int 1]]), some (.tup [.tup [.tup [.int 1, .int 1], .tup [.int 0, .int 1]], .tup [.int 5, .int 1]]), some (.tup [.tup [.tup [.int 1, .int 2], .tup [.int 3, .int 1]], .tup [.int 1, .int 1]]), some (.tup [.tup [.tup [.tup [.int 1, .int 2], .tup [.int 3, .int 1]], .tup [.int 1, .int 1]], .tup [.tup [.tup [.int 1, .int 2], .tup [.int 3, .int 1]], .tup [.int 1, .int 1]], .tup [.tup [.tup [.int 1, .int 2], .tup [.int 3, .int 1]], .tup [.int 1, .int 1]]]), some d0, some d1, some d2, some d3, some d4, some (.lams 0), some (.lst [.str [119, 105, 100, 116, 104], .str [119, 105, 100, 116, 104], .str [119, 105, 100, 116, 104], .str [114, 111, 111, 109], .str [114, 111, 111, 109], .str [109, 97, 110, 121, 32, 52, 48], .str [102, 105, 110, 101], .str [119, 105, 100, 116, 104], .str [102, 111, 114, 109], .str [102, 101, 110, 99, 101], .str [119, 105, 100, 116, 104], .str [102, 111, 114, 109], .str [102, 105, 110, 101], .str [114, 111, 111, 109], .str [119, 105, 100, 116, 104], .str [102, 111, 114, 109], .str [114, 111, 111, 109], .str [119, 105, 100, 116, 104], .str [119, 105, 100, 116, 104], .str [119, 105, 100, 116, 104], .str [114, 111, 119], .str [109, 97, 110, 121, 32, 52, 48], .str [102, 105, 110, 101], .str [114, 111, 119], .str [114, 111, 119]]), none] [[.int a47, .int b47, .int c47], [.str [119, 105, 100, 116, 104], .str [102, 101, 110, 99, 101], .str [114, 111, 119], .str [102, 105, 110, 101], .str [119, 105, 100, 116, 104], .str [102, 101, 110, 99, 101], .str [114, 111, 119], .str [102, 105, 110, 101]], [.str [119, 105, 100, 116, 104], .str [114, 111, 111, 109], .str [114, 111, 119], .str [102, 105, 110, 101], .str [119, 105, 100, 116, 104], .str [114, 111, 111, 109], .str [114, 111, 119], .str [102, 105, 110, 101]], [.str [119, 105, 100, 116, 104], .str [102, 101, 110, 99, 101], .str [102, 105, 110, 101], .str [119, 105, 100, 116, 104], .str [102, 101, 110, 99, 101], .str [102, 105, 110, 101], .str [119, 105, 100, 116, 104], .str [102, 101, 110, 99, 101], .str [102, 105, 110, 101]]]) = .ok (.str [102, 111, 114, 109]) [[.int a47, .int b47, .int c47], [.str [119, 105, 100, 116, 104], .str [102, 101, 110, 99, 101], .str [114, 111, 119], .str [102, 105, 110, 101], .str [119, 105, 100, 116, 104], .str [102, 101, 110, 99, 101], .str [114, 111, 119], .str [102, 105, 110, 101]], [.str [119, 105, 100, 116, 104], .str [114, 111, 111, 109], .str [114, 111, 119], .str [102, 105, 110, 101], .str [119, 105, 100, 116, 104], .str [114, 111, 111, 109], .str [114, 111, 119], .str [102, 105, 110, 101]], [.str [119, 105, 100, 116, 104], .str [102, 101, 110, 99, 101], .str [102, 105, 110, 101], .str [119, 105, 100, 116, 104], .str [102, 101, 110, 99, 101], .str [102, 105, 110, 101], .str [119, 105, 100, 116, 104], .str [102, 101, 110, 99, 101], .str [102, 105, 110, 101]]] := by
  simp only [m_d1, List.mem_cons, List.not_mem_nil, or_false] at h_d1
  rcases h_d1 with rfl | rfl | rfl | rfl | rfl | rfl | rfl | rfl <;> kernel_rfl
theorem t60 (a47 b47 c47 : Int) (d0 : D) (d1 : D) (d2 : D) (d3 : D) (d4 : D) (h_d2 : d2 ∈ m_d2) : wordD fine hds (evE (R 37) gcons (GS_law_others_right_0.getD 9 .dict0) [some (.ref 0), some (.tup [.tup [.int 1, .int 2], .tup [.int 3, .int 1]]), some (.tup [.tup [.tup [.int 1, .int 1], .tup [.int 0, .int 1]], .tup [.int 5, .int 1]]), some (.tup [.tup [.tup [.int 1, .int 2], .tup [.int 3, .int 1]], .tup [.int 1, .int 1]]), some (.tup [.tup [.tup [.tup [.int 1, .int 2], .tup [.int 3, .int 1]], .tup [.int 1, .int 1]], .tup [.tup [.tup [.int 1, .int 2], .tup [.int 3, .int 1]], .tup [.int 1, .int 1]], .tup [.tup [.tup [.int 1, .int 2], .tup [.int 3, .int 1]], .tup [.int 1, .int 1]]]), some d0, some d1, some d2, some d3, some d4, some (.lams 0), some (.lst [.str [119, 105, 100, 116, 104], .str [119, 105, 100, 116, 104], .str [119, 105, 100, 116, 104], .str [114, 111, 111, 109], .str [114, 111, 111, 109], .str [109, 97, 110, 121, 32, 52, 48], .str [102, 105, 110, 101], .str [119, 105, 100, 116, 104], .str [102, 111, 114, 109], .str [102, 101, 110, 99, 101], .str [119, 105, 100, 116, 104], .str [102, 111, 114, 109], .str [102, 105, 110, 101], .str [114, 111, 111, 109], .str [119, 105, 100, 116, 104], .str [102, 111, 114, 109], .str [114, 111, 111, 109], .str [119, 105, 100, 116, 104], .str [119, 105, 100, 116, 104], .str [119, 105, 100, 116, 104], .str [114, 111, 119], .str [109, 97, 110, 121, 32, 52, 48], .str [102, 105, 110, 101], .str [114, 111, 119], .str [114, 111, 119]]), none] [[.int a47, .int b47, .int c47], [.str [119, 105, 100, 116, 104], .str [102, 101, 110, 99, 101], .str [114, 111, 119], .str [102, 105, 110, 101], .str [119, 105, 100, 116, 104], .str [102, 101, 110, 99, 101], .str [114, 111, 119], .str [102, 105, 110, 101]], [.str [119, 105, 100, 116, 104], .str [114, 111, 111, 109], .str [114, 111, 119], .str [102, 105, 110, 101], .str [119, 105, 100, 116, 104], .str [114, 111, 111, 109], .str [114, 111, 119], .str [102, 105, 110, 101]], [.str [119, 105, 100, 116, 104], .str [102, 101, 110, 99, 101], .str [102, 105, 110, 101], .str [119, 105, 100, 116, 104], .str [102, 101, 110, 99, 101], .str [102, 105, 110, 101], .str [119, 105, 100, 116, 104], .str [102, 101, 110, 99, 101], .str [102, 105, 110, 101]]]) = .ok (.str [102, 101, 110, 99, 101]) [[.int a47, .int b47, .int c47], [.str [119, 105, 100, 116, 104], .str [102, 101, 110, 99, 101], .str [114, 111, 119], .str [102, 105, 110, 101], .str [119, 105, 100, 116, 104], .str [102, 101, 110, 99, 101], .str [114, 111, 119], .str [102, 105, 110, 101]], [.str [119, 105, 100, 116, 104], .str [114, 111, 111, 109], .str [114, 111, 119], .str [102, 105, 110, 101], .str [119, 105, 100, 116, 104], .str [114, 111, 111, 109], .str [114, 111, 119], .str [102, 105, 110, 101]], [.str [119, 105, 100, 116, 104], .str [102, 101, 110, 99, 101], .str [102, 105, 110, 101], .str [119, 105, 100, 116, 104], .str [102, 101, 110, 99, 101], .str [102, 105, 110, 101], .str [119, 105, 100, 116, 104], .str [102, 101, 110, 99, 101], .str [102, 105, 110, 101]]] := by
  simp only [m_d2, List.mem_cons, List.not_mem_nil, or_false] at h_d2
  rcases h_d2 with rfl | rfl | rfl | rfl | rfl | rfl | rfl | rfl | rfl <;> kernel_rfl
theorem t61 (a47 b47 c47 : Int) (d0 : D) (d1 : D) (d2 : D) (d3 : D) (d4 : D) (h_d0 : d0 ∈ m_d0) : wordD fine hds (evE (R 37) gcons (GS_law_others_right_0.getD 10 .dict0) [some (.ref 0), some (.tup [.tup [.int 1, .int 2], .tup [.int 3, .int 1]]), some (.tup [.tup [.tup [.int 1, .int 1], .tup [.int 0, .int 1]], .tup [.int 5, .int 1]]), some (.tup [.tup [.tup [.int 1, .int 2], .tup [.int 3, .int 1]], .tup [.int 1, .int 1]]), some (.tup [.tup [.tup [.tup [.int 1, .int 2], .tup [.int 3, .int 1]], .tup [.int 1, .int 1]], .tup [.tup [.tup [.int 1, .int 2], .tup [.int 3, .int 1]], .tup [.int 1, .int 1]], .tup [.tup [.tup [.int 1, .int 2], .tup [.int 3, .int 1]], .tup [.int 1, .int 1]]]), some d0, some d1, some d2, some d3, some d4, some (.lams 0), some (.lst [.str [119, 105, 100, 116, 104], .str [119, 105, 100, 116, 104], .str [119, 105, 100, 116, 104], .str [114, 111, 111, 109], .str [114, 111, 111, 109], .str [109, 97, 110, 121, 32, 52, 48], .str [102, 105, 110, 101], .str [119, 105, 100, 116, 104], .str [102, 111, 114, 109], .str [102, 101, 110, 99, 101], .str [119, 105, 100, 116, 104], .str [102, 111, 114, 109], .str [102, 105, 110, 101], .str [114, 111, 111, 109], .str [119, 105, 100, 116, 104], .str [102, 111, 114, 109], .str [114, 111, 111, 109], .str [119, 105, 100, 116, 104], .str [119, 105, 100, 116, 104], .str [119, 105, 100, 116, 104], .str [114, 111, 119], .str [109, 97, 110, 121, 32, 52, 48], .str [102, 105, 110, 101], .str [114, 111, 119], .str [114, 111, 119]]), none] [[.int a47, .int b47, .int c47], [.str [119, 105, 100, 116, 104], .str [102, 101, 110, 99, 101], .str [114, 111, 119], .str [102, 105, 110, 101], .str [119, 105, 100, 116, 104], .str [102, 101, 110, 99, 101], .str [114, 111, 119], .str [102, 105, 110, 101]], [.str [119, 105, 100, 116, 104], .str [114, 111, 111, 109], .str [114, 111, 119], .str [102, 105, 110, 101], .str [119, 105, 100, 116, 104], .str [114, 111, 111, 109], .str [114, 111, 119], .str [102, 105, 110, 101]], [.str [119, 105, 100, 116, 104], .str [102, 101, 110, 99, 101], .str [102, 105, 110, 101], .str [119, 105, 100, 116, 104], .str [102, 101, 110, 99, 101], .str [102, 105, 110, 101], .str [119, 105, 100, 116, 104], .str [102, 101, 110, 99, 101], .str [102, 105, 110, 101]]]) = .ok (.str [119, 105, 100, 116, 104]) [[.int a47, .int b47, .int c47], [.str [119, 105, 100, 116, 104], .str [102, 101, 110, 99, 101], .str [114, 111, 119], .str [102, 105, 110, 101], .str [119, 105, 100, 116, 104], .str [102, 101, 110, 99, 101], .str [114, 111, 119], .str [102, 105, 110, 101]], [.str [119, 105, 100, 116, 104], .str [114, 111, 111, 109], .str [114, 111, 119], .str [102, 105, 110, 101], .str [119, 105, 100, 116, 104], .str [114, 111, 111, 109], .str [114, 111, 119], .str [102, 105, 110, 101]], [.str [119, 105, 100, 116, 104], .str [102, 101, 110, 99, 101], .str [102, 105, 110, 101], .str [119, 105, 100, 116, 104], .str [102, 101, 110, 99, 101], .str [102, 105, 110, 101], .str [119, 105, 100, 116, 104], .str [102, 101, 110, 99, 101], .str [102, 105, 110, 101]]] := by
  simp only [m_d0, List.mem_cons, List.not_mem_nil, or_false] at h_d0
  rcases h_d0 with rfl | rfl | rfl | rfl | rfl | rfl <;> kernel_rfl
theorem t62 (a47 b47 c47 : Int) (d0 : D) (d1 : D) (d2 : D) (d3 : D) (d4 : D)  : wordD fine hds (evE (R 37) gcons (GS_law_others_right_0.getD 11 .dict0) [some (.ref 0), some (.tup [.tup [.int 1, .int 2], .tup [.int 3, .int 1]]), some (.tup [.tup [.tup [.int 1, .int 1], .tup [.int 0, .int 1]], .tup [.int 5, .int 1]]), some (.tup [.tup [.tup [.int 1, .int 2], .tup [.int 3, .int 1]], .tup [.int 1, .int 1]]), some (.tup [.tup [.tup [.tup [.int 1, .int 2], .tup [.int 3, .int 1]], .tup [.int 1, .int 1]], .tup [.tup [.tup [.int 1, .int 2], .tup [.int 3, .int 1]], .tup [.int 1, .int 1]], .tup [.tup [.tup [.int 1, .int 2], .tup [.int 3, .int 1]], .tup [.int 1, .int 1]]]), some d0, some d1, some d2, some d3, some d4, some (.lams 0), some (.lst [.str [119, 105, 100, 116, 104], .str [119, 105, 100, 116, 104], .str [119, 105, 100, 116, 104], .str [114, 111, 111, 109], .str [114, 111, 111, 109], .str [109, 97, 110, 121, 32, 52, 48], .str [102, 105, 110, 101], .str [119, 105, 100, 116, 104], .str [102, 111, 114, 109], .str [102, 101, 110, 99, 101], .str [119, 105, 100, 116, 104], .str [102, 111, 114, 109], .str [102, 105, 110, 101], .str [114, 111, 111, 109], .str [119, 105, 100, 116, 104], .str [102, 111, 114, 109], .str [114, 111, 111, 109], .str [119, 105, 100, 116, 104], .str [119, 105, 100, 116, 104], .str [119, 105, 100, 116, 104], .str [114, 111, 119], .str [109, 97, 110, 121, 32, 52, 48], .str [102, 105, 110, 101], .str [114, 111, 119], .str [114, 111, 119]]), none] [[.int a47, .int b47, .int c47], [.str [119, 105, 100, 116, 104], .str [102, 101, 110, 99, 101], .str [114, 111, 119], .str [102, 105, 110, 101], .str [119, 105, 100, 116, 104], .str [102, 101, 110, 99, 101], .str [114, 111, 119], .str [102, 105, 110, 101]], [.str [119, 105, 100, 116, 104], .str [114, 111, 111, 109], .str [114, 111, 119], .str [102, 105, 110, 101], .str [119, 105, 100, 116, 104], .str [114, 111, 111, 109], .str [114, 111, 119], .str [102, 105, 110, 101]], [.str [119, 105, 100, 116, 104], .str [102, 101, 110, 99, 101], .str [102, 105, 110, 101], .str [119, 105, 100, 116, 104], .str [102, 101, 110, 99, 101], .str [102, 105, 110, 101], .str [119, 105, 100, 116, 104], .str [102, 101, 110, 99, 101], .str [102, 105, 110, 101]]]) = .ok (.str [102, 111, 114, 109]) [[.int a47, .int b47, .int c47], [.str [119, 105, 100, 116, 104], .str [102, 101, 110, 99, 101], .str [114, 111, 119], .str [102, 105, 110, 101], .str [119, 105, 100, 116, 104], .str [102, 101, 110, 99, 101], .str [114, 111, 119], .str [102, 105, 110, 101]], [.str [119, 105, 100, 116, 104], .str [114, 111, 111, 109], .str [114, 111, 119], .str [102, 105, 110, 101], .str [119, 105, 100, 116, 104], .str [114, 111, 111, 109], .str [114, 111, 119], .str [102, 105, 110, 101]], [.str [119, 105, 100, 116, 104], .str [102, 101, 110, 99, 101], .str [102, 105, 110, 101], .str [119, 105, 100, 116, 104], .str [102, 101, 110, 99, 101], .str [102, 105, 110, 101], .str [119, 105, 100, 116, 104], .str [102, 101, 110, 99, 101], .str [102, 105, 110, 101]]] := by
  kernel_rfl
theorem t63 (a47 b47 c47 : Int) (d0 : D) (d1 : D) (d2 : D) (d3 : D) (d4 : D)  : wordD fine hds (evE (R 37) gcons (GS_law_others_right_0.getD 12 .dict0) [some (.ref 0), some (.tup [.tup [.int 1, .int 2], .tup [.int 3, .int 1]]), some (.tup [.tup [.tup [.int 1, .int 1], .tup [.int 0, .int 1]], .tup [.int 5, .int 1]]), some (.tup [.tup [.tup [.int 1, .int 2], .tup [.int 3, .int 1]], .tup [.int 1, .int 1]]), some (.tup [.tup [.tup [.tup [.int 1, .int 2], .tup [.int 3, .int 1]], .tup [.int 1, .int 1]], .tup [.tup [.tup [.int 1, .int 2], .tup [.int 3, .int 1]], .tup [.int 1, .int 1]], .tup [.tup [.tup [.int 1, .int 2], .tup [.int 3, .int 1]], .tup [.int 1, .int 1]]]), some d0, some d1, some d2, some d3, some d4, some (.lams 0), some (.lst [.str [119, 105, 100, 116, 104], .str [119, 105, 100, 116, 104], .str [119, 105, 100, 116, 104], .str [114, 111, 111, 109], .str [114, 111, 111, 109], .str [109, 97, 110, 121, 32, 52, 48], .str [102, 105, 110, 101], .str [119, 105, 100, 116, 104], .str [102, 111, 114, 109], .str [102, 101, 110, 99, 101], .str [119, 105, 100, 116, 104], .str [102, 111, 114, 109], .str [102, 105, 110, 101], .str [114, 111, 111, 109], .str [119, 105, 100, 116, 104], .str [102, 111, 114, 109], .str [114, 111, 111, 109], .str [119, 105, 100, 116, 104], .str [119, 105, 100, 116, 104], .str [119, 105, 100, 116, 104], .str [114, 111, 119], .str [109, 97, 110, 121, 32, 52, 48], .str [102, 105, 110, 101], .str [114, 111, 119], .str [114, 111, 119]]), none] [[.int a47, .int b47, .int c47], [.str [119, 105, 100, 116, 104], .str [102, 101, 110, 99, 101], .str [114, 111, 119], .str [102, 105, 110, 101], .str [119, 105, 100, 116, 104], .str [102, 101, 110, 99, 101], .str [114, 111, 119], .str [102, 105, 110, 101]], [.str [119, 105, 100, 116, 104], .str [114, 111, 111, 109], .str [114, 111, 119], .str [102, 105, 110, 101], .str [119, 105, 100, 116, 104], .str [114, 111, 111, 109], .str [114, 111, 119], .str [102, 105, 110, 101]], [.str [119, 105, 100, 116, 104], .str [102, 101, 110, 99, 101], .str [102, 105, 110, 101], .str [119, 105, 100, 116, 104], .str [102, 101, 110, 99, 101], .str [102, 105, 110, 101], .str [119, 105, 100, 116, 104], .str [102, 101, 110, 99, 101], .str [102, 105, 110, 101]]]) = .ok (.str [102, 105, 110, 101]) [[.int a47, .int b47, .int c47], [.str [119, 105, 100, 116, 104], .str [102, 101, 110, 99, 101], .str [114, 111, 119], .str [102, 105, 110, 101], .str [119, 105, 100, 116, 104], .str [102, 101, 110, 99, 101], .str [114, 111, 119], .str [102, 105, 110, 101]], [.str [119, 105, 100, 116, 104], .str [114, 111, 111, 109], .str [114, 111, 119], .str [102, 105, 110, 101], .str [119, 105, 100, 116, 104], .str [114, 111, 111, 109], .str [114, 111, 119], .str [102, 105, 110, 101]], [.str [119, 105, 100, 116, 104], .str [102, 101, 110, 99, 101], .str [102, 105, 110, 101], .str [119, 105, 100, 116, 104], .str [102, 101, 110, 99, 101], .str [102, 105, 110, 101], .str [119, 105, 100, 116, 104], .str [102, 101, 110, 99, 101], .str [102, 105, 110, 101]]] := by
  kernel_rfl
theorem t64 (a47 b47 c47 : Int) (d0 : D) (d1 : D) (d2 : D) (d3 : D) (d4 : D) (h_d2 : d2 ∈ m_d2) (h_d3 : d3 ∈ m_d3 d2) : wordD fine hds (evE (R 37) gcons (GS_law_others_right_0.getD 13 .dict0) [some (.ref 0), some (.tup [.tup [.int 1, .int 2], .tup [.int 3, .int 1]]), some (.tup [.tup [.tup [.int 1, .int 1], .tup [.int 0, .int 1]], .tup [.int 5, .int 1]]), some (.tup [.tup [.tup [.int 1, .int 2], .tup [.int 3, .int 1]], .tup [.int 1, .int 1]]), some (.tup [.tup [.tup [.tup [.int 1, .int 2], .tup [.int 3, .int 1]], .tup [.int 1, .int 1]], .tup [.tup [.tup [.int 1, .int 2], .tup [.int 3, .int 1]], .tup [.int 1, .int 1]], .tup [.tup [.tup [.int 1, .int 2], .tup [.int 3, .int 1]], .tup [.int 1, .int 1]]]), some d0, some d1, some d2, some d3, some d4, some (.lams 0), some (.lst [.str [119, 105, 100, 116, 104], .str [119, 105, 100, 116, 104], .str [119, 105, 100, 116, 104], .str [114, 111, 111, 109], .str [114, 111, 111, 109], .str [109, 97, 110, 121, 32, 52, 48], .str [102, 105, 110, 101], .str [119, 105, 100, 116, 104], .str [102, 111, 114, 109], .str [102, 101, 110, 99, 101], .str [119, 105, 100, 116, 104], .str [102, 111, 114, 109], .str [102, 105, 110, 101], .str [114, 111, 111, 109], .str [119, 105, 100, 116, 104], .str [102, 111, 114, 109], .str [114, 111, 111, 109], .str [119, 105, 100, 116, 104], .str [119, 105, 100, 116, 104], .str [119, 105, 100, 116, 104], .str [114, 111, 119], .str [109, 97, 110, 121, 32, 52, 48], .str [102, 105, 110, 101], .str [114, 111, 119], .str [114, 111, 119]]), none] [[.int a47, .int b47, .int c47], [.str [119, 105, 100, 116, 104], .str [102, 101, 110, 99, 101], .str [114, 111, 119], .str [102, 105, 110, 101], .str [119, 105, 100, 116, 104], .str [102, 101, 110, 99, 101], .str [114, 111, 119], .str [102, 105, 110, 101]], [.str [119, 105, 100, 116, 104], .str [114, 111, 111, 109], .str [114, 111, 119], .str [102, 105, 110, 101], .str [119, 105, 100, 116, 104], .str [114, 111, 111, 109], .str [114, 111, 119], .str [102, 105, 110, 101]], [.str [119, 105, 100, 116, 104], .str [102, 101, 110, 99, 101], .str [102, 105, 110, 101], .str [119, 105, 100, 116, 104], .str [102, 101, 110, 99, 101], .str [102, 105, 110, 101], .str [119, 105, 100, 116, 104], .str [102, 101, 110, 99, 101], .str [102, 105, 110, 101]]]) = .ok (.str [114, 111, 111, 109]) [[.int a47, .int b47, .int c47], [.str [119, 105, 100, 116, 104], .str [102, 101, 110, 99, 101], .str [114, 111, 119], .str [102, 105, 110, 101], .str [119, 105, 100, 116, 104], .str [102, 101, 110, 99, 101], .str [114, 111, 119], .str [102, 105, 110, 101]], [.str [119, 105, 100, 116, 104], .str [114, 111, 111, 109], .str [114, 111, 119], .str [102, 105, 110, 101], .str [119, 105, 100, 116, 104], .str [114, 111, 111, 109], .str [114, 111, 119], .str [102, 105, 110, 101]], [.str [119, 105, 100, 116, 104], .str [102, 101, 110, 99, 101], .str [102, 105, 110, 101], .str [119, 105, 100, 116, 104], .str [102, 101, 110, 99, 101], .str [102, 105, 110, 101], .str [119, 105, 100, 116, 104], .str [102, 101, 110, 99, 101], .str [102, 105, 110, 101]]] := by
  simp only [m_d3, List.mem_cons, List.not_mem_nil, or_false] at h_d3
  rcases h_d3 with rfl | rfl | rfl | rfl | rfl | rfl | rfl | rfl
  · kernel_rfl
  · kernel_rfl
  · simp only [m_d2, List.mem_cons, List.not_mem_nil, or_false] at h_d2
    rcases h_d2 with rfl | rfl | rfl | rfl | rfl | rfl | rfl | rfl | rfl <;> kernel_rfl
  · kernel_rfl
  · kernel_rfl
  · kernel_rfl
  · kernel_rfl
  · kernel_rfl
theorem t65 (a47 b47 c47 : Int) (d0 : D) (d1 : D) (d2 : D) (d3 : D) (d4 : D) (h_d0 : d0 ∈ m_d0) : wordD fine hds (evE (R 37) gcons (GS_law_others_right_0.getD 14 .dict0) [some (.ref 0), some (.tup [.tup [.int 1, .int 2], .tup [.int 3, .int 1]]), some (.tup [.tup [.tup [.int 1, .int 1], .tup [.int 0, .int 1]], .tup [.int 5, .int 1]]), some (.tup [.tup [.tup [.int 1, .int 2], .tup [.int 3, .int 1]], .tup [.int 1, .int 1]]), some (.tup [.tup [.tup [.tup [.int 1, .int 2], .tup [.int 3, .int 1]], .tup [.int 1, .int 1]], .tup [.tup [.tup [.int 1, .int 2], .tup [.int 3, .int 1]], .tup [.int 1, .int 1]], .tup [.tup [.tup [.int 1, .int 2], .tup [.int 3, .int 1]], .tup [.int 1, .int 1]]]), some d0, some d1, some d2, some d3, some d4, some (.lams 0), some (.lst [.str [119, 105, 100, 116, 104], .str [119, 105, 100, 116, 104], .str [119, 105, 100, 116, 104], .str [114, 111, 111, 109], .str [114, 111, 111, 109], .str [109, 97, 110, 121, 32, 52, 48], .str [102, 105, 110, 101], .str [119, 105, 100, 116, 104], .str [102, 111, 114, 109], .str [102, 101, 110, 99, 101], .str [119, 105, 100, 116, 104], .str [102, 111, 114, 109], .str [102, 105, 110, 101], .str [114, 111, 111, 109], .str [119, 105, 100, 116, 104], .str [102, 111, 114, 109], .str [114, 111, 111, 109], .str [119, 105, 100, 116, 104], .str [119, 105, 100, 116, 104], .str [119, 105, 100, 116, 104], .str [114, 111, 119], .str [109, 97, 110, 121, 32, 52, 48], .str [102, 105, 110, 101], .str [114, 111, 119], .str [114, 111, 119]]), none] [[.int a47, .int b47, .int c47], [.str [119, 105, 100, 116, 104], .str [102, 101, 110, 99, 101], .str [114, 111, 119], .str [102, 105, 110, 101], .str [119, 105, 100, 116, 104], .str [102, 101, 110, 99, 101], .str [114, 111, 119], .str [102, 105, 110, 101]], [.str [119, 105, 100, 116, 104], .str [114, 111, 111, 109], .str [114, 111, 119], .str [102, 105, 110, 101], .str [119, 105, 100, 116, 104], .str [114, 111, 111, 109], .str [114, 111, 119], .str [102, 105, 110, 101]], [.str [119, 105, 100, 116, 104], .str [102, 101, 110, 99, 101], .str [102, 105, 110, 101], .str [119, 105, 100, 116, 104], .str [102, 101, 110, 99, 101], .str [102, 105, 110, 101], .str [119, 105, 100, 116, 104], .str [102, 101, 110, 99, 101], .str [102, 105, 110, 101]]]) = .ok (.str [119, 105, 100, 116, 104]) [[.int a47, .int b47, .int c47], [.str [119, 105, 100, 116, 104], .str [102, 101, 110, 99, 101], .str [114, 111, 119], .str [102, 105, 110, 101], .str [119, 105, 100, 116, 104], .str [102, 101, 110, 99, 101], .str [114, 111, 119], .str [102, 105, 110, 101]], [.str [119, 105, 100, 116, 104], .str [114, 111, 111, 109], .str [114, 111, 119], .str [102, 105, 110, 101], .str [119, 105, 100, 116, 104], .str [114, 111, 111, 109], .str [114, 111, 119], .str [102, 105, 110, 101]], [.str [119, 105, 100, 116, 104], .str [102, 101, 110, 99, 101], .str [102, 105, 110, 101], .str [119, 105, 100, 116, 104], .str [102, 101, 110, 99, 101], .str [102, 105, 110, 101], .str [119, 105, 100, 116, 104], .str [102, 101, 110, 99, 101], .str [102, 105, 110, 101]]] := by
  simp only [m_d0, List.mem_cons, List.not_mem_nil, or_false] at h_d0
  rcases h_d0 with rfl | rfl | rfl | rfl | rfl | rfl <;> kernel_rfl
theorem t66 (a47 b47 c47 : Int) (d0 : D) (d1 : D) (d2 : D) (d3 : D) (d4 : D) (h_d1 : d1 ∈ m_d1) : wordD fine hds (evE (R 37) gcons (GS_law_others_right_0.getD 15 .dict0) [some (.ref 0), some (.tup [.tup [.int 1, .int 2], .tup [.int 3, .int 1]]), some (.tup [.tup [.tup [.int 1, .int 1], .tup [.int 0, .int 1]], .tup [.int 5, .int 1]]), some (.tup [.tup [.tup [.int 1, .int 2], .tup [.int 3, .int 1]], .tup [.int 1, .int 1]]), some (.tup [.tup [.tup [.tup [.int 1, .int 2], .tup [.int 3, .int 1]], .tup [.int 1, .int 1]], .tup [.tup [.tup [.int 1, .int 2], .tup [.int 3, .int 1]], .tup [.int 1, .int 1]], .tup [.tup [.tup [.int 1, .int 2], .tup [.int 3, .int 1]], .tup [.int 1, .int 1]]]), some d0, some d1, some d2, some d3, some d4, some (.lams 0), some (.lst [.str [119, 105, 100, 116, 104], .str [119, 105, 100, 116, 104], .str [119, 105, 100, 116, 104], .str [114, 111, 111, 109], .str [114, 111, 111, 109], .str [109, 97, 110, 121, 32, 52, 48], .str [102, 105, 110, 101], .str [119, 105, 100, 116, 104], .str [102, 111, 114, 109], .str [102, 101, 110, 99, 101], .str [119, 105, 100, 116, 104], .str [102, 111, 114, 109], .str [102, 105, 110, 101], .str [114, 111, 111, 109], .str [119, 105, 100, 116, 104], .str [102, 111, 114, 109], .str [114, 111, 111, 109], .str [119, 105, 100, 116, 104], .str [119, 105, 100, 116, 104], .str [119, 105, 100, 116, 104], .str [114, 111, 119], .str [109, 97, 110, 121, 32, 52, 48], .str [102, 105, 110, 101], .str [114, 111, 119], .str [114, 111, 119]]), none] [[.int a47, .int b47, .int c47], [.str [119, 105, 100, 116, 104], .str [102, 101, 110, 99, 101], .str [114, 111, 119], .str [102, 105, 110, 101], .str [119, 105, 100, 116, 104], .str [102, 101, 110, 99, 101], .str [114, 111, 119], .str [102, 105, 110, 101]], [.str [119, 105, 100, 116, 104], .str [114, 111, 111, 109], .str [114, 111, 119], .str [102, 105, 110, 101], .str [119, 105, 100, 116, 104], .str [114, 111, 111, 109], .str [114, 111, 119], .str [102, 105, 110, 101]], [.str [119, 105, 100, 116, 104], .str [102, 101, 110, 99, 101], .str [102, 105, 110, 101], .str [119, 105, 100, 116, 104], .str [102, 101, 110, 99, 101], .str [102, 105, 110, 101], .str [119, 105, 100, 116, 104], .str [102, 101, 110, 99, 101], .str [102, 105, 110, 101]]]) = .ok (.str [102, 111, 114, 109]) [[.int a47, .int b47, .int c47], [.str [119, 105, 100, 116, 104], .str [102, 101, 110, 99, 101], .str [114, 111, 119], .str [102, 105, 110, 101], .str [119, 105, 100, 116, 104], .str [102, 101, 110, 99, 101], .str [114, 111, 119], .str [102, 105, 110, 101]], [.str [119, 105, 100, 116, 104], .str [114, 111, 111, 109], .str [114, 111, 119], .str [102, 105, 110, 101], .str [119, 105, 100, 116, 104], .str [114, 111, 111, 109], .str [114, 111, 119], .str [102, 105, 110, 101]], [.str [119, 105, 100, 116, 104], .str [102, 101, 110, 99, 101], .str [102, 105, 110, 101], .str [119, 105, 100, 116, 104], .str [102, 101, 110, 99, 101], .str [102, 105, 110, 101], .str [119, 105, 100, 116, 104], .str [102, 101, 110, 99, 101], .str [102, 105, 110, 101]]] := by
  simp only [m_d1, List.mem_cons, List.not_mem_nil, or_false] at h_d1
  rcases h_d1 with rfl | rfl | rfl | rfl | rfl | rfl | rfl | rfl <;> kernel_rfl
theorem t67 (a47 b47 c47 : Int) (d0 : D) (d1 : D) (d2 : D) (d3 : D) (d4 : D) (h_d2 : d2 ∈ m_d2) (h_d3 : d3 ∈ m_d3 d2) : wordD fine hds (evE (R 37) gcons (GS_law_others_right_0.getD 16 .dict0) [some (.ref 0), some (.tup [.tup [.int 1, .int 2], .tup [.int 3, .int 1]]), some (.tup [.tup [.tup [.int 1, .int 1], .tup [.int 0, .int 1]], .tup [.int 5, .int 1]]), some (.tup [.tup [.tup [.int 1, .int 2], .tup [.int 3, .int 1]], .tup [.int 1, .int 1]]), some (.tup [.tup [.tup [.tup [.int 1, .int 2], .tup [.int 3, .int 1]], .tup [.int 1, .int 1]], .tup [.tup [.tup [.int 1, .int 2], .tup [.int 3, .int 1]], .tup [.int 1, .int 1]], .tup [.tup [.tup [.int 1, .int 2], .tup [.int 3, .int 1]], .tup [.int 1, .int 1]]]), some d0, some d1, some d2, some d3, some d4, some (.lams 0), some (.lst [.str [119, 105, 100, 116, 104], .str [119, 105, 100, 116, 104], .str [119, 105, 100, 116, 104], .str [114, 111, 111, 109], .str [114, 111, 111, 109], .str [109, 97, 110, 121, 32, 52, 48], .str [102, 105, 110, 101], .str [119, 105, 100, 116, 104], .str [102, 111, 114, 109], .str [102, 101, 110, 99, 101], .str [119, 105, 100, 116, 104], .str [102, 111, 114, 109], .str [102, 105, 110, 101], .str [114, 111, 111, 109], .str [119, 105, 100, 116, 104], .str [102, 111, 114, 109], .str [114, 111, 111, 109], .str [119, 105, 100, 116, 104], .str [119, 105, 100, 116, 104], .str [119, 105, 100, 116, 104], .str [114, 111, 119], .str [109, 97, 110, 121, 32, 52, 48], .str [102, 105, 110, 101], .str [114, 111, 119], .str [114, 111, 119]]), none] [[.int a47, .int b47, .int c47], [.str [119, 105, 100, 116, 104], .str [102, 101, 110, 99, 101], .str [114, 111, 119], .str [102, 105, 110, 101], .str [119, 105, 100, 116, 104], .str [102, 101, 110, 99, 101], .str [114, 111, 119], .str [102, 105, 110, 101]], [.str [119, 105, 100, 116, 104], .str [114, 111, 111, 109], .str [114, 111, 119], .str [102, 105, 110, 101], .str [119, 105, 100, 116, 104], .str [114, 111, 111, 109], .str [114, 111, 119], .str [102, 105, 110, 101]], [.str [119, 105, 100, 116, 104], .str [102, 101, 110, 99, 101], .str [102, 105, 110, 101], .str [119, 105, 100, 116, 104], .str [102, 101, 110, 99, 101], .str [102, 105, 110, 101], .str [119, 105, 100, 116, 104], .str [102, 101, 110, 99, 101], .str [102, 105, 110, 101]]]) = .ok (.str [114, 111, 111, 109]) [[.int a47, .int b47, .int c47], [.str [119, 105, 100, 116, 104], .str [102, 101, 110, 99, 101], .str [114, 111, 119], .str [102, 105, 110, 101], .str [119, 105, 100, 116, 104], .str [102, 101, 110, 99, 101], .str [114, 111, 119], .str [102, 105, 110, 101]], [.str [119, 105, 100, 116, 104], .str [114, 111, 111, 109], .str [114, 111, 119], .str [102, 105, 110, 101], .str [119, 105, 100, 116, 104], .str [114, 111, 111, 109], .str [114, 111, 119], .str [102, 105, 110, 101]], [.str [119, 105, 100, 116, 104], .str [102, 101, 110, 99, 101], .str [102, 105, 110, 101], .str [119, 105, 100, 116, 104], .str [102, 101, 110, 99, 101], .str [102, 105, 110, 101], .str [119, 105, 100, 116, 104], .str [102, 101, 110, 99, 101], .str [102, 105, 110, 101]]] := by
  simp only [m_d3, List.mem_cons, List.not_mem_nil, or_false] at h_d3
  rcases h_d3 with rfl | rfl | rfl | rfl | rfl | rfl | rfl | rfl
  · kernel_rfl
  · kernel_rfl
  · simp only [m_d2, List.mem_cons, List.not_mem_nil, or_false] at h_d2
    rcases h_d2 with rfl | rfl | rfl | rfl | rfl | rfl | rfl | rfl | rfl <;> kernel_rfl
  · kernel_rfl
  · kernel_rfl
  · kernel_rfl
  · kernel_rfl
  · kernel_rfl
theorem t68 (a47 b47 c47 : Int) (d0 : D) (d1 : D) (d2 : D) (d3 : D) (d4 : D) (h_d0 : d0 ∈ m_d0) : wordD fine hds (evE (R 37) gcons (GS_law_others_right_0.getD 17 .dict0) [some (.ref 0), some (.tup [.tup [.int 1, .int 2], .tup [.int 3, .int 1]]), some (.tup [.tup [.tup [.int 1, .int 1], .tup [.int 0, .int 1]], .tup [.int 5, .int 1]]), some (.tup [.tup [.tup [.int 1, .int 2], .tup [.int 3, .int 1]], .tup [.int 1, .int 1]]), some (.tup [.tup [.tup [.tup [.int 1, .int 2], .tup [.int 3, .int 1]], .tup [.int 1, .int 1]], .tup [.tup [.tup [.int 1, .int 2], .tup [.int 3, .int 1]], .tup [.int 1, .int 1]], .tup [.tup [.tup [.int 1, .int 2], .tup [.int 3, .int 1]], .tup [.int 1, .int 1]]]), some d0, some d1, some d2, some d3, some d4, some (.lams 0), some (.lst [.str [119, 105, 100, 116, 104], .str [119, 105, 100, 116, 104], .str [119, 105, 100, 116, 104], .str [114, 111, 111, 109], .str [114, 111, 111, 109], .str [109, 97, 110, 121, 32, 52, 48], .str [102, 105, 110, 101], .str [119, 105, 100, 116, 104], .str [102, 111, 114, 109], .str [102, 101, 110, 99, 101], .str [119, 105, 100, 116, 104], .str [102, 111, 114, 109], .str [102, 105, 110, 101], .str [114, 111, 111, 109], .str [119, 105, 100, 116, 104], .str [102, 111, 114, 109], .str [114, 111, 111, 109], .str [119, 105, 100, 116, 104], .str [119, 105, 100, 116, 104], .str [119, 105, 100, 116, 104], .str [114, 111, 119], .str [109, 97, 110, 121, 32, 52, 48], .str [102, 105, 110, 101], .str [114, 111, 119], .str [114, 111, 119]]), none] [[.int a47, .int b47, .int c47], [.str [119, 105, 100, 116, 104], .str [102, 101, 110, 99, 101], .str [114, 111, 119], .str [102, 105, 110, 101], .str [119, 105, 100, 116, 104], .str [102, 101, 110, 99, 101], .str [114, 111, 119], .str [102, 105, 110, 101]], [.str [119, 105, 100, 116, 104], .str [114, 111, 111, 109], .str [114, 111, 119], .str [102, 105, 110, 101], .str [119, 105, 100, 116, 104], .str [114, 111, 111, 109], .str [114, 111, 119], .str [102, 105, 110, 101]], [.str [119, 105, 100, 116, 104], .str [102, 101, 110, 99, 101], .str [102, 105, 110, 101], .str [119, 105, 100, 116, 104], .str [102, 101, 110, 99, 101], .str [102, 105, 110, 101], .str [119, 105, 100, 116, 104], .str [102, 101, 110, 99, 101], .str [102, 105, 110, 101]]]) = .ok (.str [119, 105, 100, 116, 104]) [[.int a47, .int b47, .int c47], [.str [119, 105, 100, 116, 104], .str [102, 101, 110, 99, 101], .str [114, 111, 119], .str [102, 105, 110, 101], .str [119, 105, 100, 116, 104], .str [102, 101, 110, 99, 101], .str [114, 111, 119], .str [102, 105, 110, 101]], [.str [119, 105, 100, 116, 104], .str [114, 111, 111, 109], .str [114, 111, 119], .str [102, 105, 110, 101], .str [119, 105, 100, 116, 104], .str [114, 111, 111, 109], .str [114, 111, 119], .str [102, 105, 110, 101]], [.str [119, 105, 100, 116, 104], .str [102, 101, 110, 99, 101], .str [102, 105, 110, 101], .str [119, 105, 100, 116, 104], .str [102, 101, 110, 99, 101], .str [102, 105, 110, 101], .str [119, 105, 100, 116, 104], .str [102, 101, 110, 99, 101], .str [102, 105, 110, 101]]] := by
  simp only [m_d0, List.mem_cons, List.not_mem_nil, or_false] at h_d0
  rcases h_d0 with rfl | rfl | rfl | rfl | rfl | rfl <;> kernel_rfl
theorem t69 (a47 b47 c47 : Int) (d0 : D) (d1 : D) (d2 : D) (d3 : D) (d4 : D)  : wordD fine hds (evE (R 37) gcons (GS_law_others_right_0.getD 18 .dict0) [some (.ref 0), some (.tup [.tup [.int 1, .int 2], .tup [.int 3, .int 1]]), some (.tup [.tup [.tup [.int 1, .int 1], .tup [.int 0, .int 1]], .tup [.int 5, .int 1]]), some (.tup [.tup [.tup [.int 1, .int 2], .tup [.int 3, .int 1]], .tup [.int 1, .int 1]]), some (.tup [.tup [.tup [.tup [.int 1, .int 2], .tup [.int 3, .int 1]], .tup [.int 1, .int 1]], .tup [.tup [.tup [.int 1, .int 2], .tup [.int 3, .int 1]], .tup [.int 1, .int 1]], .tup [.tup [.tup [.int 1, .int 2], .tup [.int 3, .int 1]], .tup [.int 1, .int 1]]]), some d0, some d1, some d2, some d3, some d4, some (.lams 0), some (.lst [.str [119, 105, 100, 116, 104], .str [119, 105, 100, 116, 104], .str [119, 105, 100, 116, 104], .str [114, 111, 111, 109], .str [114, 111, 111, 109], .str [109, 97, 110, 121, 32, 52, 48], .str [102, 105, 110, 101], .str [119, 105, 100, 116, 104], .str [102, 111, 114, 109], .str [102, 101, 110, 99, 101], .str [119, 105, 100, 116, 104], .str [102, 111, 114, 109], .str [102, 105, 110, 101], .str [114, 111, 111, 109], .str [119, 105, 100, 116, 104], .str [102, 111, 114, 109], .str [114, 111, 111, 109], .str [119, 105, 100, 116, 104], .str [119, 105, 100, 116, 104], .str [119, 105, 100, 116, 104], .str [114, 111, 119], .str [109, 97, 110, 121, 32, 52, 48], .str [102, 105, 110, 101], .str [114, 111, 119], .str [114, 111, 119]]), none] [[.int a47, .int b47, .int c47], [.str [119, 105, 100, 116, 104], .str [102, 101, 110, 99, 101], .str [114, 111, 119], .str [102, 105, 110, 101], .str [119, 105, 100, 116, 104], .str [102, 101, 110, 99, 101], .str [114, 111, 119], .str [102, 105, 110, 101]], [.str [119, 105, 100, 116, 104], .str [114, 111, 111, 109], .str [114, 111, 119], .str [102, 105, 110, 101], .str [119, 105, 100, 116, 104], .str [114, 111, 111, 109], .str [114, 111, 119], .str [102, 105, 110, 101]], [.str [119, 105, 100, 116, 104], .str [102, 101, 110, 99, 101], .str [102, 105, 110, 101], .str [119, 105, 100, 116, 104], .str [102, 101, 110, 99, 101], .str [102, 105, 110, 101], .str [119, 105, 100, 116, 104], .str [102, 101, 110, 99, 101], .str [102, 105, 110, 101]]]) = .ok (.str [119, 105, 100, 116, 104]) [[.int a47, .int b47, .int c47], [.str [119, 105, 100, 116, 104], .str [102, 101, 110, 99, 101], .str [114, 111, 119], .str [102, 105, 110, 101], .str [119, 105, 100, 116, 104], .str [102, 101, 110, 99, 101], .str [114, 111, 119], .str [102, 105, 110, 101]], [.str [119, 105, 100, 116, 104], .str [114, 111, 111, 109], .str [114, 111, 119], .str [102, 105, 110, 101], .str [119, 105, 100, 116, 104], .str [114, 111, 111, 109], .str [114, 111, 119], .str [102, 105, 110, 101]], [.str [119, 105, 100, 116, 104], .str [102, 101, 110, 99, 101], .str [102, 105, 110, 101], .str [119, 105, 100, 116, 104], .str [102, 101, 110, 99, 101], .str [102, 105, 110, 101], .str [119, 105, 100, 116, 104], .str [102, 101, 110, 99, 101], .str [102, 105, 110, 101]]] := by
  kernel_rfl
theorem t70 (a47 b47 c47 : Int) (d0 : D) (d1 : D) (d2 : D) (d3 : D) (d4 : D) (h_d0 : d0 ∈ m_d0) : wordD fine hds (evE (R 37) gcons (GS_law_others_right_0.getD 19 .dict0) [some (.ref 0), some (.tup [.tup [.int 1, .int 2], .tup [.int 3, .int 1]]), some (.tup [.tup [.tup [.int 1, .int 1], .tup [.int 0, .int 1]], .tup [.int 5, .int 1]]), some (.tup [.tup [.tup [.int 1, .int 2], .tup [.int 3, .int 1]], .tup [.int 1, .int 1]]), some (.tup [.tup [.tup [.tup [.int 1, .int 2], .tup [.int 3, .int 1]], .tup [.int 1, .int 1]], .tup [.tup [.tup [.int 1, .int 2], .tup [.int 3, .int 1]], .tup [.int 1, .int 1]], .tup [.tup [.tup [.int 1, .int 2], .tup [.int 3, .int 1]], .tup [.int 1, .int 1]]]), some d0, some d1, some d2, some d3, some d4, some (.lams 0), some (.lst [.str [119, 105, 100, 116, 104], .str [119, 105, 100, 116, 104], .str [119, 105, 100, 116, 104], .str [114, 111, 111, 109], .str [114, 111, 111, 109], .str [109, 97, 110, 121, 32, 52, 48], .str [102, 105, 110, 101], .str [119, 105, 100, 116, 104], .str [102, 111, 114, 109], .str [102, 101, 110, 99, 101], .str [119, 105, 100, 116, 104], .str [102, 111, 114, 109], .str [102, 105, 110, 101], .str [114, 111, 111, 109], .str [119, 105, 100, 116, 104], .str [102, 111, 114, 109], .str [114, 111, 111, 109], .str [119, 105, 100, 116, 104], .str [119, 105, 100, 116, 104], .str [119, 105, 100, 116, 104], .str [114, 111, 119], .str [109, 97, 110, 121, 32, 52, 48], .str [102, 105, 110, 101], .str [114, 111, 119], .str [114, 111, 119]]), none] [[.int a47, .int b47, .int c47], [.str [119, 105, 100, 116, 104], .str [102, 101, 110, 99, 101], .str [114, 111, 119], .str [102, 105, 110, 101], .str [119, 105, 100, 116, 104], .str [102, 101, 110, 99, 101], .str [114, 111, 119], .str [102, 105, 110, 101]], [.str [119, 105, 100, 116, 104], .str [114, 111, 111, 109], .str [114, 111, 119], .str [102, 105, 110, 101], .str [119, 105, 100, 116, 104], .str [114, 111, 111, 109], .str [114, 111, 119], .str [102, 105, 110, 101]], [.str [119, 105, 100, 116, 104], .str [102, 101, 110, 99, 101], .str [102, 105, 110, 101], .str [119, 105, 100, 116, 104], .str [102, 101, 110, 99, 101], .str [102, 105, 110, 101], .str [119, 105, 100, 116, 104], .str [102, 101, 110, 99, 101], .str [102, 105, 110, 101]]]) = .ok (.str [119, 105, 100, 116, 104]) [[.int a47, .int b47, .int c47], [.str [119, 105, 100, 116, 104], .str [102, 101, 110, 99, 101], .str [114, 111, 119], .str [102, 105, 110, 101], .str [119, 105, 100, 116, 104], .str [102, 101, 110, 99, 101], .str [114, 111, 119], .str [102, 105, 110, 101]], [.str [119, 105, 100, 116, 104], .str [114, 111, 111, 109], .str [114, 111, 119], .str [102, 105, 110, 101], .str [119, 105, 100, 116, 104], .str [114, 111, 111, 109], .str [114, 111, 119], .str [102, 105, 110, 101]], [.str [119, 105, 100, 116, 104], .str [102, 101, 110, 99, 101], .str [102, 105, 110, 101], .str [119, 105, 100, 116, 104], .str [102, 101, 110, 99, 101], .str [102, 105, 110, 101], .str [119, 105, 100, 116, 104], .str [102, 101, 110, 99, 101], .str [102, 105, 110, 101]]] := by
  simp only [m_d0, List.mem_cons, List.not_mem_nil, or_false] at h_d0
  rcases h_d0 with rfl | rfl | rfl | rfl | rfl | rfl <;> kernel_rfl
theorem t71 (a47 b47 c47 : Int) (d0 : D) (d1 : D) (d2 : D) (d3 : D) (d4 : D) (h_d1 : d1 ∈ m_d1) : wordD fine hds (evE (R 37) gcons (GS_law_others_right_0.getD 20 .dict0) [some (.ref 0), some (.tup [.tup [.int 1, .int 2], .tup [.int 3, .int 1]]), some (.tup [.tup [.tup [.int 1, .int 1], .tup [.int 0, .int 1]], .tup [.int 5, .int 1]]), some (.tup [.tup [.tup [.int 1, .int 2], .tup [.int 3, .int 1]], .tup [.int 1, .int 1]]), some (.tup [.tup [.tup [.tup [.int 1, .int 2], .tup [.int 3, .int 1]], .tup [.int 1, .int 1]], .tup [.tup [.tup [.int 1, .int 2], .tup [.int 3, .int 1]], .tup [.int 1, .int 1]], .tup [.tup [.tup [.int 1, .int 2], .tup [.int 3, .int 1]], .tup [.int 1, .int 1]]]), some d0, some d1, some d2, some d3, some d4, some (.lams 0), some (.lst [.str [119, 105, 100, 116, 104], .str [119, 105, 100, 116, 104], .str [119, 105, 100, 116, 104], .str [114, 111, 111, 109], .str [114, 111, 111, 109], .str [109, 97, 110, 121, 32, 52, 48], .str [102, 105, 110, 101], .str [119, 105, 100, 116, 104], .str [102, 111, 114, 109], .str [102, 101, 110, 99, 101], .str [119, 105, 100, 116, 104], .str [102, 111, 114, 109], .str [102, 105, 110, 101], .str [114, 111, 111, 109], .str [119, 105, 100, 116, 104], .str [102, 111, 114, 109], .str [114, 111, 111, 109], .str [119, 105, 100, 116, 104], .str [119, 105, 100, 116, 104], .str [119, 105, 100, 116, 104], .str [114, 111, 119], .str [109, 97, 110, 121, 32, 52, 48], .str [102, 105, 110, 101], .str [114, 111, 119], .str [114, 111, 119]]), none] [[.int a47, .int b47, .int c47], [.str [119, 105, 100, 116, 104], .str [102, 101, 110, 99, 101], .str [114, 111, 119], .str [102, 105, 110, 101], .str [119, 105, 100, 116, 104], .str [102, 101, 110, 99, 101], .str [114, 111, 119], .str [102, 105, 110, 101]], [.str [119, 105, 100, 116, 104], .str [114, 111, 111, 109], .str [114, 111, 119], .str [102, 105, 110, 101], .str [119, 105, 100, 116, 104], .str [114, 111, 111, 109], .str [114, 111, 119], .str [102, 105, 110, 101]], [.str [119, 105, 100, 116, 104], .str [102, 101, 110, 99, 101], .str [102, 105, 110, 101], .str [119, 105, 100, 116, 104], .str [102, 101, 110, 99, 101], .str [102, 105, 110, 101], .str [119, 105, 100, 116, 104], .str [102, 101, 110, 99, 101], .str [102, 105, 110, 101]]]) = .ok (.str [114, 111, 119]) [[.int a47, .int b47, .int c47], [.str [119, 105, 100, 116, 104], .str [102, 101, 110, 99, 101], .str [114, 111, 119], .str [102, 105, 110, 101], .str [119, 105, 100, 116, 104], .str [102, 101, 110, 99, 101], .str [114, 111, 119], .str [102, 105, 110, 101]], [.str [119, 105, 100, 116, 104], .str [114, 111, 111, 109], .str [114, 111, 119], .str [102, 105, 110, 101], .str [119, 105, 100, 116, 104], .str [114, 111, 111, 109], .str [114, 111, 119], .str [102, 105, 110, 101]], [.str [119, 105, 100, 116, 104], .str [102, 101, 110, 99, 101], .str [102, 105, 110, 101], .str [119, 105, 100, 116, 104], .str [102, 101, 110, 99, 101], .str [102, 105, 110, 101], .str [119, 105, 100, 116, 104], .str [102, 101, 110, 99, 101], .str [102, 105, 110, 101]]] := by
  simp only [m_d1, List.mem_cons, List.not_mem_nil, or_false] at h_d1
  rcases h_d1 with rfl | rfl | rfl | rfl | rfl | rfl | rfl | rfl <;> kernel_rfl
theorem t72 (a47 b47 c47 : Int) (d0 : D) (d1 : D) (d2 : D) (d3 : D) (d4 : D)  : wordD fine hds (evE (R 37) gcons (GS_law_others_right_0.getD 21 .dict0) [some (.ref 0), some (.tup [.tup [.int 1, .int 2], .tup [.int 3, .int 1]]), some (.tup [.tup [.tup [.int 1, .int 1], .tup [.int 0, .int 1]], .tup [.int 5, .int 1]]), some (.tup [.tup [.tup [.int 1, .int 2], .tup [.int 3, .int 1]], .tup [.int 1, .int 1]]), some (.tup [.tup [.tup [.tup [.int 1, .int 2], .tup [.int 3, .int 1]], .tup [.int 1, .int 1]], .tup [.tup [.tup [.int 1, .int 2], .tup [.int 3, .int 1]], .tup [.int 1, .int 1]], .tup [.tup [.tup [.int 1, .int 2], .tup [.int 3, .int 1]], .tup [.int 1, .int 1]]]), some d0, some d1, some d2, some d3, some d4, some (.lams 0), some (.lst [.str [119, 105, 100, 116, 104], .str [119, 105, 100, 116, 104], .str [119, 105, 100, 116, 104], .str [114, 111, 111, 109], .str [114, 111, 111, 109], .str [109, 97, 110, 121, 32, 52, 48], .str [102, 105, 110, 101], .str [119, 105, 100, 116, 104], .str [102, 111, 114, 109], .str [102, 101, 110, 99, 101], .str [119, 105, 100, 116, 104], .str [102, 111, 114, 109], .str [102, 105, 110, 101], .str [114, 111, 111, 109], .str [119, 105, 100, 116, 104], .str [102, 111, 114, 109], .str [114, 111, 111, 109], .str [119, 105, 100, 116, 104], .str [119, 105, 100, 116, 104], .str [119, 105, 100, 116, 104], .str [114, 111, 119], .str [109, 97, 110, 121, 32, 52, 48], .str [102, 105, 110, 101], .str [114, 111, 119], .str [114, 111, 119]]), none] [[.int a47, .int b47, .int c47], [.str [119, 105, 100, 116, 104], .str [102, 101, 110, 99, 101], .str [114, 111, 119], .str [102, 105, 110, 101], .str [119, 105, 100, 116, 104], .str [102, 101, 110, 99, 101], .str [114, 111, 119], .str [102, 105, 110, 101]], [.str [119, 105, 100, 116, 104], .str [114, 111, 111, 109], .str [114, 111, 119], .str [102, 105, 110, 101], .str [119, 105, 100, 116, 104], .str [114, 111, 111, 109], .str [114, 111, 119], .str [102, 105, 110, 101]], [.str [119, 105, 100, 116, 104], .str [102, 101, 110, 99, 101], .str [102, 105, 110, 101], .str [119, 105, 100, 116, 104], .str [102, 101, 110, 99, 101], .str [102, 105, 110, 101], .str [119, 105, 100, 116, 104], .str [102, 101, 110, 99, 101], .str [102, 105, 110, 101]]]) = .ok (.str [109, 97, 110, 121, 32, 52, 48]) [[.int a47, .int b47, .int c47], [.str [119, 105, 100, 116, 104], .str [102, 101, 110, 99, 101], .str [114, 111, 119], .str [102, 105, 110, 101], .str [119, 105, 100, 116, 104], .str [102, 101, 110, 99, 101], .str [114, 111, 119], .str [102, 105, 110, 101]], [.str [119, 105, 100, 116, 104], .str [114, 111, 111, 109], .str [114, 111, 119], .str [102, 105, 110, 101], .str [119, 105, 100, 116, 104], .str [114, 111, 111, 109], .str [114, 111, 119], .str [102, 105, 110, 101]], [.str [119, 105, 100, 116, 104], .str [102, 101, 110, 99, 101], .str [102, 105, 110, 101], .str [119, 105, 100, 116, 104], .str [102, 101, 110, 99, 101], .str [102, 105, 110, 101], .str [119, 105, 100, 116, 104], .str [102, 101, 110, 99, 101], .str [102, 105, 110, 101]]] := by
  kernel_rfl
theorem t73 (a47 b47 c47 : Int) (d0 : D) (d1 : D) (d2 : D) (d3 : D) (d4 : D)  : wordD fine hds (evE (R 37) gcons (GS_law_others_right_0.getD 22 .dict0) [some (.ref 0), some (.tup [.tup [.int 1, .int 2], .tup [.int 3, .int 1]]), some (.tup [.tup [.tup [.int 1, .int 1], .tup [.int 0, .int 1]], .tup [.int 5, .int 1]]), some (.tup [.tup [.tup [.int 1, .int 2], .tup [.int 3, .int 1]], .tup [.int 1, .int 1]]), some (.tup [.tup [.tup [.tup [.int 1, .int 2], .tup [.int 3, .int 1]], .tup [.int 1, .int 1]], .tup [.tup [.tup [.int 1, .int 2], .tup [.int 3, .int 1]], .tup [.int 1, .int 1]], .tup [.tup [.tup [.int 1, .int 2], .tup [.int 3, .int 1]], .tup [.int 1, .int 1]]]), some d0, some d1, some d2, some d3, some d4, some (.lams 0), some (.lst [.str [119, 105, 100, 116, 104], .str [119, 105, 100, 116, 104], .str [119, 105, 100, 116, 104], .str [114, 111, 111, 109], .str [114, 111, 111, 109], .str [109, 97, 110, 121, 32, 52, 48], .str [102, 105, 110, 101], .str [119, 105, 100, 116, 104], .str [102, 111, 114, 109], .str [102, 101, 110, 99, 101], .str [119, 105, 100, 116, 104], .str [102, 111, 114, 109], .str [102, 105, 110, 101], .str [114, 111, 111, 109], .str [119, 105, 100, 116, 104], .str [102, 111, 114, 109], .str [114, 111, 111, 109], .str [119, 105, 100, 116, 104], .str [119, 105, 100, 116, 104], .str [119, 105, 100, 116, 104], .str [114, 111, 119], .str [109, 97, 110, 121, 32, 52, 48], .str [102, 105, 110, 101], .str [114, 111, 119], .str [114, 111, 119]]), none] [[.int a47, .int b47, .int c47], [.str [119, 105, 100, 116, 104], .str [102, 101, 110, 99, 101], .str [114, 111, 119], .str [102, 105, 110, 101], .str [119, 105, 100, 116, 104], .str [102, 101, 110, 99, 101], .str [114, 111, 119], .str [102, 105, 110, 101]], [.str [119, 105, 100, 116, 104], .str [114, 111, 111, 109], .str [114, 111, 119], .str [102, 105, 110, 101], .str [119, 105, 100, 116, 104], .str [114, 111, 111, 109], .str [114, 111, 119], .str [102, 105, 110, 101]], [.str [119, 105, 100, 116, 104], .str [102, 101, 110, 99, 101], .str [102, 105, 110, 101], .str [119, 105, 100, 116, 104], .str [102, 101, 110, 99, 101], .str [102, 105, 110, 101], .str [119, 105, 100, 116, 104], .str [102, 101, 110, 99, 101], .str [102, 105, 110, 101]]]) = .ok (.str [102, 105, 110, 101]) [[.int a47, .int b47, .int c47], [.str [119, 105, 100, 116, 104], .str [102, 101, 110, 99, 101], .str [114, 111, 119], .str [102, 105, 110, 101], .str [119, 105, 100, 116, 104], .str [102, 101, 110, 99, 101], .str [114, 111, 119], .str [102, 105, 110, 101]], [.str [119, 105, 100, 116, 104], .str [114, 111, 111, 109], .str [114, 111, 119], .str [102, 105, 110, 101], .str [119, 105, 100, 116, 104], .str [114, 111, 111, 109], .str [114, 111, 119], .str [102, 105, 110, 101]], [.str [119, 105, 100, 116, 104], .str [102, 101, 110, 99, 101], .str [102, 105, 110, 101], .str [119, 105, 100, 116, 104], .str [102, 101, 110, 99, 101], .str [102, 105, 110, 101], .str [119, 105, 100, 116, 104], .str [102, 101, 110, 99, 101], .str [102, 105, 110, 101]]] := by
  kernel_rfl
theorem t74 (a47 b47 c47 : Int) (d0 : D) (d1 : D) (d2 : D) (d3 : D) (d4 : D) (h_d1 : d1 ∈ m_d1) : wordD fine hds (evE (R 37) gcons (GS_law_others_right_0.getD 23 .dict0) [some (.ref 0), some (.tup [.tup [.int 1, .int 2], .tup [.int 3, .int 1]]), some (.tup [.tup [.tup [.int 1, .int 1], .tup [.int 0, .int 1]], .tup [.int 5, .int 1]]), some (.tup [.tup [.tup [.int 1, .int 2], .tup [.int 3, .int 1]], .tup [.int 1, .int 1]]), some (.tup [.tup [.tup [.tup [.int 1, .int 2], .tup [.int 3, .int 1]], .tup [.int 1, .int 1]], .tup [.tup [.tup [.int 1, .int 2], .tup [.int 3, .int 1]], .tup [.int 1, .int 1]], .tup [.tup [.tup [.int 1, .int 2], .tup [.int 3, .int 1]], .tup [.int 1, .int 1]]]), some d0, some d1, some d2, some d3, some d4, some (.lams 0), some (.lst [.str [119, 105, 100, 116, 104], .str [119, 105, 100, 116, 104], .str [119, 105, 100, 116, 104], .str [114, 111, 111, 109], .str [114, 111, 111, 109], .str [109, 97, 110, 121, 32, 52, 48], .str [102, 105, 110, 101], .str [119, 105, 100, 116, 104], .str [102, 111, 114, 109], .str [102, 101, 110, 99, 101], .str [119, 105, 100, 116, 104], .str [102, 111, 114, 109], .str [102, 105, 110, 101], .str [114, 111, 111, 109], .str [119, 105, 100, 116, 104], .str [102, 111, 114, 109], .str [114, 111, 111, 109], .str [119, 105, 100, 116, 104], .str [119, 105, 100, 116, 104], .str [119, 105, 100, 116, 104], .str [114, 111, 119], .str [109, 97, 110, 121, 32, 52, 48], .str [102, 105, 110, 101], .str [114, 111, 119], .str [114, 111, 119]]), none] [[.int a47, .int b47, .int c47], [.str [119, 105, 100, 116, 104], .str [102, 101, 110, 99, 101], .str [114, 111, 119], .str [102, 105, 110, 101], .str [119, 105, 100, 116, 104], .str [102, 101, 110, 99, 101], .str [114, 111, 119], .str [102, 105, 110, 101]], [.str [119, 105, 100, 116, 104], .str [114, 111, 111, 109], .str [114, 111, 119], .str [102, 105, 110, 101], .str [119, 105, 100, 116, 104], .str [114, 111, 111, 109], .str [114, 111, 119], .str [102, 105, 110, 101]], [.str [119, 105, 100, 116, 104], .str [102, 101, 110, 99, 101], .str [102, 105, 110, 101], .str [119, 105, 100, 116, 104], .str [102, 101, 110, 99, 101], .str [102, 105, 110, 101], .str [119, 105, 100, 116, 104], .str [102, 101, 110, 99, 101], .str [102, 105, 110, 101]]]) = .ok (.str [114, 111, 119]) [[.int a47, .int b47, .int c47], [.str [119, 105, 100, 116, 104], .str [102, 101, 110, 99, 101], .str [114, 111, 119], .str [102, 105, 110, 101], .str [119, 105, 100, 116, 104], .str [102, 101, 110, 99, 101], .str [114, 111, 119], .str [102, 105, 110, 101]], [.str [119, 105, 100, 116, 104], .str [114, 111, 111, 109], .str [114, 111, 119], .str [102, 105, 110, 101], .str [119, 105, 100, 116, 104], .str [114, 111, 111, 109], .str [114, 111, 119], .str [102, 105, 110, 101]], [.str [119, 105, 100, 116, 104], .str [102, 101, 110, 99, 101], .str [102, 105, 110, 101], .str [119, 105, 100, 116, 104], .str [102, 101, 110, 99, 101], .str [102, 105, 110, 101], .str [119, 105, 100, 116, 104], .str [102, 101, 110, 99, 101], .str [102, 105, 110, 101]]] := by
  simp only [m_d1, List.mem_cons, List.not_mem_nil, or_false] at h_d1
  rcases h_d1 with rfl | rfl | rfl | rfl | rfl | rfl | rfl | rfl <;> kernel_rfl
theorem t75 (a47 b47 c47 : Int) (d0 : D) (d1 : D) (d2 : D) (d3 : D) (d4 : D) (h_d1 : d1 ∈ m_d1) : wordD fine hds (evE (R 37) gcons (GS_law_others_right_0.getD 24 .dict0) [some (.ref 0), some (.tup [.tup [.int 1, .int 2], .tup [.int 3, .int 1]]), some (.tup [.tup [.tup [.int 1, .int 1], .tup [.int 0, .int 1]], .tup [.int 5, .int 1]]), some (.tup [.tup [.tup [.int 1, .int 2], .tup [.int 3, .int 1]], .tup [.int 1, .int 1]]), some (.tup [.tup [.tup [.tup [.int 1, .int 2], .tup [.int 3, .int 1]], .tup [.int 1, .int 1]], .tup [.tup [.tup [.int 1, .int 2], .tup [.int 3, .int 1]], .tup [.int 1, .int 1]], .tup [.tup [.tup [.int 1, .int 2], .tup [.int 3, .int 1]], .tup [.int 1, .int 1]]]), some d0, some d1, some d2, some d3, some d4, some (.lams 0), some (.lst [.str [119, 105, 100, 116, 104], .str [119, 105, 100, 116, 104], .str [119, 105, 100, 116, 104], .str [114, 111, 111, 109], .str [114, 111, 111, 109], .str [109, 97, 110, 121, 32, 52, 48], .str [102, 105, 110, 101], .str [119, 105, 100, 116, 104], .str [102, 111, 114, 109], .str [102, 101, 110, 99, 101], .str [119, 105, 100, 116, 104], .str [102, 111, 114, 109], .str [102, 105, 110, 101], .str [114, 111, 111, 109], .str [119, 105, 100, 116, 104], .str [102, 111, 114, 109], .str [114, 111, 111, 109], .str [119, 105, 100, 116, 104], .str [119, 105, 100, 116, 104], .str [119, 105, 100, 116, 104], .str [114, 111, 119], .str [109, 97, 110, 121, 32, 52, 48], .str [102, 105, 110, 101], .str [114, 111, 119], .str [114, 111, 119]]), none] [[.int a47, .int b47, .int c47], [.str [119, 105, 100, 116, 104], .str [102, 101, 110, 99, 101], .str [114, 111, 119], .str [102, 105, 110, 101], .str [119, 105, 100, 116, 104], .str [102, 101, 110, 99, 101], .str [114, 111, 119], .str [102, 105, 110, 101]], [.str [119, 105, 100, 116, 104], .str [114, 111, 111, 109], .str [114, 111, 119], .str [102, 105, 110, 101], .str [119, 105, 100, 116, 104], .str [114, 111, 111, 109], .str [114, 111, 119], .str [102, 105, 110, 101]], [.str [119, 105, 100, 116, 104], .str [102, 101, 110, 99, 101], .str [102, 105, 110, 101], .str [119, 105, 100, 116, 104], .str [102, 101, 110, 99, 101], .str [102, 105, 110, 101], .str [119, 105, 100, 116, 104], .str [102, 101, 110, 99, 101], .str [102, 105, 110, 101]]]) = .ok (.str [114, 111, 119]) [[.int a47, .int b47, .int c47], [.str [119, 105, 100, 116, 104], .str [102, 101, 110, 99, 101], .str [114, 111, 119], .str [102, 105, 110, 101], .str [119, 105, 100, 116, 104], .str [102, 101, 110, 99, 101], .str [114, 111, 119], .str [102, 105, 110, 101]], [.str [119, 105, 100, 116, 104], .str [114, 111, 111, 109], .str [114, 111, 119], .str [102, 105, 110, 101], .str [119, 105, 100, 116, 104], .str [114, 111, 111, 109], .str [114, 111, 119], .str [102, 105, 110, 101]], [.str [119, 105, 100, 116, 104], .str [102, 101, 110, 99, 101], .str [102, 105, 110, 101], .str [119, 105, 100, 116, 104], .str [102, 101, 110, 99, 101], .str [102, 105, 110, 101], .str [119, 105, 100, 116, 104], .str [102, 101, 110, 99, 101], .str [102, 105, 110, 101]]] := by
  simp only [m_d1, List.mem_cons, List.not_mem_nil, or_false] at h_d1
  rcases h_d1 with rfl | rfl | rfl | rfl | rfl | rfl | rfl | rfl <;> kernel_rfl
theorem t76 (a47 b47 c47 : Int) (d0 : D) (d1 : D) (d2 : D) (d3 : D) (d4 : D)  : wordD fine hds (evE (R 37) gcons (GS_law_others_right_0.getD 25 .dict0) [some (.ref 0), some (.tup [.tup [.int 1, .int 2], .tup [.int 3, .int 1]]), some (.tup [.tup [.tup [.int 1, .int 1], .tup [.int 0, .int 1]], .tup [.int 5, .int 1]]), some (.tup [.tup [.tup [.int 1, .int 2], .tup [.int 3, .int 1]], .tup [.int 1, .int 1]]), some (.tup [.tup [.tup [.tup [.int 1, .int 2], .tup [.int 3, .int 1]], .tup [.int 1, .int 1]], .tup [.tup [.tup [.int 1, .int 2], .tup [.int 3, .int 1]], .tup [.int 1, .int 1]], .tup [.tup [.tup [.int 1, .int 2], .tup [.int 3, .int 1]], .tup [.int 1, .int 1]]]), some d0, some d1, some d2, some d3, some d4, some (.lams 0), some (.lst [.str [119, 105, 100, 116, 104], .str [119, 105, 100, 116, 104], .str [119, 105, 100, 116, 104], .str [114, 111, 111, 109], .str [114, 111, 111, 109], .str [109, 97, 110, 121, 32, 52, 48], .str [102, 105, 110, 101], .str [119, 105, 100, 116, 104], .str [102, 111, 114, 109], .str [102, 101, 110, 99, 101], .str [119, 105, 100, 116, 104], .str [102, 111, 114, 109], .str [102, 105, 110, 101], .str [114, 111, 111, 109], .str [119, 105, 100, 116, 104], .str [102, 111, 114, 109], .str [114, 111, 111, 109], .str [119, 105, 100, 116, 104], .str [119, 105, 100, 116, 104], .str [119, 105, 100, 116, 104], .str [114, 111, 119], .str [109, 97, 110, 121, 32, 52, 48], .str [102, 105, 110, 101], .str [114, 111, 119], .str [114, 111, 119]]), none] [[.int a47, .int b47, .int c47], [.str [119, 105, 100, 116, 104], .str [102, 101, 110, 99, 101], .str [114, 111, 119], .str [102, 105, 110, 101], .str [119, 105, 100, 116, 104], .str [102, 101, 110, 99, 101], .str [114, 111, 119], .str [102, 105, 110, 101]], [.str [119, 105, 100, 116, 104], .str [114, 111, 111, 109], .str [114, 111, 119], .str [102, 105, 110, 101], .str [119, 105, 100, 116, 104], .str [114, 111, 111, 109], .str [114, 111, 119], .str [102, 105, 110, 101]], [.str [119, 105, 100, 116, 104], .str [102, 101, 110, 99, 101], .str [102, 105, 110, 101], .str [119, 105, 100, 116, 104], .str [102, 101, 110, 99, 101], .str [102, 105, 110, 101], .str [119, 105, 100, 116, 104], .str [102, 101, 110, 99, 101], .str [102, 105, 110, 101]]]) = .ok (.str [111, 112, 101, 114, 97, 116, 105, 111, 110]) [[.int a47, .int b47, .int c47], [.str [119, 105, 100, 116, 104], .str [102, 101, 110, 99, 101], .str [114, 111, 119], .str [102, 105, 110, 101], .str [119, 105, 100, 116, 104], .str [102, 101, 110, 99, 101], .str [114, 111, 119], .str [102, 105, 110, 101]], [.str [119, 105, 100, 116, 104], .str [114, 111, 111, 109], .str [114, 111, 119], .str [102, 105, 110, 101], .str [119, 105, 100, 116, 104], .str [114, 111, 111, 109], .str [114, 111, 119], .str [102, 105, 110, 101]], [.str [119, 105, 100, 116, 104], .str [102, 101, 110, 99, 101], .str [102, 105, 110, 101], .str [119, 105, 100, 116, 104], .str [102, 101, 110, 99, 101], .str [102, 105, 110, 101], .str [119, 105, 100, 116, 104], .str [102, 101, 110, 99, 101], .str [102, 105, 110, 101]]] := by
  kernel_rfl
theorem t77 (a47 b47 c47 : Int) (d0 : D) (d1 : D) (d2 : D) (d3 : D) (d4 : D)  : wordD fine hds (evE (R 37) gcons (GS_law_others_right_0.getD 26 .dict0) [some (.ref 0), some (.tup [.tup [.int 1, .int 2], .tup [.int 3, .int 1]]), some (.tup [.tup [.tup [.int 1, .int 1], .tup [.int 0, .int 1]], .tup [.int 5, .int 1]]), some (.tup [.tup [.tup [.int 1, .int 2], .tup [.int 3, .int 1]], .tup [.int 1, .int 1]]), some (.tup [.tup [.tup [.tup [.int 1, .int 2], .tup [.int 3, .int 1]], .tup [.int 1, .int 1]], .tup [.tup [.tup [.int 1, .int 2], .tup [.int 3, .int 1]], .tup [.int 1, .int 1]], .tup [.tup [.tup [.int 1, .int 2], .tup [.int 3, .int 1]], .tup [.int 1, .int 1]]]), some d0, some d1, some d2, some d3, some d4, some (.lams 0), some (.lst [.str [119, 105, 100, 116, 104], .str [119, 105, 100, 116, 104], .str [119, 105, 100, 116, 104], .str [114, 111, 111, 109], .str [114, 111, 111, 109], .str [109, 97, 110, 121, 32, 52, 48], .str [102, 105, 110, 101], .str [119, 105, 100, 116, 104], .str [102, 111, 114, 109], .str [102, 101, 110, 99, 101], .str [119, 105, 100, 116, 104], .str [102, 111, 114, 109], .str [102, 105, 110, 101], .str [114, 111, 111, 109], .str [119, 105, 100, 116, 104], .str [102, 111, 114, 109], .str [114, 111, 111, 109], .str [119, 105, 100, 116, 104], .str [119, 105, 100, 116, 104], .str [119, 105, 100, 116, 104], .str [114, 111, 119], .str [109, 97, 110, 121, 32, 52, 48], .str [102, 105, 110, 101], .str [114, 111, 119], .str [114, 111, 119]]), none] [[.int a47, .int b47, .int c47], [.str [119, 105, 100, 116, 104], .str [102, 101, 110, 99, 101], .str [114, 111, 119], .str [102, 105, 110, 101], .str [119, 105, 100, 116, 104], .str [102, 101, 110, 99, 101], .str [114, 111, 119], .str [102, 105, 110, 101]], [.str [119, 105, 100, 116, 104], .str [114, 111, 111, 109], .str [114, 111, 119], .str [102, 105, 110, 101], .str [119, 105, 100, 116, 104], .str [114, 111, 111, 109], .str [114, 111, 119], .str [102, 105, 110, 101]], [.str [119, 105, 100, 116, 104], .str [102, 101, 110, 99, 101], .str [102, 105, 110, 101], .str [119, 105, 100, 116, 104], .str [102, 101, 110, 99, 101], .str [102, 105, 110, 101], .str [119, 105, 100, 116, 104], .str [102, 101, 110, 99, 101], .str [102, 105, 110, 101]]]) = .ok (.str [102, 105, 110, 101]) [[.int a47, .int b47, .int c47], [.str [119, 105, 100, 116, 104], .str [102, 101, 110, 99, 101], .str [114, 111, 119], .str [102, 105, 110, 101], .str [119, 105, 100, 116, 104], .str [102, 101, 110, 99, 101], .str [114, 111, 119], .str [102, 105, 110, 101]], [.str [119, 105, 100, 116, 104], .str [114, 111, 111, 109], .str [114, 111, 119], .str [102, 105, 110, 101], .str [119, 105, 100, 116, 104], .str [114, 111, 111, 109], .str [114, 111, 119], .str [102, 105, 110, 101]], [.str [119, 105, 100, 116, 104], .str [102, 101, 110, 99, 101], .str [102, 105, 110, 101], .str [119, 105, 100, 116, 104], .str [102, 101, 110, 99, 101], .str [102, 105, 110, 101], .str [119, 105, 100, 116, 104], .str [102, 101, 110, 99, 101], .str [102, 105, 110, 101]]] := by
  kernel_rfl
theorem t78 (a47 b47 c47 : Int) (d0 : D) (d1 : D) (d2 : D) (d3 : D) (d4 : D) (h_d2 : d2 ∈ m_d2) (h_d3 : d3 ∈ m_d3 d2) : wordD fine hds (evE (R 37) gcons (GS_law_others_right_0.getD 27 .dict0) [some (.ref 0), some (.tup [.tup [.int 1, .int 2], .tup [.int 3, .int 1]]), some (.tup [.tup [.tup [.int 1, .int 1], .tup [.int 0, .int 1]], .tup [.int 5, .int 1]]), some (.tup [.tup [.tup [.int 1, .int 2], .tup [.int 3, .int 1]], .tup [.int 1, .int 1]]), some (.tup [.tup [.tup [.tup [.int 1, .int 2], .tup [.int 3, .int 1]], .tup [.int 1, .int 1]], .tup [.tup [.tup [.int 1, .int 2], .tup [.int 3, .int 1]], .tup [.int 1, .int 1]], .tup [.tup [.tup [.int 1, .int 2], .tup [.int 3, .int 1]], .tup [.int 1, .int 1]]]), some d0, some d1, some d2, some d3, some d4, some (.lams 0), some (.lst [.str [119, 105, 100, 116, 104], .str [119, 105, 100, 116, 104], .str [119, 105, 100, 116, 104], .str [114, 111, 111, 109], .str [114, 111, 111, 109], .str [109, 97, 110, 121, 32, 52, 48], .str [102, 105, 110, 101], .str [119, 105, 100, 116, 104], .str [102, 111, 114, 109], .str [102, 101, 110, 99, 101], .str [119, 105, 100, 116, 104], .str [102, 111, 114, 109], .str [102, 105, 110, 101], .str [114, 111, 111, 109], .str [119, 105, 100, 116, 104], .str [102, 111, 114, 109], .str [114, 111, 111, 109], .str [119, 105, 100, 116, 104], .str [119, 105, 100, 116, 104], .str [119, 105, 100, 116, 104], .str [114, 111, 119], .str [109, 97, 110, 121, 32, 52, 48], .str [102, 105, 110, 101], .str [114, 111, 119], .str [114, 111, 119]]), none] [[.int a47, .int b47, .int c47], [.str [119, 105, 100, 116, 104], .str [102, 101, 110, 99, 101], .str [114, 111, 119], .str [102, 105, 110, 101], .str [119, 105, 100, 116, 104], .str [102, 101, 110, 99, 101], .str [114, 111, 119], .str [102, 105, 110, 101]], [.str [119, 105, 100, 116, 104], .str [114, 111, 111, 109], .str [114, 111, 119], .str [102, 105, 110, 101], .str [119, 105, 100, 116, 104], .str [114, 111, 111, 109], .str [114, 111, 119], .str [102, 105, 110, 101]], [.str [119, 105, 100, 116, 104], .str [102, 101, 110, 99, 101], .str [102, 105, 110, 101], .str [119, 105, 100, 116, 104], .str [102, 101, 110, 99, 101], .str [102, 105, 110, 101], .str [119, 105, 100, 116, 104], .str [102, 101, 110, 99, 101], .str [102, 105, 110, 101]]]) = .ok (.str [114, 111, 111, 109]) [[.int a47, .int b47, .int c47], [.str [119, 105, 100, 116, 104], .str [102, 101, 110, 99, 101], .str [114, 111, 119], .str [102, 105, 110, 101], .str [119, 105, 100, 116, 104], .str [102, 101, 110, 99, 101], .str [114, 111, 119], .str [102, 105, 110, 101]], [.str [119, 105, 100, 116, 104], .str [114, 111, 111, 109], .str [114, 111, 119], .str [102, 105, 110, 101], .str [119, 105, 100, 116, 104], .str [114, 111, 111, 109], .str [114, 111, 119], .str [102, 105, 110, 101]], [.str [119, 105, 100, 116, 104], .str [102, 101, 110, 99, 101], .str [102, 105, 110, 101], .str [119, 105, 100, 116, 104], .str [102, 101, 110, 99, 101], .str [102, 105, 110, 101], .str [119, 105, 100, 116, 104], .str [102, 101, 110, 99, 101], .str [102, 105, 110, 101]]] := by
  simp only [m_d3, List.mem_cons, List.not_mem_nil, or_false] at h_d3
  rcases h_d3 with rfl | rfl | rfl | rfl | rfl | rfl | rfl | rfl
  · kernel_rfl
  · kernel_rfl
  · simp only [m_d2, List.mem_cons, List.not_mem_nil, or_false] at h_d2
    rcases h_d2 with rfl | rfl | rfl | rfl | rfl | rfl | rfl | rfl | rfl <;> kernel_rfl
  · kernel_rfl
  · kernel_rfl
  · kernel_rfl
  · kernel_rfl
  · kernel_rfl
theorem t79 (a47 b47 c47 : Int) (d0 : D) (d1 : D) (d2 : D) (d3 : D) (d4 : D) (h_d4 : d4 ∈ m_d4) : wordD fine hds (evE (R 37) gcons (GS_law_others_right_0.getD 28 .dict0) [some (.ref 0), some (.tup [.tup [.int 1, .int 2], .tup [.int 3, .int 1]]), some (.tup [.tup [.tup [.int 1, .int 1], .tup [.int 0, .int 1]], .tup [.int 5, .int 1]]), some (.tup [.tup [.tup [.int 1, .int 2], .tup [.int 3, .int 1]], .tup [.int 1, .int 1]]), some (.tup [.tup [.tup [.tup [.int 1, .int 2], .tup [.int 3, .int 1]], .tup [.int 1, .int 1]], .tup [.tup [.tup [.int 1, .int 2], .tup [.int 3, .int 1]], .tup [.int 1, .int 1]], .tup [.tup [.tup [.int 1, .int 2], .tup [.int 3, .int 1]], .tup [.int 1, .int 1]]]), some d0, some d1, some d2, some d3, some d4, some (.lams 0), some (.lst [.str [119, 105, 100, 116, 104], .str [119, 105, 100, 116, 104], .str [119, 105, 100, 116, 104], .str [114, 111, 111, 109], .str [114, 111, 111, 109], .str [109, 97, 110, 121, 32, 52, 48], .str [102, 105, 110, 101], .str [119, 105, 100, 116, 104], .str [102, 111, 114, 109], .str [102, 101, 110, 99, 101], .str [119, 105, 100, 116, 104], .str [102, 111, 114, 109], .str [102, 105, 110, 101], .str [114, 111, 111, 109], .str [119, 105, 100, 116, 104], .str [102, 111, 114, 109], .str [114, 111, 111, 109], .str [119, 105, 100, 116, 104], .str [119, 105, 100, 116, 104], .str [119, 105, 100, 116, 104], .str [114, 111, 119], .str [109, 97, 110, 121, 32, 52, 48], .str [102, 105, 110, 101], .str [114, 111, 119], .str [114, 111, 119]]), none] [[.int a47, .int b47, .int c47], [.str [119, 105, 100, 116, 104], .str [102, 101, 110, 99, 101], .str [114, 111, 119], .str [102, 105, 110, 101], .str [119, 105, 100, 116, 104], .str [102, 101, 110, 99, 101], .str [114, 111, 119], .str [102, 105, 110, 101]], [.str [119, 105, 100, 116, 104], .str [114, 111, 111, 109], .str [114, 111, 119], .str [102, 105, 110, 101], .str [119, 105, 100, 116, 104], .str [114, 111, 111, 109], .str [114, 111, 119], .str [102, 105, 110, 101]], [.str [119, 105, 100, 116, 104], .str [102, 101, 110, 99, 101], .str [102, 105, 110, 101], .str [119, 105, 100, 116, 104], .str [102, 101, 110, 99, 101], .str [102, 105, 110, 101], .str [119, 105, 100, 116, 104], .str [102, 101, 110, 99, 101], .str [102, 105, 110, 101]]]) = .ok (.str [112, 97, 112, 101, 114]) [[.int a47, .int b47, .int c47], [.str [119, 105, 100, 116, 104], .str [102, 101, 110, 99, 101], .str [114, 111, 119], .str [102, 105, 110, 101], .str [119, 105, 100, 116, 104], .str [102, 101, 110, 99, 101], .str [114, 111, 119], .str [102, 105, 110, 101]], [.str [119, 105, 100, 116, 104], .str [114, 111, 111, 109], .str [114, 111, 119], .str [102, 105, 110, 101], .str [119, 105, 100, 116, 104], .str [114, 111, 111, 109], .str [114, 111, 119], .str [102, 105, 110, 101]], [.str [119, 105, 100, 116, 104], .str [102, 101, 110, 99, 101], .str [102, 105, 110, 101], .str [119, 105, 100, 116, 104], .str [102, 101, 110, 99, 101], .str [102, 105, 110, 101], .str [119, 105, 100, 116, 104], .str [102, 101, 110, 99, 101], .str [102, 105, 110, 101]]] := by
  simp only [m_d4, List.mem_cons, List.not_mem_nil, or_false] at h_d4
  rcases h_d4 with rfl | rfl | rfl | rfl | rfl | rfl | rfl <;> kernel_rfl
theorem t80 (a47 b47 c47 : Int) (d0 : D) (d1 : D) (d2 : D) (d3 : D) (d4 : D)  : wordD fine hds (evE (R 37) gcons (GS_law_others_right_0.getD 29 .dict0) [some (.ref 0), some (.tup [.tup [.int 1, .int 2], .tup [.int 3, .int 1]]), some (.tup [.tup [.tup [.int 1, .int 1], .tup [.int 0, .int 1]], .tup [.int 5, .int 1]]), some (.tup [.tup [.tup [.int 1, .int 2], .tup [.int 3, .int 1]], .tup [.int 1, .int 1]]), some (.tup [.tup [.tup [.tup [.int 1, .int 2], .tup [.int 3, .int 1]], .tup [.int 1, .int 1]], .tup [.tup [.tup [.int 1, .int 2], .tup [.int 3, .int 1]], .tup [.int 1, .int 1]], .tup [.tup [.tup [.int 1, .int 2], .tup [.int 3, .int 1]], .tup [.int 1, .int 1]]]), some d0, some d1, some d2, some d3, some d4, some (.lams 0), some (.lst [.str [119, 105, 100, 116, 104], .str [119, 105, 100, 116, 104], .str [119, 105, 100, 116, 104], .str [114, 111, 111, 109], .str [114, 111, 111, 109], .str [109, 97, 110, 121, 32, 52, 48], .str [102, 105, 110, 101], .str [119, 105, 100, 116, 104], .str [102, 111, 114, 109], .str [102, 101, 110, 99, 101], .str [119, 105, 100, 116, 104], .str [102, 111, 114, 109], .str [102, 105, 110, 101], .str [114, 111, 111, 109], .str [119, 105, 100, 116, 104], .str [102, 111, 114, 109], .str [114, 111, 111, 109], .str [119, 105, 100, 116, 104], .str [119, 105, 100, 116, 104], .str [119, 105, 100, 116, 104], .str [114, 111, 119], .str [109, 97, 110, 121, 32, 52, 48], .str [102, 105, 110, 101], .str [114, 111, 119], .str [114, 111, 119]]), none] [[.int a47, .int b47, .int c47], [.str [119, 105, 100, 116, 104], .str [102, 101, 110, 99, 101], .str [114, 111, 119], .str [102, 105, 110, 101], .str [119, 105, 100, 116, 104], .str [102, 101, 110, 99, 101], .str [114, 111, 119], .str [102, 105, 110, 101]], [.str [119, 105, 100, 116, 104], .str [114, 111, 111, 109], .str [114, 111, 119], .str [102, 105, 110, 101], .str [119, 105, 100, 116, 104], .str [114, 111, 111, 109], .str [114, 111, 119], .str [102, 105, 110, 101]], [.str [119, 105, 100, 116, 104], .str [102, 101, 110, 99, 101], .str [102, 105, 110, 101], .str [119, 105, 100, 116, 104], .str [102, 101, 110, 99, 101], .str [102, 105, 110, 101], .str [119, 105, 100, 116, 104], .str [102, 101, 110, 99, 101], .str [102, 105, 110, 101]]]) = .ok (.str [102, 105, 110, 101]) [[.int a47, .int b47, .int c47], [.str [119, 105, 100, 116, 104], .str [102, 101, 110, 99, 101], .str [114, 111, 119], .str [102, 105, 110, 101], .str [119, 105, 100, 116, 104], .str [102, 101, 110, 99, 101], .str [114, 111, 119], .str [102, 105, 110, 101]], [.str [119, 105, 100, 116, 104], .str [114, 111, 111, 109], .str [114, 111, 119], .str [102, 105, 110, 101], .str [119, 105, 100, 116, 104], .str [114, 111, 111, 109], .str [114, 111, 119], .str [102, 105, 110, 101]], [.str [119, 105, 100, 116, 104], .str [102, 101, 110, 99, 101], .str [102, 105, 110, 101], .str [119, 105, 100, 116, 104], .str [102, 101, 110, 99, 101], .str [102, 105, 110, 101], .str [119, 105, 100, 116, 104], .str [102, 101, 110, 99, 101], .str [102, 105, 110, 101]]] := by
  kernel_rfl
theorem t82 (a47 b47 c47 : Int) (d0 : D) (d1 : D) (d2 : D) (d3 : D) (d4 : D)  : evE (R 37) gcons ((.bin .add (.slot 11) (.lst [(.con (.str [111, 112, 101, 114, 97, 116, 105, 111, 110])), (.con (.str [102, 105, 110, 101])), (.con (.str [114, 111, 111, 109])), (.con (.str [112, 97, 112, 101, 114])), (.con (.str [102, 105, 110, 101]))]))) [some (.ref 0), some (.tup [.tup [.int 1, .int 2], .tup [.int 3, .int 1]]), some (.tup [.tup [.tup [.int 1, .int 1], .tup [.int 0, .int 1]], .tup [.int 5, .int 1]]), some (.tup [.tup [.tup [.int 1, .int 2], .tup [.int 3, .int 1]], .tup [.int 1, .int 1]]), some (.tup [.tup [.tup [.tup [.int 1, .int 2], .tup [.int 3, .int 1]], .tup [.int 1, .int 1]], .tup [.tup [.tup [.int 1, .int 2], .tup [.int 3, .int 1]], .tup [.int 1, .int 1]], .tup [.tup [.tup [.int 1, .int 2], .tup [.int 3, .int 1]], .tup [.int 1, .int 1]]]), some d0, some d1, some d2, some d3, some d4, some (.lams 0), some (.lst [.str [119, 105, 100, 116, 104], .str [119, 105, 100, 116, 104], .str [119, 105, 100, 116, 104], .str [114, 111, 111, 109], .str [114, 111, 111, 109], .str [109, 97, 110, 121, 32, 52, 48], .str [102, 105, 110, 101], .str [119, 105, 100, 116, 104], .str [102, 111, 114, 109], .str [102, 101, 110, 99, 101], .str [119, 105, 100, 116, 104], .str [102, 111, 114, 109], .str [102, 105, 110, 101], .str [114, 111, 111, 109], .str [119, 105, 100, 116, 104], .str [102, 111, 114, 109], .str [114, 111, 111, 109], .str [119, 105, 100, 116, 104], .str [119, 105, 100, 116, 104], .str [119, 105, 100, 116, 104], .str [114, 111, 119], .str [109, 97, 110, 121, 32, 52, 48], .str [102, 105, 110, 101], .str [114, 111, 119], .str [114, 111, 119]]), none] [[.int a47, .int b47, .int c47], [.str [119, 105, 100, 116, 104], .str [102, 101, 110, 99, 101], .str [114, 111, 119], .str [102, 105, 110, 101], .str [119, 105, 100, 116, 104], .str [102, 101, 110, 99, 101], .str [114, 111, 119], .str [102, 105, 110, 101]], [.str [119, 105, 100, 116, 104], .str [114, 111, 111, 109], .str [114, 111, 119], .str [102, 105, 110, 101], .str [119, 105, 100, 116, 104], .str [114, 111, 111, 109], .str [114, 111, 119], .str [102, 105, 110, 101]], [.str [119, 105, 100, 116, 104], .str [102, 101, 110, 99, 101], .str [102, 105, 110, 101], .str [119, 105, 100, 116, 104], .str [102, 101, 110, 99, 101], .str [102, 105, 110, 101], .str [119, 105, 100, 116, 104], .str [102, 101, 110, 99, 101], .str [102, 105, 110, 101]]] = .ok (.lst [.str [119, 105, 100, 116, 104], .str [119, 105, 100, 116, 104], .str [119, 105, 100, 116, 104], .str [114, 111, 111, 109], .str [114, 111, 111, 109], .str [109, 97, 110, 121, 32, 52, 48], .str [102, 105, 110, 101], .str [119, 105, 100, 116, 104], .str [102, 111, 114, 109], .str [102, 101, 110, 99, 101], .str [119, 105, 100, 116, 104], .str [102, 111, 114, 109], .str [102, 105, 110, 101], .str [114, 111, 111, 109], .str [119, 105, 100, 116, 104], .str [102, 111, 114, 109], .str [114, 111, 111, 109], .str [119, 105, 100, 116, 104], .str [119, 105, 100, 116, 104], .str [119, 105, 100, 116, 104], .str [114, 111, 119], .str [109, 97, 110, 121, 32, 52, 48], .str [102, 105, 110, 101], .str [114, 111, 119], .str [114, 111, 119], .str [111, 112, 101, 114, 97, 116, 105, 111, 110], .str [102, 105, 110, 101], .str [114, 111, 111, 109], .str [112, 97, 112, 101, 114], .str [102, 105, 110, 101]]) [[.int a47, .int b47, .int c47], [.str [119, 105, 100, 116, 104], .str [102, 101, 110, 99, 101], .str [114, 111, 119], .str [102, 105, 110, 101], .str [119, 105, 100, 116, 104], .str [102, 101, 110, 99, 101], .str [114, 111, 119], .str [102, 105, 110, 101]], [.str [119, 105, 100, 116, 104], .str [114, 111, 111, 109], .str [114, 111, 119], .str [102, 105, 110, 101], .str [119, 105, 100, 116, 104], .str [114, 111, 111, 109], .str [114, 111, 119], .str [102, 105, 110, 101]], [.str [119, 105, 100, 116, 104], .str [102, 101, 110, 99, 101], .str [102, 105, 110, 101], .str [119, 105, 100, 116, 104], .str [102, 101, 110, 99, 101], .str [102, 105, 110, 101], .str [119, 105, 100, 116, 104], .str [102, 101, 110, 99, 101], .str [102, 105, 110, 101]]] := by
  kernel_rfl
theorem t83 (a47 b47 c47 : Int) (d0 : D) (d1 : D) (d2 : D) (d3 : D) (d4 : D)  : cmp2 .eq (.lst [.str [119, 105, 100, 116, 104], .str [119, 105, 100, 116, 104], .str [119, 105, 100, 116, 104], .str [114, 111, 111, 109], .str [114, 111, 111, 109], .str [109, 97, 110, 121, 32, 52, 48], .str [102, 105, 110, 101], .str [119, 105, 100, 116, 104], .str [102, 111, 114, 109], .str [102, 101, 110, 99, 101], .str [119, 105, 100, 116, 104], .str [102, 111, 114, 109], .str [102, 105, 110, 101], .str [114, 111, 111, 109], .str [119, 105, 100, 116, 104], .str [102, 111, 114, 109], .str [114, 111, 111, 109], .str [119, 105, 100, 116, 104], .str [119, 105, 100, 116, 104], .str [119, 105, 100, 116, 104], .str [114, 111, 119], .str [109, 97, 110, 121, 32, 52, 48], .str [102, 105, 110, 101], .str [114, 111, 119], .str [114, 111, 119], .str [111, 112, 101, 114, 97, 116, 105, 111, 110], .str [102, 105, 110, 101], .str [114, 111, 111, 109], .str [112, 97, 112, 101, 114], .str [102, 105, 110, 101]]) (.lst [.str [119, 105, 100, 116, 104], .str [119, 105, 100, 116, 104], .str [119, 105, 100, 116, 104], .str [114, 111, 111, 109], .str [114, 111, 111, 109], .str [109, 97, 110, 121, 32, 52, 48], .str [102, 105, 110, 101], .str [119, 105, 100, 116, 104], .str [102, 111, 114, 109], .str [102, 101, 110, 99, 101], .str [119, 105, 100, 116, 104], .str [102, 111, 114, 109], .str [102, 105, 110, 101], .str [114, 111, 111, 109], .str [119, 105, 100, 116, 104], .str [102, 111, 114, 109], .str [114, 111, 111, 109], .str [119, 105, 100, 116, 104], .str [119, 105, 100, 116, 104], .str [119, 105, 100, 116, 104], .str [114, 111, 119], .str [109, 97, 110, 121, 32, 52, 48], .str [102, 105, 110, 101], .str [114, 111, 119], .str [114, 111, 119], .str [111, 112, 101, 114, 97, 116, 105, 111, 110], .str [102, 105, 110, 101], .str [114, 111, 111, 109], .str [112, 97, 112, 101, 114], .str [102, 105, 110, 101]]) [[.int a47, .int b47, .int c47], [.str [119, 105, 100, 116, 104], .str [102, 101, 110, 99, 101], .str [114, 111, 119], .str [102, 105, 110, 101], .str [119, 105, 100, 116, 104], .str [102, 101, 110, 99, 101], .str [114, 111, 119], .str [102, 105, 110, 101]], [.str [119, 105, 100, 116, 104], .str [114, 111, 111, 109], .str [114, 111, 119], .str [102, 105, 110, 101], .str [119, 105, 100, 116, 104], .str [114, 111, 111, 109], .str [114, 111, 119], .str [102, 105, 110, 101]], [.str [119, 105, 100, 116, 104], .str [102, 101, 110, 99, 101], .str [102, 105, 110, 101], .str [119, 105, 100, 116, 104], .str [102, 101, 110, 99, 101], .str [102, 105, 110, 101], .str [119, 105, 100, 116, 104], .str [102, 101, 110, 99, 101], .str [102, 105, 110, 101]]] = .ok true [[.int a47, .int b47, .int c47], [.str [119, 105, 100, 116, 104], .str [102, 101, 110, 99, 101], .str [114, 111, 119], .str [102, 105, 110, 101], .str [119, 105, 100, 116, 104], .str [102, 101, 110, 99, 101], .str [114, 111, 119], .str [102, 105, 110, 101]], [.str [119, 105, 100, 116, 104], .str [114, 111, 111, 109], .str [114, 111, 119], .str [102, 105, 110, 101], .str [119, 105, 100, 116, 104], .str [114, 111, 111, 109], .str [114, 111, 119], .str [102, 105, 110, 101]], [.str [119, 105, 100, 116, 104], .str [102, 101, 110, 99, 101], .str [102, 105, 110, 101], .str [119, 105, 100, 116, 104], .str [102, 101, 110, 99, 101], .str [102, 105, 110, 101], .str [119, 105, 100, 116, 104], .str [102, 101, 110, 99, 101], .str [102, 105, 110, 101]]] := by
  kernel_rfl
theorem r_84 (m : Nat) (a10 b10 c10 : Int) (d0 : D) (d1 : D) (d2 : D) (d3 : D) (h_d0 : d0 ∈ m_d0) (h_d1 : d1 ∈ m_d1) (h_d2 : d2 ∈ m_d2) (h_d3 : d3 ∈ m_d3 d2) (c0_c10 : 0 ≤ c10) (c1_c10 : c10 + ((m + 1 : Nat) : Int) ≤ 2 ^ 100) : ∃ a9 b9 c9 : Int, R 38 73 [.ref 0, .tup [.tup [.int 1, .int 2], .tup [.int 3, .int 1]], .tup [.tup [.tup [.int 1, .int 1], .tup [.int 0, .int 1]], .tup [.int 5, .int 1]], .tup [.tup [.tup [.int 1, .int 2], .tup [.int 3, .int 1]], .tup [.int 1, .int 1]], .tup [.tup [.tup [.tup [.int 1, .int 2], .tup [.int 3, .int 1]], .tup [.int 1, .int 1]], .tup [.tup [.tup [.int 1, .int 2], .tup [.int 3, .int 1]], .tup [.int 1, .int 1]], .tup [.tup [.tup [.int 1, .int 2], .tup [.int 3, .int 1]], .tup [.int 1, .int 1]]], d0, d1, d2, d3] [[.int a10, .int b10, .int c10], [.str [119, 105, 100, 116, 104], .str [102, 101, 110, 99, 101], .str [114, 111, 119], .str [102, 105, 110, 101], .str [119, 105, 100, 116, 104], .str [102, 101, 110, 99, 101], .str [114, 111, 119], .str [102, 105, 110, 101]], [.str [119, 105, 100, 116, 104], .str [114, 111, 111, 109], .str [114, 111, 119], .str [102, 105, 110, 101], .str [119, 105, 100, 116, 104], .str [114, 111, 111, 109], .str [114, 111, 119], .str [102, 105, 110, 101]], [.str [119, 105, 100, 116, 104], .str [102, 101, 110, 99, 101], .str [102, 105, 110, 101], .str [119, 105, 100, 116, 104], .str [102, 101, 110, 99, 101], .str [102, 105, 110, 101], .str [119, 105, 100, 116, 104], .str [102, 101, 110, 99, 101], .str [102, 105, 110, 101]]] = .ok (.bl true) [[.int a9, .int b9, .int c9], [.str [119, 105, 100, 116, 104], .str [102, 101, 110, 99, 101], .str [114, 111, 119], .str [102, 105, 110, 101], .str [119, 105, 100, 116, 104], .str [102, 101, 110, 99, 101], .str [114, 111, 119], .str [102, 105, 110, 101]], [.str [119, 105, 100, 116, 104], .str [114, 111, 111, 109], .str [114, 111, 119], .str [102, 105, 110, 101], .str [119, 105, 100, 116, 104], .str [114, 111, 111, 109], .str [114, 111, 119], .str [102, 105, 110, 101]], [.str [119, 105, 100, 116, 104], .str [102, 101, 110, 99, 101], .str [102, 105, 110, 101], .str [119, 105, 100, 116, 104], .str [102, 101, 110, 99, 101], .str [102, 105, 110, 101], .str [119, 105, 100, 116, 104], .str [102, 101, 110, 99, 101], .str [102, 105, 110, 101]]] ∧ 0 ≤ c9 ∧ c9 + (m : Int) ≤ 2 ^ 100 := by
  obtain ⟨d4, a47, b47, c47, e_d4, h_d4, c0_c47, c1_c47⟩ := s_pick 35 (m + 0) (m_d4) [[.str [119, 105, 100, 116, 104], .str [102, 101, 110, 99, 101], .str [114, 111, 119], .str [102, 105, 110, 101], .str [119, 105, 100, 116, 104], .str [102, 101, 110, 99, 101], .str [114, 111, 119], .str [102, 105, 110, 101]], [.str [119, 105, 100, 116, 104], .str [114, 111, 111, 109], .str [114, 111, 119], .str [102, 105, 110, 101], .str [119, 105, 100, 116, 104], .str [114, 111, 111, 109], .str [114, 111, 119], .str [102, 105, 110, 101]], [.str [119, 105, 100, 116, 104], .str [102, 101, 110, 99, 101], .str [102, 105, 110, 101], .str [119, 105, 100, 116, 104], .str [102, 101, 110, 99, 101], .str [102, 105, 110, 101], .str [119, 105, 100, 116, 104], .str [102, 101, 110, 99, 101], .str [102, 105, 110, 101]]] a10 b10 c10 c0_c10 (by have := c1_c10; omega) (show 0 < 7 by decide) (show 7 < 1000 by decide)
  refine ⟨a47, b47, c47, ?_, c0_c47, by have := c1_c47; omega⟩
  have body : evB (R 37) gcons F_law_others_right.body [some (.ref 0), some (.tup [.tup [.int 1, .int 2], .tup [.int 3, .int 1]]), some (.tup [.tup [.tup [.int 1, .int 1], .tup [.int 0, .int 1]], .tup [.int 5, .int 1]]), some (.tup [.tup [.tup [.int 1, .int 2], .tup [.int 3, .int 1]], .tup [.int 1, .int 1]]), some (.tup [.tup [.tup [.tup [.int 1, .int 2], .tup [.int 3, .int 1]], .tup [.int 1, .int 1]], .tup [.tup [.tup [.int 1, .int 2], .tup [.int 3, .int 1]], .tup [.int 1, .int 1]], .tup [.tup [.tup [.int 1, .int 2], .tup [.int 3, .int 1]], .tup [.int 1, .int 1]]]), some d0, some d1, some d2, some d3, none, none, none, none] [[.int a10, .int b10, .int c10], [.str [119, 105, 100, 116, 104], .str [102, 101, 110, 99, 101], .str [114, 111, 119], .str [102, 105, 110, 101], .str [119, 105, 100, 116, 104], .str [102, 101, 110, 99, 101], .str [114, 111, 119], .str [102, 105, 110, 101]], [.str [119, 105, 100, 116, 104], .str [114, 111, 111, 109], .str [114, 111, 119], .str [102, 105, 110, 101], .str [119, 105, 100, 116, 104], .str [114, 111, 111, 109], .str [114, 111, 119], .str [102, 105, 110, 101]], [.str [119, 105, 100, 116, 104], .str [102, 101, 110, 99, 101], .str [102, 105, 110, 101], .str [119, 105, 100, 116, 104], .str [102, 101, 110, 99, 101], .str [102, 105, 110, 101], .str [119, 105, 100, 116, 104], .str [102, 101, 110, 99, 101], .str [102, 105, 110, 101]]] = .ret (.bl true) [[.int a47, .int b47, .int c47], [.str [119, 105, 100, 116, 104], .str [102, 101, 110, 99, 101], .str [114, 111, 119], .str [102, 105, 110, 101], .str [119, 105, 100, 116, 104], .str [102, 101, 110, 99, 101], .str [114, 111, 119], .str [102, 105, 110, 101]], [.str [119, 105, 100, 116, 104], .str [114, 111, 111, 109], .str [114, 111, 119], .str [102, 105, 110, 101], .str [119, 105, 100, 116, 104], .str [114, 111, 111, 109], .str [114, 111, 119], .str [102, 105, 110, 101]], [.str [119, 105, 100, 116, 104], .str [102, 101, 110, 99, 101], .str [102, 105, 110, 101], .str [119, 105, 100, 116, 104], .str [102, 101, 110, 99, 101], .str [102, 105, 110, 101], .str [119, 105, 100, 116, 104], .str [102, 101, 110, 99, 101], .str [102, 105, 110, 101]]] := b_from0 (b_nx (by decide) (asg_call (t46 a10 b10 c10 d0 d1 d2 d3) e_d4)
    (b_nx (by decide) (t48 a47 b47 c47 d0 d1 d2 d3 d4)
    (b_nx (by decide) (t49 a47 b47 c47 d0 d1 d2 d3 d4)
    (b_nx (by decide) (t50 a47 b47 c47 d0 d1 d2 d3 d4)
    (b_ret (by decide) (ret_gs rfl (gs_nx rfl (t51 a47 b47 c47 d0 d1 d2 d3 d4 h_d0)
    (gs_nx rfl (t52 a47 b47 c47 d0 d1 d2 d3 d4 h_d0)
    (gs_nx rfl (t53 a47 b47 c47 d0 d1 d2 d3 d4 h_d0)
    (gs_nx rfl (t54 a47 b47 c47 d0 d1 d2 d3 d4 h_d2 h_d3)
    (gs_nx rfl (t55 a47 b47 c47 d0 d1 d2 d3 d4 h_d2 h_d3)
    (gs_nx rfl (t56 a47 b47 c47 d0 d1 d2 d3 d4)
    (gs_nx rfl (t57 a47 b47 c47 d0 d1 d2 d3 d4)
    (gs_nx rfl (t58 a47 b47 c47 d0 d1 d2 d3 d4 h_d0)
    (gs_nx rfl (t59 a47 b47 c47 d0 d1 d2 d3 d4 h_d1)
    (gs_nx rfl (t60 a47 b47 c47 d0 d1 d2 d3 d4 h_d2)
    (gs_nx rfl (t61 a47 b47 c47 d0 d1 d2 d3 d4 h_d0)
    (gs_nx rfl (t62 a47 b47 c47 d0 d1 d2 d3 d4)
    (gs_nx rfl (t63 a47 b47 c47 d0 d1 d2 d3 d4)
    (gs_nx rfl (t64 a47 b47 c47 d0 d1 d2 d3 d4 h_d2 h_d3)
    (gs_nx rfl (t65 a47 b47 c47 d0 d1 d2 d3 d4 h_d0)
    (gs_nx rfl (t66 a47 b47 c47 d0 d1 d2 d3 d4 h_d1)
    (gs_nx rfl (t67 a47 b47 c47 d0 d1 d2 d3 d4 h_d2 h_d3)
    (gs_nx rfl (t68 a47 b47 c47 d0 d1 d2 d3 d4 h_d0)
    (gs_nx rfl (t69 a47 b47 c47 d0 d1 d2 d3 d4)
    (gs_nx rfl (t70 a47 b47 c47 d0 d1 d2 d3 d4 h_d0)
    (gs_nx rfl (t71 a47 b47 c47 d0 d1 d2 d3 d4 h_d1)
    (gs_nx rfl (t72 a47 b47 c47 d0 d1 d2 d3 d4)
    (gs_nx rfl (t73 a47 b47 c47 d0 d1 d2 d3 d4)
    (gs_nx rfl (t74 a47 b47 c47 d0 d1 d2 d3 d4 h_d1)
    (gs_nx rfl (t75 a47 b47 c47 d0 d1 d2 d3 d4 h_d1)
    (gs_nx rfl (t76 a47 b47 c47 d0 d1 d2 d3 d4)
    (gs_nx rfl (t77 a47 b47 c47 d0 d1 d2 d3 d4)
    (gs_nx rfl (t78 a47 b47 c47 d0 d1 d2 d3 d4 h_d2 h_d3)
    (gs_nx rfl (t79 a47 b47 c47 d0 d1 d2 d3 d4 h_d4)
    (gs_nx rfl (t80 a47 b47 c47 d0 d1 d2 d3 d4)
    gs_nil)))))))))))))))))))))))))))))) (t82 a47 b47 c47 d0 d1 d2 d3 d4) (t83 a47 b47 c47 d0 d1 d2 d3 d4)))))))
  refine (run_at (k := 37) at_law_others_right rfl).trans ((congrArg (endOf 4) (show evB (R 37) gcons F_law_others_right.body (startD F_law_others_right.sl [.ref 0, .tup [.tup [.int 1, .int 2], .tup [.int 3, .int 1]], .tup [.tup [.tup [.int 1, .int 1], .tup [.int 0, .int 1]], .tup [.int 5, .int 1]], .tup [.tup [.tup [.int 1, .int 2], .tup [.int 3, .int 1]], .tup [.int 1, .int 1]], .tup [.tup [.tup [.tup [.int 1, .int 2], .tup [.int 3, .int 1]], .tup [.int 1, .int 1]], .tup [.tup [.tup [.int 1, .int 2], .tup [.int 3, .int 1]], .tup [.int 1, .int 1]], .tup [.tup [.tup [.int 1, .int 2], .tup [.int 3, .int 1]], .tup [.int 1, .int 1]]], d0, d1, d2, d3]) [[.int a10, .int b10, .int c10], [.str [119, 105, 100, 116, 104], .str [102, 101, 110, 99, 101], .str [114, 111, 119], .str [102, 105, 110, 101], .str [119, 105, 100, 116, 104], .str [102, 101, 110, 99, 101], .str [114, 111, 119], .str [102, 105, 110, 101]], [.str [119, 105, 100, 116, 104], .str [114, 111, 111, 109], .str [114, 111, 119], .str [102, 105, 110, 101], .str [119, 105, 100, 116, 104], .str [114, 111, 111, 109], .str [114, 111, 119], .str [102, 105, 110, 101]], [.str [119, 105, 100, 116, 104], .str [102, 101, 110, 99, 101], .str [102, 105, 110, 101], .str [119, 105, 100, 116, 104], .str [102, 101, 110, 99, 101], .str [102, 105, 110, 101], .str [119, 105, 100, 116, 104], .str [102, 101, 110, 99, 101], .str [102, 105, 110, 101]]] = _ from body)).trans ?_)
  kernel_rfl
theorem r_86 (m : Nat) (a b c : Int)   (c0_c : 0 ≤ c) (c1_c : c + ((m + 5 : Nat) : Int) ≤ 2 ^ 100) : ∃ a9 b9 c9 : Int, R 39 74 [.ref 0] [[.int a, .int b, .int c]] = .ok (.bl true) [[.int a9, .int b9, .int c9]] ∧ 0 ≤ c9 ∧ c9 + (m : Int) ≤ 2 ^ 100 := by
  obtain ⟨d0, a4, b4, c4, e_d0, h_d0, c0_c4, c1_c4⟩ := s_pick 36 (m + 4) (m_d0) [] a b c c0_c (by have := c1_c; omega) (show 0 < 6 by decide) (show 6 < 1000 by decide)
  obtain ⟨d1, a6, b6, c6, e_d1, h_d1, c0_c6, c1_c6⟩ := s_pick 36 (m + 3) (m_d1) [] a4 b4 c4 c0_c4 (by have := c1_c4; omega) (show 0 < 8 by decide) (show 8 < 1000 by decide)
  obtain ⟨d2, a8, b8, c8, e_d2, h_d2, c0_c8, c1_c8⟩ := s_pick 36 (m + 2) (m_d2) [] a6 b6 c6 c0_c6 (by have := c1_c6; omega) (show 0 < 9 by decide) (show 9 < 1000 by decide)
  obtain ⟨d3, a10, b10, c10, e_d3, h_d3, c0_c10, c1_c10⟩ := s_pick 36 (m + 1) (m_d3 d2) [] a8 b8 c8 c0_c8 (by have := c1_c8; omega) (show 0 < 8 by decide) (show 8 < 1000 by decide)
  obtain ⟨a85, b85, c85, e_a85, c0_c85, c1_c85⟩ := r_84 (m + 0) a10 b10 c10 d0 d1 d2 d3 h_d0 h_d1 h_d2 h_d3 c0_c10 (by have := c1_c10; omega)
  refine ⟨a85, b85, c85, ?_, c0_c85, by have := c1_c85; omega⟩
  have body : evB (R 38) gcons F_law_right.body [some (.ref 0), none, none, none, none, none, none, none, none, none, none] [[.int a, .int b, .int c]] = .ret (.bl true) [[.int a85, .int b85, .int c85], [.str [119, 105, 100, 116, 104], .str [102, 101, 110, 99, 101], .str [114, 111, 119], .str [102, 105, 110, 101], .str [119, 105, 100, 116, 104], .str [102, 101, 110, 99, 101], .str [114, 111, 119], .str [102, 105, 110, 101]], [.str [119, 105, 100, 116, 104], .str [114, 111, 111, 109], .str [114, 111, 119], .str [102, 105, 110, 101], .str [119, 105, 100, 116, 104], .str [114, 111, 111, 109], .str [114, 111, 119], .str [102, 105, 110, 101]], [.str [119, 105, 100, 116, 104], .str [102, 101, 110, 99, 101], .str [102, 105, 110, 101], .str [119, 105, 100, 116, 104], .str [102, 101, 110, 99, 101], .str [102, 105, 110, 101], .str [119, 105, 100, 116, 104], .str [102, 101, 110, 99, 101], .str [102, 105, 110, 101]]] := b_from0 (b_nx (by decide) (t1 a b c)
    (b_nx (by decide) (t2 a b c)
    (b_nx (by decide) (asg_call (t3 a b c) e_d0)
    (b_nx (by decide) (asg_call (t5 a4 b4 c4 d0) e_d1)
    (b_nx (by decide) (asg_call (t7 a6 b6 c6 d0 d1) e_d2)
    (b_nx (by decide) (asg_call (t9 a8 b8 c8 d0 d1 d2) e_d3)
    (b_nx (by decide) (t11 a10 b10 c10 d0 d1 d2 d3)
    (b_nx (by decide) (for_c (t12 a10 b10 c10 d0 d1 d2 d3) (fg_nx rfl (b_from0 (b_nx (by decide) (t13 a10 b10 c10 d0 d1 d2 d3 h_d0)
    (b_nx (by decide) (t14 a10 b10 c10 d0 d1 d2 d3 h_d2)
    (b_nx (by decide) (t15 a10 b10 c10 d0 d1 d2 d3 h_d1)
    (b_nx (by decide) (t16 a10 b10 c10 d0 d1 d2 d3)
    (b_stop (by decide)))))))
    (fg_nx rfl (b_from0 (b_nx (by decide) (t17 a10 b10 c10 d0 d1 d2 d3 h_d0)
    (b_nx (by decide) (t18 a10 b10 c10 d0 d1 d2 d3 h_d2)
    (b_nx (by decide) (t19 a10 b10 c10 d0 d1 d2 d3 h_d1)
    (b_nx (by decide) (t20 a10 b10 c10 d0 d1 d2 d3)
    (b_stop (by decide)))))))
    fg_nil)))
    (b_nx (by decide) (t21 a10 b10 c10 d0 d1 d2 d3)
    (b_nx (by decide) (t22 a10 b10 c10 d0 d1 d2 d3)
    (b_nx (by decide) (for_c (t23 a10 b10 c10 d0 d1 d2 d3) (fg_nx rfl (b_from0 (b_nx (by decide) (t24 a10 b10 c10 d0 d1 d2 d3 h_d0)
    (b_nx (by decide) (t25 a10 b10 c10 d0 d1 d2 d3 h_d2 h_d3)
    (b_nx (by decide) (t26 a10 b10 c10 d0 d1 d2 d3 h_d1)
    (b_nx (by decide) (t27 a10 b10 c10 d0 d1 d2 d3)
    (b_stop (by decide)))))))
    (fg_nx rfl (b_from0 (b_nx (by decide) (t28 a10 b10 c10 d0 d1 d2 d3 h_d0)
    (b_nx (by decide) (t29 a10 b10 c10 d0 d1 d2 d3 h_d2 h_d3)
    (b_nx (by decide) (t30 a10 b10 c10 d0 d1 d2 d3 h_d1)
    (b_nx (by decide) (t31 a10 b10 c10 d0 d1 d2 d3)
    (b_stop (by decide)))))))
    fg_nil)))
    (b_nx (by decide) (t32 a10 b10 c10 d0 d1 d2 d3)
    (b_nx (by decide) (t33 a10 b10 c10 d0 d1 d2 d3)
    (b_nx (by decide) (for_c (t34 a10 b10 c10 d0 d1 d2 d3) (fg_nx rfl (b_from0 (b_nx (by decide) (t35 a10 b10 c10 d0 d1 d2 d3 h_d0)
    (b_nx (by decide) (t36 a10 b10 c10 d0 d1 d2 d3 h_d2)
    (b_nx (by decide) (t37 a10 b10 c10 d0 d1 d2 d3)
    (b_stop (by decide))))))
    (fg_nx rfl (b_from0 (b_nx (by decide) (t38 a10 b10 c10 d0 d1 d2 d3 h_d0)
    (b_nx (by decide) (t39 a10 b10 c10 d0 d1 d2 d3 h_d2)
    (b_nx (by decide) (t40 a10 b10 c10 d0 d1 d2 d3)
    (b_stop (by decide))))))
    (fg_nx rfl (b_from0 (b_nx (by decide) (t41 a10 b10 c10 d0 d1 d2 d3 h_d0)
    (b_nx (by decide) (t42 a10 b10 c10 d0 d1 d2 d3 h_d2)
    (b_nx (by decide) (t43 a10 b10 c10 d0 d1 d2 d3)
    (b_stop (by decide))))))
    fg_nil))))
    (b_nx (by decide) (t44 a10 b10 c10 d0 d1 d2 d3)
    (b_ret (by decide) (ret_call (t45 a10 b10 c10 d0 d1 d2 d3) e_a85)))))))))))))))))
  refine (run_at (k := 38) at_law_right rfl).trans ((congrArg (endOf 1) (show evB (R 38) gcons F_law_right.body (startD F_law_right.sl [.ref 0]) [[.int a, .int b, .int c]] = _ from body)).trans ?_)
  kernel_rfl
theorem s_right (m : Nat) (a b c : Int) (c0 : 0 ≤ c) (c1 : c + ((m + 5 : Nat) : Int) ≤ 2 ^ 100) : ∃ a9 b9 c9 : Int, R 39 74 [.ref 0] [[.int a, .int b, .int c]] = .ok (.bl true) [[.int a9, .int b9, .int c9]] ∧ 0 ≤ c9 ∧ c9 + (m : Int) ≤ 2 ^ 100 := r_86 m a b c c0 c1
abbrev nPick : Nat := 5
end LW
end
section
set_option Elab.async false
set_option autoImplicit false
set_option linter.all false
set_option maxRecDepth 100000
set_option maxHeartbeats 2000000
set_option exponentiation.threshold 200
namespace LW
open DL
abbrev lawIn : List St := [.ite (.not (.val (.call 74 [(.slot 2)]))) [.ret (.con (.bl false))] []]
abbrev lawOut : List St := [.asg (.nm 2) (.call 0 [(.slot 0), (.slot 1)]), .for_ (.nm 3) (.rng1 (.con (.int 5))) lawIn]
theorem s_spot (ns : List Int) (spot : Nat) (hs : spot < 63) (u2 u3 : Option D) : ∃ (v3 : Option D) (S' : Store), evB (R 39) gcons lawOut [some (.scr ns), some (.int spot), u2, u3] [] = .nx [some (.scr ns), some (.int spot), some (.ref 0), v3] S' := by
  obtain ⟨a, b, ed⟩ := s_dice 38 ns spot [] hs
  have ed' : R 39 0 [.scr ns, .int spot] [] = .ok (.ref 0) [[.int a, .int b, .int 0]] := ed
  obtain ⟨σ4, S4, e4, _, v3, rfl⟩ := for_ex (tg := .nm 3) (body := evB (R 39) gcons lawIn)
    (fun m τ T => (∃ a b c : Int, T = [[.int a, .int b, .int c]] ∧ 0 ≤ c ∧ c + ((nPick * m : Nat) : Int) ≤ 2 ^ 100) ∧ ∃ v3, τ = [some (.scr ns), some (.int spot), some (.ref 0), v3]) 0 ((List.range 5).map fun i : Nat => D.int i)
    [some (.scr ns), some (.int spot), some (.ref 0), u3] [[.int a, .int b, .int 0]] (fun d hd m τ T ⟨⟨a, b, c, eT, c0, c1⟩, v3, et⟩ => by
      subst et
      subst eT
      obtain ⟨a9, b9, c9, e, k0, k1⟩ := s_right (nPick * m) a b c c0 (by rw [Nat.mul_succ] at c1; exact c1)
      refine ⟨[some (.scr ns), some (.int spot), some (.ref 0), some d], [some (.scr ns), some (.int spot), some (.ref 0), some d], _, rfl, ?_, ⟨a9, b9, c9, rfl, k0, k1⟩, _, rfl⟩
      simp [e, truth])
    ⟨⟨a, b, 0, rfl, by omega, by decide⟩, _, rfl⟩
  refine ⟨v3, S4, ?_⟩
  have r6 : rng2 (.int 0) (.int 5) [[.int a, .int b, .int 0]] = .ok ((List.range 5).map fun i : Nat => D.int i) [[.int a, .int b, .int 0]] := rng_nat 5 _ (by decide)
  rw [evB]
  simp only [x_asg, x_call, x_es1, x_es4, x_es0, x_slot, x_con, x_bind, x_stm, ed', asgG, x_then, List.getElem?_cons_zero, List.getElem?_cons_succ, List.set]
  rw [evB]
  have ei : ∀ σ, evI (R 39) gcons (.rng1 (.con (.int 5))) σ [[.int a, .int b, .int 0]] = .ok ((List.range 5).map fun i : Nat => D.int i) [[.int a, .int b, .int 0]] := by
    intro σ
    simp [r6]
    try rfl
  simp only [x_for, ei, x_stm, asgG, asg, List.set, e4, x_then]
  rw [evB]
theorem s_law (ns : List Int) (hn : ns.length ≤ 63) : ∃ S, R 40 75 [.scr ns] [] = .ok (.bl true) S := by
  have l1 : ∀ S, lenD (.scr ns) S = .ok (.int ns.length) S := fun _ => rfl
  have hm : minD (.int 5) (.int ns.length) [] = .ok (.int (if (ns.length : Int) < 5 then (ns.length : Int) else 5)) [] := rfl
  obtain ⟨N, hN, hN5⟩ : ∃ N : Nat, maxD (.int 1) (.int (if (ns.length : Int) < 5 then (ns.length : Int) else 5)) [] = .ok (.int N) [] ∧ N ≤ 5 := by
    refine ⟨max 1 (min 5 ns.length), ?_, by omega⟩
    show Out.ok (D.int _) _ = _
    congr 2
    split <;> split <;> omega
  obtain ⟨σ', e, v1, v2, v3, rfl⟩ := forT_ex (tg := .nm 1) (fg := [2, 3]) (body := evB (R 39) gcons lawOut)
    (fun σ => ∃ v1 v2 v3, σ = [some (.scr ns), v1, v2, v3]) ((List.range N).map fun i : Nat => D.int i) [some (.scr ns), none, none, none] (fun d hd σ ⟨v1, v2, v3, es⟩ => by
      simp only [List.mem_map, List.mem_range] at hd
      obtain ⟨spot, hspot, rfl⟩ := hd
      subst es
      obtain ⟨w3, S4, e⟩ := s_spot ns spot (by omega) v2 v3
      exact ⟨_, _, S4, rfl, e, ⟨_, _, _, rfl⟩, rfl⟩) ⟨_, _, _, rfl⟩
  have r4 : rng2 (.int 0) (.int N) [] = .ok ((List.range N).map fun i : Nat => D.int i) [] := rng_nat N [] (by omega)
  have hb : evI (R 39) gcons (.rng1 (.bi .max [(.con (.int 1)), (.bi .min [(.con (.int 5)), (.bi .len [(.slot 0)])])])) [some (.scr ns), none, none, none] [] = .ok ((List.range N).map fun i : Nat => D.int i) [] := by
    simp [bi, on1, on2, l1, hm, hN, r4]
  refine ⟨[], ?_⟩
  rw [R, run_at at_law rfl]
  rw [F_law]
  simp only [startD]
  rw [evB]
  have e0 : (List.map some [D.scr ns] ++ List.replicate (4 - [D.scr ns].length) none : Env) = [some (.scr ns), none, none, none] := rfl
  rw [e0, x_forT, hb, x_stm]
  have e : forTGo (.nm 1) (evB (R 39) gcons lawOut) ([] : Store).length [2, 3] ((List.range N).map fun i : Nat => D.int i) [some (.scr ns), none, none, none] [] = .nx [some (.scr ns), v1, v2, v3] [] := e
  rw [e, x_then]
  simp
  try rfl
theorem pure_law : ∀ ns : List Int, ns.length ≤ 63 → ∃ S, DL.run fns gcons 40 75 [.scr ns] [] = .ok (.bl true) S := fun ns hn => s_law ns hn
end LW
end
section

end
section
set_option Elab.async false
set_option autoImplicit false
set_option linter.all false
set_option maxRecDepth 100000
set_option maxHeartbeats 0
open PySem PySem.W PySem.Calls PyProof.Rows
theorem PySem.Challenge.cw_meanclouds_k26_errors_of_rooms_holds : PySem.Challenge.rw_meanclouds_k26_errors_of_rooms.Holds := by
  w_on; o_law
  refine HandSHeadRun.head_any (r := LW.RW) (q := LW.qv) (H := LW.hk) (ob := LW.ob) (M := 8000) (loose := LW.loose) (d := HandSHeadRun.topDef LW.RW.prog 100) (kwd := []) LW.ob_eq
    (by kernel_rfl) (fun s => by kernel_rfl) LW.run (by kernel_rfl) (by kernel_rfl) (by kernel_rfl) (by rfl) (by first | assumption | decide +kernel) (by decide +kernel) ⟨rfl, rfl, rfl, rfl, rfl, by decide +kernel⟩ ?hw ?hc
  case hw => w_witness2
  case hc =>
    exact DL.law_end (l := PySem.Challenge.rw_meanclouds_k26_errors_of_rooms) (n := 63) (k := 40) (g := 75) (x := "script") (r := LW.R_law) (L := LW.lawp) rfl (by decide) (by kernel_rfl) ⟨rfl, by decide, by decide⟩ (by kernel_rfl) LW.text_ok rfl rfl (by rw [LW.rows_fns]; exact LW.pure_law)
end
