import PyProof.Rows.All
import Wide.All
import OpenK.AllK
import Wide.FinOn
import HandS.ForMost
import HandS.Wide
import HandS.Nested
import HandS.ExcOwn
import HandS.WordsExc
import HandS.EndTab
import HandS.Style
import HandS.Conv
import HandS.SortInts
import HandS.Deep
import HandS.IsInst
import HandS.SetFor
import HandS.More
import HandS.TryOnly
import HandS.Walk
import HandS.Zip
import HandS.Words
import HandS.Defaults
import HandS.HeadEnd
import HandS.HeadHook1
import HandS.HeadHook2
import HandS.EndBits
import HandS.Head0
import HandS.Head1
import HandS.Head2
import KE.KStateDown
import PySem.Challenge.RW_treewells_k03_beyond_a_road
set_option Elab.async false
set_option autoImplicit false
set_option linter.all false
set_option maxRecDepth 100000
set_option maxHeartbeats 1000000
/-! ## data, the language, what it reckons -/
namespace TW
open PySem
/-- Python's data -/
inductive D where
  | non | bl (b : Bool) | int (i : Int) | str (s : Str)
  | lst (xs : List D) | tup (xs : List D)
  | dic (ks : List (Int × D)) | dct (ks : List ((Int × Int) × D))
  | scr (ns : List Int) | any
  deriving Inhabited
def D.isSc : D → Bool
  | .non | .bl _ | .int _ | .str _ => true
  | _ => false
def D.isNon : D → Bool
  | .non => true
  | _ => false
inductive Res (α : Type) where
  | ok (a : α) | exc (c : Nat) | bad
def lim : Nat := 100000
def bit (b : Bool) : Int := if b then 1 else 0
mutual
def D.beq : D → D → Bool
  | .non, .non => true
  | .bl a, .bl b => a == b
  | .bl a, .int j => bit a == j
  | .int i, .bl b => i == bit b
  | .int i, .int j => i == j
  | .str x, .str y => x == y
  | .lst xs, .lst ys => D.beqs xs ys
  | .tup xs, .tup ys => D.beqs xs ys
  | _, _ => false
def D.beqs : List D → List D → Bool
  | [], [] => true
  | x :: xs, y :: ys => D.beq x y && D.beqs xs ys
  | _, _ => false
end
mutual
/-- what == takes: scalars, lists, tuples, no deeper than n -/
def D.eqable : Nat → D → Bool
  | _, .non | _, .bl _ | _, .int _ => true
  | _, .str x => x.cps.all fun c => decide (c < 0x110000)
  | n + 1, .lst xs => D.eqables n xs
  | n + 1, .tup xs => D.eqables n xs
  | _, _ => false
def D.eqables : Nat → List D → Bool
  | _, [] => true
  | n, x :: xs => D.eqable n x && D.eqables n xs
end
def ints? : List D → Option (List Int)
  | [] => some []
  | .int i :: r => (ints? r).map (i :: ·)
  | _ :: _ => none
def bools? : List D → Option (List Bool)
  | [] => some []
  | .bl i :: r => (bools? r).map (i :: ·)
  | _ :: _ => none
def strs? : List D → Option (List Str)
  | [] => some []
  | .str i :: r => (strs? r).map (i :: ·)
  | _ :: _ => none
def ins (x : Int) : List Int → List Int
  | [] => [x]
  | y :: r => if x ≤ y then x :: y :: r else y :: ins x r
def isort : List Int → List Int
  | [] => []
  | x :: r => ins x (isort r)
def dedup : List Int → List Int
  | [] => []
  | x :: r => if r.contains x then dedup r else x :: dedup r
def maxI : Int → List Int → Int
  | m, [] => m
  | m, x :: r => maxI (if m < x then x else m) r
def minI : Int → List Int → Int
  | m, [] => m
  | m, x :: r => minI (if x < m then x else m) r
/-- the place an index names -/
def ixAt (n : Nat) (i : Int) : Option Nat := if 0 ≤ i then (if i < n then some i.toNat else none) else if -(n : Int) ≤ i then some (i + n).toNat else none
def nth {α : Type} (xs : List α) (i : Int) : Option α := (ixAt xs.length i).bind fun j => xs[j]?
/-- a slice's end -/
def clip (n d : Nat) : Option Int → Nat
  | none => d
  | some i => if i < 0 then (i + n).toNat else min i.toNat n
def cut {α : Type} (xs : List α) (lo hi : Option Int) : List α := (xs.drop (clip xs.length 0 lo)).take (clip xs.length xs.length hi - clip xs.length 0 lo)
def rep {α : Type} (xs : List α) (n : Nat) : List α := (List.replicate n xs).flatten
def look {κ : Type} [DecidableEq κ] : List (κ × D) → κ → Option D
  | [], _ => none
  | (j, d) :: r, i => if j = i then some d else look r i
def put {κ : Type} [DecidableEq κ] (ks : List (κ × D)) (k : κ) (d : D) : List (κ × D) :=
  if (ks.any fun e => decide (e.1 = k)) = true then ks.map (fun e => if e.1 = k then (e.1, d) else e) else ks ++ [(k, d)]
def rng (a b c : Int) : List Int := if 0 < c then (List.range ((b - a + c - 1) / c).toNat).map fun (k : Nat) => a + (k : Int) * c else []
def big : Int := 4611686018427387904
def mulOk (i j : Int) : Bool := decide (i.natAbs.log2 + j.natAbs.log2 < 50000000)
inductive Op1 where
  | len | neg | toInt | abs | sumL | maxL | minL | sortL | sortSet | lenSet | lenSetB | allL | anyL | listL | listK | sortK | revL | isN | notN | sc | scl | opq | rngL
  | isInt | isBool | isList | isStr
  deriving DecidableEq
def Op1.onK : Op1 → Bool
  | .listK | .sortK => true
  | _ => false
inductive Op2 where
  | addI | subI | mulI | fdiv | mod | pow | cat | rep | addS
  | lt | le | gt | ge | eqI | neI | eqD | neD | inL | ninL | inD | ninD | inK | ninK | inT | ninT
  | max2 | min2 | maxD | minD | subL | subT | subK | subP | subS | slcLo | slcHi | idx | cnt | cntB
  deriving DecidableEq
def okI (i : Int) : Res D := .ok (.int i)
def okB (b : Bool) : Res D := .ok (.bl b)
def okA : D → Bool → Res D
  | .any, _ => .bad
  | _, b => okB b
def Op1.run : Op1 → D → Res D
  | .len, .lst ds => okI ds.length
  | .len, .tup ds => okI ds.length
  | .len, .dic ks => okI ks.length
  | .len, .scr ns => okI ns.length
  | .len, .str s => if s.length ≤ lim then okI s.length else .bad
  | .neg, .int i => okI (-i)
  | .toInt, .bl b => okI (bit b)
  | .toInt, .int i => okI i
  | .abs, .int i => okI (if i < 0 then -i else i)
  | .sumL, .lst ds => match ints? ds with | some ns => okI ns.sum | none => .bad
  | .maxL, .lst ds => match ints? ds with | some (m :: r) => okI (maxI m r) | _ => .bad
  | .minL, .lst ds => match ints? ds with | some (m :: r) => okI (minI m r) | _ => .bad
  | .sortL, .lst ds => match ints? ds with | some ns => .ok (.lst ((isort ns).map .int)) | none => .bad
  | .sortSet, .lst ds => match ints? ds with | some ns => if ns.length < lim then .ok (.lst ((isort (dedup ns)).map .int)) else .bad | none => .bad
  | .lenSet, .lst ds => match ints? ds with | some ns => if ns.length < 4000 then okI (dedup ns).length else .bad | none => .bad
  | .lenSetB, .lst ds => match bools? ds with | some ns => okI (bit (ns.contains true) + bit (ns.contains false)) | none => .bad
  | .allL, .lst ds => match bools? ds with | some bs => okB (bs.all id) | none => .bad
  | .anyL, .lst ds => match bools? ds with | some bs => okB (bs.any id) | none => .bad
  | .listL, .lst ds => .ok (.lst ds)
  | .listL, .tup ds => .ok (.lst ds)
  | .listK, .dic ks => .ok (.lst (ks.map fun k => .int k.1))
  | .sortK, .dic ks => if ks.length < 64 then .ok (.lst ((isort (ks.map (·.1))).map .int)) else .bad
  | .revL, .lst ds => .ok (.lst ds.reverse)
  | .isN, d => okA d d.isNon
  | .notN, d => okA d (!d.isNon)
  | .sc, d => if d.isSc then .ok d else .bad
  | .scl, .lst ds => if ds.all D.isSc then .ok (.lst ds) else .bad
  | .opq, _ => .ok .any
  | .rngL, .int n => if n ≤ lim ∧ -big ≤ n then .ok (.lst ((rng 0 n 1).map .int)) else .bad
  | .isInt, d => okA d (match d with | .int _ => true | .bl _ => true | _ => false)
  | .isBool, d => okA d (match d with | .bl _ => true | _ => false)
  | .isList, d => okA d (match d with | .lst _ => true | .scr _ => true | _ => false)
  | .isStr, d => okA d (match d with | .str _ => true | _ => false)
  | _, _ => .bad
/-- scalars of one kind -/
def eqS : D → D → Option Bool
  | .int i, .int j => some (i == j)
  | .bl i, .bl j => some (i == j)
  | .str i, .str j => some (i == j)
  | .non, .non => some true
  | .non, .int _ | .int _, .non | .non, .bl _ | .bl _, .non | .non, .str _ | .str _, .non => some false
  | .int _, .str _ | .str _, .int _ | .bl _, .str _ | .str _, .bl _ => some false
  | _, _ => none
/-- among flat things -/
def inF (x : D) : List D → Option Bool
  | [] => if x.isSc then some false else none
  | y :: r => match eqS y x, inF x r with
    | some a, some b => some (a || b)
    | _, _ => none
def idxF (x : D) : List D → Option Nat
  | [] => none
  | y :: r => match eqS y x with
    | some true => some 0
    | some false => (idxF x r).map (· + 1)
    | none => none
def Op2.run : Op2 → D → D → Res D
  | .addI, .int i, .int j => okI (i + j)
  | .subI, .int i, .int j => okI (i - j)
  | .mulI, .int i, .int j => if mulOk i j then okI (i * j) else .bad
  | .fdiv, .int i, .int j => if 0 < j ∧ j.natAbs.log2 < 9000 then okI (i / j) else .bad
  | .mod, .int i, .int j => if 0 < j then okI (i % j) else .bad
  | .pow, .int i, .int j => if 0 ≤ j ∧ j ≤ 1000 ∧ i.natAbs < 1000000 then okI (i ^ j.toNat) else .bad
  | .cat, .lst a, .lst b => if a.length + b.length ≤ lim then .ok (.lst (a ++ b)) else .bad
  | .rep, .lst a, .int k => if k ≤ lim ∧ -1000 ≤ k ∧ a.length * k.toNat ≤ lim then .ok (.lst (TW.rep a k.toNat)) else .bad
  | .addS, .str a, .str b => if a.length + b.length ≤ lim then .ok (.str (a ++ b)) else .bad
  | .lt, .int i, .int j => okB (decide (i < j))
  | .le, .int i, .int j => okB (decide (i ≤ j))
  | .gt, .int i, .int j => okB (decide (j < i))
  | .ge, .int i, .int j => okB (decide (j ≤ i))
  | .eqI, a, b => match eqS a b with | some c => okB c | none => .bad
  | .neI, a, b => match eqS a b with | some c => okB (!c) | none => .bad
  | .eqD, a, b => if a.eqable 20 && b.eqable 20 then okB (D.beq a b) else .bad
  | .neD, a, b => if a.eqable 20 && b.eqable 20 then okB (!D.beq a b) else .bad
  | .inL, x, .lst ds => match inF x ds with | some b => okB b | none => .bad
  | .ninL, x, .lst ds => match inF x ds with | some b => okB (!b) | none => .bad
  | .inT, x, .tup ds => match inF x ds with | some b => okB b | none => .bad
  | .ninT, x, .tup ds => match inF x ds with | some b => okB (!b) | none => .bad
  | .inD, x, .lst ds => if x.eqable 20 && D.eqables 20 ds then okB (ds.any fun y => D.beq y x) else .bad
  | .ninD, x, .lst ds => if x.eqable 20 && D.eqables 20 ds then okB (!ds.any fun y => D.beq y x) else .bad
  | .inK, .int i, .dic ks => okB (look ks i).isSome
  | .ninK, .int i, .dic ks => okB !(look ks i).isSome
  | .inK, .tup [.int i, .int j], .dct ks => okB (look ks (i, j)).isSome
  | .max2, .int i, .int j => okI (if j > i then j else i)
  | .min2, .int i, .int j => okI (if j < i then j else i)
  | .maxD, .lst ds, .int d => match ints? ds with | some (m :: r) => okI (maxI m r) | some [] => okI d | none => .bad
  | .minD, .lst ds, .int d => match ints? ds with | some (m :: r) => okI (minI m r) | some [] => okI d | none => .bad
  | .subL, .lst ds, .int i => match nth ds i with | some d => .ok d | none => .bad
  | .subL, .scr ns, .int i => match nth ns i with | some d => okI d | none => .bad
  | .subT, .tup ds, .int i => match nth ds i with | some d => .ok d | none => .bad
  | .subK, .dic ks, .int i => match look ks i with | some d => .ok d | none => .bad
  | .subP, .dct ks, .tup [.int i, .int j] => match look ks (i, j) with | some d => .ok d | none => .bad
  | .subS, .str s, .int i => if s.length ≤ lim then match nth s.cps.toList i with | some c => .ok (.str ⟨#[c]⟩) | none => .bad else .bad
  | .slcLo, .lst ds, .int i => .ok (.lst (cut ds (some i) none))
  | .slcHi, .lst ds, .int i => .ok (.lst (cut ds none (some i)))
  | .slcLo, .scr ds, .int i => .ok (.lst ((cut ds (some i) none).map .int))
  | .slcHi, .scr ds, .int i => .ok (.lst ((cut ds none (some i)).map .int))
  | .idx, .lst ds, x => if x.isSc && ds.all D.isSc then match idxF x ds with | some n => okI n | none => .bad else .bad
  | .cnt, .lst ds, .int x => match ints? ds with | some ns => okI (ns.count x) | none => .bad
  | _, _, _ => .bad
/-- xs[a:b] -/
def slc3 : D → D → D → Res D
  | .lst ds, .int i, .int j => .ok (.lst (cut ds (some i) (some j)))
  | .scr ds, .int i, .int j => .ok (.lst ((cut ds (some i) (some j)).map .int))
  | _, _, _ => .bad
/-- targets -/
inductive Tg where
  | nm (i : Nat) | tup (is : List Nat) | lsp (is : List Nat)
/-- what is walked -/
inductive Sk where
  | lst | r1 | r2 | r3 | dic (i : Nat)
mutual
inductive IE where
  | var (i : Nat) | mv (i : Nat) | cst (d : D)
  | op1 (o : Op1) (a : IE) | op2 (o : Op2) (a b : IE) | mth (o : Op2) (a b : IE) | slc (a lo hi : IE)
  | not (a : IE) | and (a b : IE) | or (a b : IE)
  | lst (es : IEs) | tup (es : IEs) | dic1 (k v : IE) | dic0 | dct0
  | call (f : Nat) (es : IEs) | callM (f i : Nat) (es : IEs)
  | lc (k : Sk) (a b c : IE) (t : Tg) (test : IE) (elt : IE)
  | pop (i : Nat) | popAt (i : Nat) (e : IE)
  | key (o : Nat) (a : IE) (js : List Nat) (body : IE) | keyP (a : IE) (js : List Nat) (b1 b2 : IE)
inductive IEs where
  | nil | cons (e : IE) (es : IEs)
end
mutual
inductive IS where
  | asg (t : Tg) (e : IE) | aug (i : Nat) (o : Op2) (e : IE) | exp (e : IE)
  | app (i : Nat) (e : IE) | ins (i : Nat) (a e : IE) | clr (i : Nat)
  | seti (i : Nat) (a e : IE) | set2 (i : Nat) (a b e : IE) | augi (i : Nat) (a : IE) (o : Op2) (e : IE) | aug2 (i : Nat) (a b : IE) (o : Op2) (e : IE)
  | setk (i : Nat) (a e : IE) | setp (i : Nat) (a e : IE)
  | ifs (c : IE) (a b : ISs) | whl (c : IE) (b : ISs)
  | for (k : Sk) (a b c : IE) (t : Tg) (body : ISs)
  | ret (e : IE) | retN | rai (c : Nat)
  | frz (i : Nat)
  | forC (a : IE) (t : Tg) (c : IE) (d : D)
inductive ISs where
  | nil | cons (s : IS) (r : ISs)
end
abbrev Env := List (Option D)
def gt : Env → Nat → Option D
  | [], _ => none
  | d :: _, 0 => d
  | _ :: r, i + 1 => gt r i
def st : Env → Nat → Option D → Env
  | [], _, _ => []
  | _ :: r, 0, d => d :: r
  | x :: r, i + 1, d => x :: st r i d
def sts : Env → List Nat → List D → Option Env
  | ρ, [], [] => some ρ
  | ρ, i :: is, d :: ds => sts (st ρ i (some d)) is ds
  | _, _, _ => none
def Tg.put : Tg → D → Env → Option Env
  | .nm i, d, ρ => some (st ρ i (some d))
  | .tup is, .tup ds, ρ => sts ρ is ds
  | .lsp is, .lst ds, ρ => sts ρ is ds
  | _, _, _ => none
def Tg.names : Tg → List Nat
  | .nm i => [i] | .tup is => is | .lsp is => is
/-- how a def's data stands: a scalar; shared; its top alone its owner's; all of it its owner's; the two borrowed -/
inductive Kind where
  | im | sh | top | deep | bt | bo
  deriving DecidableEq
/-- what a def reckons: its answer, its parameters' data behind it -/
structure FnSem where
  np : Nat
  pk : Nat → Kind
  rk : Kind
  run : List D → Res (D × Env)
instance : Inhabited ISs := ⟨.nil⟩
structure IDef where
  np : Nat
  ns : Nat
  ks : List Kind
  rk : Kind
  body : ISs
instance : Inhabited IDef := ⟨⟨0, 0, [], .sh, .nil⟩⟩
def kAt (l : List Kind) (i : Nat) : Kind := l.getD i .sh
def ownK : Kind → Bool
  | .top | .deep => true
  | _ => false
/-- its first parameter is written -/
def IDef.mut (d : IDef) : Bool := decide (0 < d.np) && ownK (kAt d.ks 0)
def wipeE (ρ : Env) : List Nat → Env
  | [] => ρ
  | i :: is => st (wipeE ρ is) i none
/-- a comprehension's turns -/
def lcGo (put : D → Env → Option Env) (test elt : Env → Res (D × Env)) : List D → Env → Res (List D)
  | [], _ => .ok []
  | d :: ds, ρ => match put d ρ with
    | none => .bad
    | some ρ1 => match test ρ1 with
      | .ok (.bl true, ρ2) => match elt ρ2 with
        | .ok (x, _) => match lcGo put test elt ds ρ with
          | .ok r => .ok (x :: r)
          | _ => .bad
        | _ => .bad
      | .ok (.bl false, _) => lcGo put test elt ds ρ
      | _ => .bad
def Sk.pure : Sk → Bool
  | .dic _ => false
  | _ => true
/-- a dict that was walked is not looked at again -/
def Sk.out : Sk → Env → Env
  | .dic i, ρ => st ρ i none
  | _, ρ => ρ
def srcOf (k : Sk) (ρ : Env) : D → D → D → Option (List D)
  | a, b, c => match k, a, b, c with
    | .lst, .lst ds, _, _ => some ds
    | .lst, .scr ns, _, _ => some (ns.map .int)
    | .r1, .int n, _, _ => if n ≤ lim ∧ -big ≤ n then some ((rng 0 n 1).map .int) else none
    | .r2, .int m, .int n, _ => if n ≤ lim ∧ -big ≤ n ∧ -1000 ≤ m ∧ m ≤ lim then some ((rng m n 1).map .int) else none
    | .dic i, _, _, _ => match gt ρ i with
      | some (.dic ks) => some (ks.map fun k => .int k.1)
      | _ => none
    | _, _, _, _ => none
/-- what is walked, the state behind it -/
def srcRes (k : Sk) (ra : Res (D × Env)) (fb fc : Env → Res (D × Env)) : Res (List D × Env) := match ra with
  | .ok (x, ρ1) => match fb ρ1 with
    | .ok (y, ρ2) => match fc ρ2 with
      | .ok (z, ρ3) => match srcOf k ρ3 x y z with
        | some ds => .ok (ds, ρ3)
        | none => .bad
      | .exc c => .exc c | .bad => .bad
    | .exc c => .exc c | .bad => .bad
  | .exc c => .exc c | .bad => .bad
/-- keys of items; the place of the best -/
def keysGo (f : D → Res D) : List D → Res (List D)
  | [] => .ok []
  | d :: r => match f d with
    | .ok k => match keysGo f r with
      | .ok ks => .ok (k :: ks)
      | _ => .bad
    | _ => .bad
/-- the first item of the greatest (least) key; the items sorted by their keys, equal ones in their order -/
def bestMax : D → Int → List (D × Int) → D
  | d, _, [] => d
  | d, k, (e, j) :: r => if j > k then bestMax e j r else bestMax d k r
def bestMin : D → Int → List (D × Int) → D
  | d, _, [] => d
  | d, k, (e, j) :: r => if j < k then bestMin e j r else bestMin d k r
def bestMinP : D → Int × Int → List (D × (Int × Int)) → D
  | d, _, [] => d
  | d, k, (e, j) :: r => if j.1 < k.1 ∨ (j.1 = k.1 ∧ j.2 < k.2) then bestMinP e j r else bestMinP d k r
def insK (d : D) (k : Int) : List (D × Int) → List (D × Int)
  | [] => [(d, k)]
  | (e, j) :: r => if k ≤ j then (d, k) :: (e, j) :: r else (e, j) :: insK d k r
def sortK : List (D × Int) → List (D × Int)
  | [] => []
  | (d, k) :: r => insK d k (sortK r)
def keyRun (o : Nat) (ds : List D) (ks : List Int) : Res D := match o, ds.zip ks with
  | 0, (d, k) :: r => .ok (bestMax d k r)
  | 1, (d, k) :: r => .ok (bestMin d k r)
  | 2, r => .ok (.lst ((sortK r).map (·.1)))
  | _, _ => .bad
def items? : D → Option (List D)
  | .lst ds => some ds
  | .dic ks => some (ks.map fun k => .int k.1)
  | _ => none
mutual
def evE (Φ : Nat → FnSem) : IE → Env → Res (D × Env)
  | .var i, ρ => match gt ρ i with | some d => .ok (d, ρ) | none => .bad
  | .mv i, ρ => match gt ρ i with | some d => .ok (d, st ρ i none) | none => .bad
  | .cst d, ρ => .ok (d, ρ)
  | .op1 o a, ρ => match evE Φ a ρ with
    | .ok (d, ρ1) => match o.run d with | .ok x => .ok (x, ρ1) | .exc c => .exc c | .bad => .bad
    | .exc c => .exc c | .bad => .bad
  | .op2 o a b, ρ => match evE Φ a ρ with
    | .ok (d, ρ1) => match evE Φ b ρ1 with
      | .ok (e, ρ2) => match o.run d e with | .ok x => .ok (x, ρ2) | .exc c => .exc c | .bad => .bad
      | .exc c => .exc c | .bad => .bad
    | .exc c => .exc c | .bad => .bad
  | .mth o a b, ρ => match evE Φ a ρ with
    | .ok (.lst d, ρ1) => match evE Φ b ρ1 with
      | .ok (e, ρ2) => match o.run (.lst d) e with | .ok x => .ok (x, ρ2) | .exc c => .exc c | .bad => .bad
      | .exc c => .exc c | .bad => .bad
    | .ok _ => .bad
    | .exc c => .exc c | .bad => .bad
  | .slc a b c, ρ => match evE Φ a ρ with
    | .ok (d, ρ1) => match evE Φ b ρ1 with
      | .ok (.int i, ρ2) => match evE Φ c ρ2 with
        | .ok (.int j, ρ3) => match slc3 d (.int i) (.int j) with | .ok x => .ok (x, ρ3) | .exc c => .exc c | .bad => .bad
        | .ok _ => .bad
        | .exc c => .exc c | .bad => .bad
      | .ok _ => .bad
      | .exc c => .exc c | .bad => .bad
    | .exc c => .exc c | .bad => .bad
  | .not a, ρ => match evE Φ a ρ with
    | .ok (.bl b, ρ1) => .ok (.bl (!b), ρ1) | .ok _ => .bad
    | .exc c => .exc c | .bad => .bad
  | .and a b, ρ => match evE Φ a ρ with
    | .ok (.bl true, ρ1) => evE Φ b ρ1
    | .ok (.bl false, ρ1) => .ok (.bl false, ρ1)
    | .ok _ => .bad
    | .exc c => .exc c | .bad => .bad
  | .or a b, ρ => match evE Φ a ρ with
    | .ok (.bl false, ρ1) => evE Φ b ρ1
    | .ok (.bl true, ρ1) => .ok (.bl true, ρ1)
    | .ok _ => .bad
    | .exc c => .exc c | .bad => .bad
  | .lst es, ρ => match evEs Φ es ρ with | .ok (ds, ρ1) => .ok (.lst ds, ρ1) | .exc c => .exc c | .bad => .bad
  | .tup es, ρ => match evEs Φ es ρ with | .ok (ds, ρ1) => .ok (.tup ds, ρ1) | .exc c => .exc c | .bad => .bad
  | .dic1 k v, ρ => match evE Φ k ρ with
    | .ok (.int i, ρ1) => match evE Φ v ρ1 with | .ok (d, ρ2) => .ok (.dic [(i, d)], ρ2) | .exc c => .exc c | .bad => .bad
    | .ok _ => .bad | .exc c => .exc c | .bad => .bad
  | .dic0, ρ => .ok (.dic [], ρ)
  | .dct0, ρ => .ok (.dct [], ρ)
  | .call f es, ρ => match evEs Φ es ρ with
    | .ok (ds, ρ1) => match (Φ f).run ds with
      | .ok (d, _) => .ok (d, ρ1)
      | .exc c => .exc c
      | .bad => .bad
    | .exc c => .exc c | .bad => .bad
  | .callM f i es, ρ => match gt ρ i with
   | some _ => match evEs Φ es ρ with
    | .ok (ds, ρ1) => match gt ρ1 i with
      | some d0 => match (Φ f).run (d0 :: ds) with
        | .ok (d, ms) => .ok (d, st ρ1 i (gt ms 0))
        | _ => .bad
      | none => .bad
    | .exc c => .exc c | .bad => .bad
   | none => .bad
  | .lc k a b c t test elt, ρ => match srcRes k (evE Φ a ρ) (evE Φ b) (evE Φ c) with
    | .ok (ds, ρ3) => if ds.length ≤ lim then match lcGo t.put (evE Φ test) (evE Φ elt) ds (wipeE ρ3 t.names) with
      | .ok rs => .ok (.lst rs, k.out ρ3)
      | _ => .bad else .bad
    | .exc c => .exc c | .bad => .bad
  | .pop i, ρ => match gt ρ i with
    | some (.lst ds) => match ds.getLast? with | some d => .ok (d, st ρ i (some (.lst ds.dropLast))) | none => .bad
    | _ => .bad
  | .popAt i e, ρ => match gt ρ i with
   | some (.lst _) => match evE Φ e ρ with
    | .ok (.int k, ρ1) => if k ≤ 1000 ∧ -1000 ≤ k then match gt ρ1 i with
      | some (.lst ds) => match ixAt ds.length k with
        | some n => match ds[n]? with | some d => .ok (d, st ρ1 i (some (.lst (ds.eraseIdx n)))) | none => .bad
        | none => .bad
      | _ => .bad else .bad
    | .ok _ => .bad | .exc c => .exc c | .bad => .bad
   | _ => .bad
  | .key o a js body, ρ => match evE Φ a ρ with
    | .ok (x, ρ1) => match items? x with
      | some ds => match keysGo (fun d => match evE Φ body (some d :: js.map (gt ρ1)) with | .ok (k, _) => .ok k | _ => .bad) ds with
        | .ok ks => match ints? ks with
          | some ns => match keyRun o ds ns with | .ok r => .ok (r, ρ1) | _ => .bad
          | none => .bad
        | _ => .bad
      | none => .bad
    | .exc c => .exc c | .bad => .bad
  | .keyP a js b1 b2, ρ => .bad
def evEs (Φ : Nat → FnSem) : IEs → Env → Res (List D × Env)
  | .nil, ρ => .ok ([], ρ)
  | .cons e es, ρ => match evE Φ e ρ with
    | .ok (d, ρ1) => match evEs Φ es ρ1 with | .ok (ds, ρ2) => .ok (d :: ds, ρ2) | .exc c => .exc c | .bad => .bad
    | .exc c => .exc c | .bad => .bad
end
/-- how a statement ends -/
inductive Out where
  | nx (ρ : Env) | rt (d : D) (ρ : Env) | exc (c : Nat) | bad
def forGo (put : D → Env → Option Env) (body : Env → Out) : List D → Env → Out
  | [], ρ => .nx ρ
  | d :: ds, ρ => match put d ρ with
    | none => .bad
    | some ρ1 => match body ρ1 with
      | .nx ρ2 => forGo put body ds ρ2
      | o => o
def whlGo (c : Env → Res (D × Env)) (body : Env → Out) : Nat → Env → Out
  | 0, _ => .bad
  | n + 1, ρ => match c ρ with
    | .ok (.bl true, ρ1) => match body ρ1 with
      | .nx ρ2 => whlGo c body n ρ2
      | o => o
    | .ok (.bl false, ρ1) => .nx ρ1
    | .ok _ => .bad
    | .exc c => .exc c | .bad => .bad
def fuelW : Nat := 100000
/-- a look at a thing: ends where it is so -/
def chk (c : Env → Res (D × Env)) (d : D) : Env → Out := fun ρ => match c ρ with
  | .ok (.bl true, ρ1) => .rt d ρ1
  | .ok (.bl false, ρ1) => .nx ρ1
  | .ok _ => .bad
  | .exc c => .exc c | .bad => .bad
def setAt (ds : List D) (k : Int) (d : D) : Option (List D) := (ixAt ds.length k).map fun n => ds.set n d
mutual
def evS (Φ : Nat → FnSem) : IS → Env → Out
  | .asg t e, ρ => match evE Φ e ρ with
    | .ok (d, ρ1) => match t.put d ρ1 with | some ρ2 => .nx ρ2 | none => .bad
    | .exc c => .exc c | .bad => .bad
  | .aug i o e, ρ => match gt ρ i with
    | some x => match evE Φ e ρ with
      | .ok (y, ρ1) => match o.run x y with | .ok z => .nx (st ρ1 i (some z)) | .exc c => .exc c | .bad => .bad
      | .exc c => .exc c | .bad => .bad
    | none => .bad
  | .exp e, ρ => match evE Φ e ρ with | .ok (_, ρ1) => .nx ρ1 | .exc c => .exc c | .bad => .bad
  | .app i e, ρ => match gt ρ i with
   | some (.lst _) => match evE Φ e ρ with
    | .ok (d, ρ1) => match gt ρ1 i with
      | some (.lst ds) => if ds.length < lim then .nx (st ρ1 i (some (.lst (ds ++ [d])))) else .bad
      | _ => .bad
    | .exc c => .exc c | .bad => .bad
   | _ => .bad
  | .ins i a e, ρ => match gt ρ i with
   | some (.lst _) => match evE Φ a ρ with
    | .ok (.int k, ρ1) => match evE Φ e ρ1 with
      | .ok (d, ρ2) => match gt ρ2 i with
        | some (.lst ds) => if ds.length < lim ∧ 0 ≤ k ∧ k ≤ ds.length then .nx (st ρ2 i (some (.lst (ds.take k.toNat ++ d :: ds.drop k.toNat)))) else .bad
        | _ => .bad
      | .exc c => .exc c | .bad => .bad
    | .ok _ => .bad | .exc c => .exc c | .bad => .bad
   | _ => .bad
  | .clr i, ρ => match gt ρ i with | some (.lst _) => .nx (st ρ i (some (.lst []))) | _ => .bad
  | .seti i a e, ρ => match evE Φ e ρ with
    | .ok (d, ρ1) => match gt ρ1 i with
     | some _ => match evE Φ a ρ1 with
      | .ok (.int k, ρ2) => match gt ρ2 i with
        | some (.lst ds) => match setAt ds k d with | some r => .nx (st ρ2 i (some (.lst r))) | none => .bad
        | _ => .bad
      | .ok _ => .bad | .exc c => .exc c | .bad => .bad
     | none => .bad
    | .exc c => .exc c | .bad => .bad
  | .set2 i a b e, ρ => match evE Φ e ρ with
    | .ok (d, ρ1) => match gt ρ1 i with
     | some _ => match evE Φ a ρ1 with
      | .ok (.int k, ρ2) => match gt ρ2 i with
        | some (.lst ds) => match nth ds k with
          | some (.lst _) => match evE Φ b ρ2 with
            | .ok (.int l, ρ3) => match gt ρ3 i with
              | some (.lst ds) => match ixAt ds.length k with
                | some n => match ds[n]? with
                  | some (.lst es) => match ixAt es.length l with
                    | some m => .nx (st ρ3 i (some (.lst (ds.set n (.lst (es.set m d))))))
                    | none => .bad
                  | _ => .bad
                | none => .bad
              | _ => .bad
            | .ok _ => .bad | .exc c => .exc c | .bad => .bad
          | _ => .bad
        | _ => .bad
      | .ok _ => .bad | .exc c => .exc c | .bad => .bad
     | none => .bad
    | .exc c => .exc c | .bad => .bad
  | .augi i a o e, ρ => match gt ρ i with
   | some _ => match evE Φ a ρ with
    | .ok (.int k, ρ1) => match gt ρ1 i with
      | some (.lst ds) => match nth ds k with
        | some x => match evE Φ e ρ1 with
          | .ok (y, ρ2) => match o.run x y with
            | .ok z => match gt ρ2 i with
              | some (.lst ds) => match setAt ds k z with | some r => .nx (st ρ2 i (some (.lst r))) | none => .bad
              | _ => .bad
            | .exc c => .exc c | .bad => .bad
          | .exc c => .exc c | .bad => .bad
        | none => .bad
      | _ => .bad
    | .ok _ => .bad | .exc c => .exc c | .bad => .bad
   | none => .bad
  | .aug2 i a b o e, ρ => .bad
  | .setk i a e, ρ => match evE Φ e ρ with
    | .ok (d, ρ1) => match gt ρ1 i with
     | some _ => match evE Φ a ρ1 with
      | .ok (.int k, ρ2) => match gt ρ2 i with
        | some (.dic ks) => if ks.length < lim then .nx (st ρ2 i (some (.dic (put ks k d)))) else .bad
        | _ => .bad
      | .ok _ => .bad | .exc c => .exc c | .bad => .bad
     | none => .bad
    | .exc c => .exc c | .bad => .bad
  | .setp i a e, ρ => match evE Φ e ρ with
    | .ok (d, ρ1) => match gt ρ1 i with
     | some _ => match evE Φ a ρ1 with
      | .ok (.tup [.int j, .int k], ρ2) => match gt ρ2 i with
        | some (.dct ks) => if ks.length < lim then .nx (st ρ2 i (some (.dct (put ks (j, k) d)))) else .bad
        | _ => .bad
      | .ok _ => .bad | .exc c => .exc c | .bad => .bad
     | none => .bad
    | .exc c => .exc c | .bad => .bad
  | .ifs c a b, ρ => match evE Φ c ρ with
    | .ok (.bl true, ρ1) => evSs Φ a ρ1
    | .ok (.bl false, ρ1) => evSs Φ b ρ1
    | .ok _ => .bad
    | .exc c => .exc c | .bad => .bad
  | .whl c b, ρ => whlGo (evE Φ c) (evSs Φ b) fuelW ρ
  | .for k a b c t body, ρ => match srcRes k (evE Φ a ρ) (evE Φ b) (evE Φ c) with
    | .ok (ds, ρ3) => match forGo t.put (evSs Φ body) ds ρ3 with
      | .nx ρ4 => .nx (k.out ρ4)
      | .rt d ρ4 => if k.pure = true then .rt d ρ4 else .bad
      | o => o
    | .exc c => .exc c | .bad => .bad
  | .ret e, ρ => match evE Φ e ρ with | .ok (d, ρ1) => .rt d ρ1 | .exc c => .exc c | .bad => .bad
  | .retN, ρ => .rt .non ρ
  | .rai c, _ => .exc c
  | .frz _, ρ => .nx ρ
  | .forC a t c d, ρ => match srcRes .lst (evE Φ a ρ) (evE Φ (.cst .non)) (evE Φ (.cst .non)) with
    | .ok (ds, ρ3) => if ds.all D.isSc = true then forGo t.put (chk (evE Φ c) d) ds ρ3 else .bad
    | .exc c => .exc c | .bad => .bad
def evSs (Φ : Nat → FnSem) : ISs → Env → Out
  | .nil, ρ => .nx ρ
  | .cons s r, ρ => match evS Φ s ρ with
    | .nx ρ1 => evSs Φ r ρ1
    | o => o
end
def start (n : Nat) (ds : List D) : Env := ds.map some ++ List.replicate (n - ds.length) none
/-- a def's reckoning, from the defs that it calls -/
def semOf (Φ : Nat → FnSem) (d : IDef) : FnSem where
  np := d.np
  pk := kAt d.ks
  rk := d.rk
  run := fun ds => if ds.length = d.np then match evSs Φ d.body (start d.ns ds) with
    | .rt x ρ => .ok (x, if d.mut = true then [gt ρ 0] else [])
    | .nx ρ => .ok (.non, if d.mut = true then [gt ρ 0] else [])
    | .exc c => .exc c
    | .bad => .bad else .bad
def noSem : FnSem := ⟨0, fun _ => .sh, .sh, fun _ => .bad⟩
/-- the defs' reckonings, calls no deeper than n -/
def sems (defs : Nat → IDef) : Nat → Nat → FnSem
  | 0 => fun _ => noSem
  | n + 1 => fun f => semOf (sems defs n) (defs f)
/-! ### the static look -/
/-- a weaker kind -/
def Kind.le : Kind → Kind → Bool
  | .im, .im | .im, .sh | .im, .deep | .im, .top => true
  | .sh, .sh => true
  | .top, .top | .top, .sh => true
  | .deep, .deep | .deep, .top | .deep, .sh => true
  | .bt, .bt | .bo, .bo => true
  | _, _ => false
def Kind.borrowed : Kind → Bool
  | .bt | .bo => true
  | _ => false
/-- an item of such a thing -/
def Kind.kid : Kind → Kind
  | .bo => .bo
  | _ => .sh
/-- a new list of such items -/
def Kind.mk : Kind → Kind
  | .bo => .bo
  | _ => .top
def Op1.kd : Op1 → Kind → Kind
  | .listL, k | .revL, k => k.mk
  | .listK, _ | .sortK, _ | .sortL, _ | .sortSet, _ | .rngL, _ => .deep
  | .scl, k => if ownK k then .deep else k
  | .opq, _ => .sh
  | _, _ => .im
def Op2.kd : Op2 → Kind → Kind → Kind
  | .cat, k, l => if k = .bo ∨ l = .bo then .bo else .top
  | .rep, k, _ => k.mk
  | .slcLo, k, _ | .slcHi, k, _ => k.mk
  | .subL, .deep, _ => .deep
  | .subL, k, _ | .subT, k, _ | .subK, k, _ | .subP, k, _ => k.kid
  | _, _, _ => .im
structure Sig where
  np : Nat
  pk : Nat → Kind
  rk : Kind
def IDef.sig (d : IDef) : Sig := ⟨d.np, kAt d.ks, d.rk⟩
/-- the parameters from j on are shared -/
def okP (s : Sig) (j : Nat) : Bool := (List.range s.np).all fun i => decide (i < j) || s.pk i == .sh
def IE.isC : IE → Bool
  | .cst _ => true
  | _ => false
def Sk.dum : Sk → IE → IE → IE → Bool
  | .lst, _, b, c | .r1, _, b, c => b.isC && c.isC
  | .r2, _, _, c => c.isC
  | .r3, _, _, _ => true
  | .dic _, a, b, c => a.isC && b.isC && c.isC
def Sk.src : Sk → Kind → Kind
  | .lst, k => k.kid
  | _, _ => .sh
def Sk.okS : Sk → Kind → Bool
  | .lst, .bt | .lst, .bo => false
  | _, _ => true
def setK (ks : Nat → Kind) (is : List Nat) (k : Kind) : Nat → Kind := fun i => if i ∈ is then k else ks i
def Sk.ks : Sk → (Nat → Kind) → Nat → Kind
  | .dic i, ks => setK ks [i] .sh
  | _, ks => ks
def Sk.okD : Sk → (Nat → Kind) → Tg → Bool
  | .dic i, ks, t => ks i == .top && !t.names.contains i
  | _, _, _ => true
def lcK : Kind → Option Kind
  | .im | .deep => some .deep
  | .bt | .bo => none
  | _ => some .top
mutual
/-- nothing that stood is changed -/
def pureE (sg : Nat → Sig) : IE → Bool
  | .var _ | .cst _ | .dic0 | .dct0 => true
  | .mv _ | .pop _ | .popAt _ _ => false
  | .op1 _ a | .not a => pureE sg a
  | .op2 _ a b | .mth _ a b | .and a b | .or a b | .dic1 a b => pureE sg a && pureE sg b
  | .slc a b c => pureE sg a && pureE sg b && pureE sg c
  | .lst es | .tup es => pureEs sg es
  | .call _ es => pureEs sg es
  | .callM _ _ _ => false
  | .lc k a b c _ t e => k.pure && pureE sg a && pureE sg b && pureE sg c && pureE sg t && pureE sg e
  | .key _ a _ b => pureE sg a && pureE sg b
  | .keyP a _ b c => pureE sg a && pureE sg b && pureE sg c
def pureEs (sg : Nat → Sig) : IEs → Bool
  | .nil => true
  | .cons e es => pureE sg e && pureEs sg es
end
def joinL : List Kind → Kind
  | [] => .deep
  | k :: r => match k, joinL r with
    | .bt, _ | .bo, _ | _, .bo => .bo
    | .im, j | .deep, j => j
    | _, _ => .top
def joinT (l : List Kind) : Kind := match joinL l with
  | .top => .sh
  | k => k
mutual
def kE (sg : Nat → Sig) (nb : Bool) (ks : Nat → Kind) : IE → Option Kind
  | .var i => some (match ks i with | .top => .bt | .deep => .bo | k => k)
  | .mv i => if ownK (ks i) then some (ks i) else none
  | .cst d => if d.isSc then some .im else none
  | .op1 o a => match kE sg nb ks a with
    | some k => if o.onK = true ∧ ¬ (k = .top ∨ k = .bt) then none else some (o.kd k)
    | none => none
  | .op2 o a b => match kE sg nb ks a, kE sg nb ks b with
    | some k, some l => if (k.borrowed && !pureE sg b) || o == .idx || o == .cnt || o == .cntB then none else some (o.kd k l)
    | _, _ => none
  | .mth o a b => match kE sg nb ks a, kE sg nb ks b with
    | some k, some _ => if (k.borrowed && !pureE sg b) || !(o == .idx || o == .cnt) then none else some .im
    | _, _ => none
  | .slc a b c => match kE sg nb ks a, kE sg nb ks b, kE sg nb ks c with
    | some k, some l, some _ => if (l.borrowed && !pureE sg c) || k.borrowed && !(pureE sg b && pureE sg c) then none else some k.mk
    | _, _, _ => none
  | .not a => (kE sg nb ks a).map fun _ => .im
  | .and a b | .or a b => match kE sg nb ks a, kE sg nb ks b with
    | some _, some k => if k.le .sh then some .sh else none
    | _, _ => none
  | .lst es => match kEs sg nb ks es with
    | some l => if l.length ≤ 1000 then some (joinL l) else none
    | none => none
  | .tup es => match kEs sg nb ks es with
    | some l => if l.length ≤ 1000 then some (joinT l) else none
    | none => none
  | .dic1 a b => match kE sg nb ks a, kE sg nb ks b with
    | some .im, some k => if (nb && k.le .sh) = true then some .top else none
    | _, _ => none
  | .dic0 | .dct0 => some .top
  | .call f es => match kEs sg nb ks es with
    | some l => if l.length = (sg f).np ∧ okP (sg f) 0 = true ∧ (l.all (fun k => !k.borrowed) = true ∨ (sg f).rk = .im ∨ (sg f).rk = .deep) then some (sg f).rk else none
    | none => none
  | .callM f i es => match kEs sg nb ks es with
    | some l => if nb = true ∧ ownK (ks i) = true ∧ l.length + 1 = (sg f).np ∧ (sg f).pk 0 = ks i ∧ okP (sg f) 1 = true ∧ l.all (fun k => !k.borrowed) = true then some (sg f).rk else none
    | none => none
  | .lc k a b c t test elt => match kE sg nb ks a, kE sg nb ks b, kE sg nb ks c with
    | some ka, some _, some _ =>
      if (k.dum a b c && k.okD ks t && (k.pure || nb) && pureE sg b && pureE sg c && pureE sg test && pureE sg elt) = true then
        match kE sg false (setK (k.ks ks) t.names (k.src ka)) test, kE sg false (setK (k.ks ks) t.names (k.src ka)) elt with
        | some _, some ke => lcK ke
        | _, _ => none
      else none
    | _, _, _ => none
  | .pop i => if nb = false then none else match ks i with | .top => some .sh | .deep => some .deep | _ => none
  | .popAt i e => if nb = false then none else match ks i, kE sg nb ks e with | .top, some _ => some .sh | .deep, some _ => some .deep | _, _ => none
  | .key o a js b => none
  | .keyP a js b c => none
def kEs (sg : Nat → Sig) (nb : Bool) (ks : Nat → Kind) : IEs → Option (List Kind)
  | .nil => some []
  | .cons e es => match kE sg nb ks e, kEs sg nb ks es with
    | some k, some l => if k.borrowed && !pureEs sg es then none else some (k :: l)
    | _, _ => none
end
def kTg (ks : Nat → Kind) (pn : Nat → Bool) (k : Kind) : Tg → Bool
  | .nm i => k.le (ks i) && !pn i
  | .tup is | .lsp is => is.all fun i => (match k with | .deep => Kind.le .deep (ks i) | .sh | .top => ks i == .sh | _ => false) && !pn i
mutual
def kS (sg : Nat → Sig) (ks : Nat → Kind) (pn : Nat → Bool) (rk : Kind) : IS → Bool
  | .asg t e => match kE sg true ks e with | some k => kTg ks pn k t | none => false
  | .aug i o e => ks i == .sh && !pn i && (o == .addI || o == .subI) && (kE sg true ks e).isSome
  | .exp e => (kE sg true ks e).isSome
  | .app i e => match kE sg true ks e, ks i with
    | some k, .top => k.le .sh
    | some k, .deep => k.le .deep
    | _, _ => false
  | .ins i a e => match kE sg true ks a, kE sg true ks e, ks i with
    | some _, some k, .top => k.le .sh
    | some _, some k, .deep => k.le .deep
    | _, _, _ => false
  | .clr i => ownK (ks i)
  | .seti i a e => match kE sg true ks a, kE sg true ks e, ks i with
    | some _, some k, .top => k.le .sh
    | some _, some k, .deep => k.le .deep
    | _, _, _ => false
  | .set2 i a b e => match kE sg true ks a, kE sg true ks b, kE sg true ks e, ks i with
    | some _, some _, some k, .deep => k.le .deep && pureE sg a && pureE sg b
    | _, _, _, _ => false
  | .augi i a o e => match kE sg true ks a, kE sg true ks e, ks i with
    | some _, some _, .top | some _, some _, .deep => pureE sg e && (o == .addI || o == .subI)
    | _, _, _ => false
  | .aug2 i a b o e => false
  | .setk i a e | .setp i a e => match kE sg true ks a, kE sg true ks e, ks i with
    | some _, some k, .top => k.le .sh
    | _, _, _ => false
  | .ifs c a b => (kE sg true ks c).isSome && kSs sg ks pn rk a && kSs sg ks pn rk b
  | .whl c b => (kE sg true ks c).isSome && kSs sg ks pn rk b
  | .for k a b c t body => match kE sg true ks a, kE sg true ks b, kE sg true ks c with
    | some ka, some _, some _ => k.dum a b c && k.okD ks t && k.okS ka && t.names.all (fun i => ks i == .sh && !pn i) && (match k with | .dic i => !pn i | _ => true) && kSs sg (k.ks ks) pn rk body
    | _, _, _ => false
  | .ret e => match kE sg true ks e with | some k => k.le rk | none => false
  | .retN => true
  | .rai _ => true
  | .frz i => false
  | .forC a t c d => match kE sg true ks a, kE sg true ks c with
    | some _, some _ => d.isSc && Kind.le .im rk && t.names.all (fun i => ks i == .sh && !pn i) && pureE sg a && pureE sg c
    | _, _ => false
def kSs (sg : Nat → Sig) (ks : Nat → Kind) (pn : Nat → Bool) (rk : Kind) : ISs → Bool
  | .nil => true
  | .cons s r => kS sg ks pn rk s && kSs sg ks pn rk r
end
/-- a def's static look -/
def IDef.pn (d : IDef) (j : Nat) : Bool := j == 0 && d.mut
def IDef.ok (sg : Nat → Sig) (d : IDef) : Bool := (d.ks.all fun k => !k.borrowed) && decide (d.np ≤ d.ns) && kSs sg (kAt d.ks) d.pn d.rk d.body
end TW

/-! ## data, how the heap bears it -/
namespace TW
open PySem L2
def scV : D → Option V
  | .non => some .non | .bl b => some (.bl b) | .int i => some (.int i) | .str s => some (.str s) | _ => none
section
variable (K : PySem.W.Frag) (B : Hp)
mutual
def hold : D → V → Prop
  | .non, v => v = .non
  | .bl b, v => v = .bl b
  | .int i, v => v = .int i
  | .str s, v => v = .str s
  | .lst ds, v => ∃ p xs, v = .ref p ∧ B p = some (.lst xs) ∧ holds ds xs
  | .tup ds, v => ∃ p xs, v = .ref p ∧ B p = some (.tup xs) ∧ holds ds xs
  | .dic ks, v => ∃ p kvs, v = .ref p ∧ Rd B p (.dK kvs) ∧ holdK ks kvs
  | .dct ks, v => ∃ p kvs, v = .ref p ∧ B p = some (.dT kvs) ∧ holdT ks kvs
  | .scr ns, v => ∃ p, v = .ref p ∧ SqL K B p (ns.map V.int)
  | .any, _ => True
def holds : List D → List V → Prop
  | [], xs => xs = []
  | d :: ds, xs => ∃ x r, xs = x :: r ∧ hold d x ∧ holds ds r
def holdK : List (Int × D) → List (Key × V) → Prop
  | [], kvs => kvs = []
  | (i, d) :: ks, kvs => ∃ x r, kvs = (.inl i, x) :: r ∧ hold d x ∧ holdK ks r
def holdT : List ((Int × Int) × D) → List (List Key × V) → Prop
  | [], kvs => kvs = []
  | ((i, j), d) :: ks, kvs => ∃ x r, kvs = ([.inl i, .inl j], x) :: r ∧ hold d x ∧ holdT ks r
end
end
theorem hold_sc {K : PySem.W.Frag} {B : Hp} {d : D} {v : V} (h : scV d = some v) : hold K B d v := by
  cases d <;> simp only [scV, Option.some.injEq, reduceCtorEq] at h <;> simp only [hold] <;> exact h.symm
theorem sc_hold {K : PySem.W.Frag} {B : Hp} {d : D} {v w : V} (h : scV d = some v) (g : hold K B d w) : w = v := by
  cases d <;> simp only [scV, Option.some.injEq, reduceCtorEq] at h <;> simp only [hold] at g <;> rw [g, ← h]
/-- no table of code objects -/
def NoTab (o : HO) : Prop := ∀ ps, o ≠ .tbl ps
/-- an extension; a lock may have fallen, tables may have grown -/
def Ext (B B' : Hp) : Prop := ∀ a o, B a = some o → NoTab o → B' a = some o ∨ ∃ ob kvs, o = .frz ob (.dK kvs) ∧ B' a = some (.dK kvs)
theorem Ext.of {B B' : Hp} (h : ∀ a o, B a = some o → NoTab o → B' a = some o) : Ext B B' := fun a o e n => .inl (h a o e n)
theorem nt_lst {xs : List V} : NoTab (.lst xs) := fun _ z => by cases z
theorem nt_tup {xs : List V} : NoTab (.tup xs) := fun _ z => by cases z
theorem nt_dK {xs : List (Key × V)} : NoTab (.dK xs) := fun _ z => by cases z
theorem nt_dT {xs : List (List Key × V)} : NoTab (.dT xs) := fun _ z => by cases z
theorem nt_frz {o : Obj} {u : HO} : NoTab (.frz o u) := fun _ z => by cases z
theorem Ext.rdK {B B' : Hp} (e : Ext B B') {p : Addr} {kvs : List (Key × V)} (h : Rd B p (.dK kvs)) : Rd B' p (.dK kvs) := by
  rcases h with h | ⟨o, h⟩
  · rcases e p _ h (by intro _ z; cases z) with q | ⟨_, _, q, _⟩
    · exact .inl q
    · cases q
  · rcases e p _ h (by intro _ z; cases z) with q | ⟨_, _, q, r⟩
    · exact .inr ⟨o, q⟩
    · cases q; exact .inl r
theorem Ext.rdT {B B' : Hp} (e : Ext B B') {p : Addr} {kvs : List (List Key × V)} (h : Rd B p (.dT kvs)) : Rd B' p (.dT kvs) := by
  rcases h with h | ⟨o, h⟩
  · rcases e p _ h (by intro _ z; cases z) with q | ⟨_, _, q, _⟩
    · exact .inl q
    · cases q
  · rcases e p _ h (by intro _ z; cases z) with q | ⟨_, _, q, r⟩
    · exact .inr ⟨o, q⟩
    · cases q
theorem Ext.sq {K : PySem.W.Frag} {B B' : Hp} (e : Ext B B') {p : Addr} {xs : List V} (h : SqL K B p xs) : SqL K B' p xs := by
  rcases h with (h | ⟨o, h⟩) | h
  · rcases e p _ h (by intro _ z; cases z) with q | ⟨_, _, q, _⟩
    · exact .inl (.inl q)
    · cases q
  · rcases e p _ h (by intro _ z; cases z) with q | ⟨_, _, q, r⟩
    · exact .inl (.inr ⟨o, q⟩)
    · cases q
  · exact .inr h
mutual
theorem hold_mono {K : PySem.W.Frag} {B B' : Hp} (e : Ext B B') : ∀ (d : D) (v : V), hold K B d v → hold K B' d v
  | .any, _, _ => by simp only [hold]
  | .non, _, h | .bl _, _, h | .int _, _, h | .str _, _, h => by simp only [hold] at h ⊢; exact h
  | .lst ds, v, h => by
    simp only [hold] at h ⊢
    obtain ⟨p, xs, e1, e2, e3⟩ := h
    rcases e p _ e2 (by intro _ z; cases z) with q | ⟨_, _, q, _⟩
    · exact ⟨p, xs, e1, q, holds_mono e ds xs e3⟩
    · cases q
  | .tup ds, v, h => by
    simp only [hold] at h ⊢
    obtain ⟨p, xs, e1, e2, e3⟩ := h
    rcases e p _ e2 (by intro _ z; cases z) with q | ⟨_, _, q, _⟩
    · exact ⟨p, xs, e1, q, holds_mono e ds xs e3⟩
    · cases q
  | .dic ks, v, h => by
    simp only [hold] at h ⊢
    obtain ⟨p, xs, e1, e2, e3⟩ := h
    exact ⟨p, xs, e1, e.rdK e2, holdK_mono e ks xs e3⟩
  | .dct ks, v, h => by
    simp only [hold] at h ⊢
    obtain ⟨p, xs, e1, e2, e3⟩ := h
    rcases e p _ e2 (by intro _ z; cases z) with q | ⟨_, _, q, _⟩
    · exact ⟨p, xs, e1, q, holdT_mono e ks xs e3⟩
    · cases q
  | .scr ns, v, h => by
    simp only [hold] at h ⊢
    obtain ⟨p, e1, e2⟩ := h
    exact ⟨p, e1, e.sq e2⟩
theorem holds_mono {K : PySem.W.Frag} {B B' : Hp} (e : Ext B B') : ∀ (ds : List D) (xs : List V), holds K B ds xs → holds K B' ds xs
  | [], _, h => by simp only [holds] at h ⊢; exact h
  | d :: ds, _, h => by
    simp only [holds] at h ⊢
    obtain ⟨x, r, e1, e2, e3⟩ := h
    exact ⟨x, r, e1, hold_mono e d x e2, holds_mono e ds r e3⟩
theorem holdK_mono {K : PySem.W.Frag} {B B' : Hp} (e : Ext B B') : ∀ (ds : List (Int × D)) (xs : List (Key × V)), holdK K B ds xs → holdK K B' ds xs
  | [], _, h => by simp only [holdK] at h ⊢; exact h
  | (i, d) :: ds, _, h => by
    simp only [holdK] at h ⊢
    obtain ⟨x, r, e1, e2, e3⟩ := h
    exact ⟨x, r, e1, hold_mono e d x e2, holdK_mono e ds r e3⟩
theorem holdT_mono {K : PySem.W.Frag} {B B' : Hp} (e : Ext B B') : ∀ (ds : List ((Int × Int) × D)) (xs : List (List Key × V)), holdT K B ds xs → holdT K B' ds xs
  | [], _, h => by simp only [holdT] at h ⊢; exact h
  | ((i, j), d) :: ds, _, h => by
    simp only [holdT] at h ⊢
    obtain ⟨x, r, e1, e2, e3⟩ := h
    exact ⟨x, r, e1, hold_mono e d x e2, holdT_mono e ds r e3⟩
end
theorem holds_length {K : PySem.W.Frag} {B : Hp} : ∀ {ds : List D} {xs : List V}, holds K B ds xs → ds.length = xs.length
  | [], _, h => by simp only [holds] at h; subst h; rfl
  | d :: ds, _, h => by
    simp only [holds] at h
    obtain ⟨x, r, e1, _, e3⟩ := h
    subst e1
    simp only [List.length_cons, holds_length e3]
theorem holds_get {K : PySem.W.Frag} {B : Hp} : ∀ {ds : List D} {xs : List V} {i : Nat} {d : D}, holds K B ds xs → ds[i]? = some d → ∃ x, xs[i]? = some x ∧ hold K B d x
  | [], _, _, _, _, h => by simp at h
  | d :: ds, _, 0, d', h, e => by
    simp only [holds] at h
    obtain ⟨x, r, e1, e2, e3⟩ := h
    simp at e; subst e; subst e1
    exact ⟨x, rfl, e2⟩
  | d :: ds, _, i + 1, d', h, e => by
    simp only [holds] at h
    obtain ⟨x, r, e1, e2, e3⟩ := h
    subst e1
    obtain ⟨y, h1, h2⟩ := holds_get (i := i) e3 (by simpa using e)
    exact ⟨y, by simpa using h1, h2⟩
theorem holds_get' {K : PySem.W.Frag} {B : Hp} : ∀ {ds : List D} {xs : List V} {i : Nat} {x : V}, holds K B ds xs → xs[i]? = some x → ∃ d, ds[i]? = some d ∧ hold K B d x
  | [], xs, _, _, h, e => by simp only [holds] at h; subst h; simp at e
  | d :: ds, _, 0, d', h, e => by
    simp only [holds] at h
    obtain ⟨x, r, e1, e2, e3⟩ := h
    subst e1
    simp at e; subst e
    exact ⟨d, rfl, e2⟩
  | d :: ds, _, i + 1, d', h, e => by
    simp only [holds] at h
    obtain ⟨x, r, e1, e2, e3⟩ := h
    subst e1
    obtain ⟨y, h1, h2⟩ := holds_get' (i := i) e3 (by simpa using e)
    exact ⟨y, by simpa using h1, h2⟩
theorem holds_append {K : PySem.W.Frag} {B : Hp} : ∀ {ds es : List D} {xs ys : List V}, holds K B ds xs → holds K B es ys → holds K B (ds ++ es) (xs ++ ys)
  | [], _, _, _, h, g => by simp only [holds] at h; subst h; exact g
  | d :: ds, es, _, ys, h, g => by
    simp only [holds] at h
    obtain ⟨x, r, e1, e2, e3⟩ := h
    subst e1
    exact ⟨x, r ++ ys, rfl, e2, holds_append e3 g⟩
theorem holds_one {K : PySem.W.Frag} {B : Hp} {d : D} {x : V} (h : hold K B d x) : holds K B [d] [x] := ⟨x, [], rfl, h, rfl⟩
theorem holds_take {K : PySem.W.Frag} {B : Hp} : ∀ (n : Nat) {ds : List D} {xs : List V}, holds K B ds xs → holds K B (ds.take n) (xs.take n)
  | 0, _, _, _ => rfl
  | n + 1, [], _, h => by simp only [holds] at h; subst h; rfl
  | n + 1, d :: ds, _, h => by
    simp only [holds] at h
    obtain ⟨x, r, e1, e2, e3⟩ := h
    subst e1
    exact ⟨x, r.take n, rfl, e2, holds_take n e3⟩
theorem holds_drop {K : PySem.W.Frag} {B : Hp} : ∀ (n : Nat) {ds : List D} {xs : List V}, holds K B ds xs → holds K B (ds.drop n) (xs.drop n)
  | 0, _, _, h => h
  | n + 1, [], _, h => by simp only [holds] at h; subst h; rfl
  | n + 1, d :: ds, _, h => by
    simp only [holds] at h
    obtain ⟨x, r, e1, e2, e3⟩ := h
    subst e1
    exact holds_drop n e3
theorem holds_set {K : PySem.W.Frag} {B : Hp} {d : D} {x : V} (h0 : hold K B d x) : ∀ (i : Nat) {ds : List D} {xs : List V}, holds K B ds xs → holds K B (ds.set i d) (xs.set i x)
  | _, [], _, h => by simp only [holds] at h; subst h; rfl
  | 0, e :: ds, _, h => by
    simp only [holds] at h
    obtain ⟨y, r, e1, e2, e3⟩ := h
    subst e1
    exact ⟨x, r, rfl, h0, e3⟩
  | i + 1, e :: ds, _, h => by
    simp only [holds] at h
    obtain ⟨y, r, e1, e2, e3⟩ := h
    subst e1
    exact ⟨y, r.set i x, rfl, e2, holds_set h0 i e3⟩
theorem holds_reverse {K : PySem.W.Frag} {B : Hp} : ∀ {ds : List D} {xs : List V}, holds K B ds xs → holds K B ds.reverse xs.reverse
  | [], _, h => by simp only [holds] at h; subst h; rfl
  | d :: ds, _, h => by
    simp only [holds] at h
    obtain ⟨x, r, e1, e2, e3⟩ := h
    subst e1
    rw [List.reverse_cons, List.reverse_cons]
    exact holds_append (holds_reverse e3) (holds_one e2)
theorem holds_eraseIdx {K : PySem.W.Frag} {B : Hp} : ∀ (i : Nat) {ds : List D} {xs : List V}, holds K B ds xs → holds K B (ds.eraseIdx i) (xs.eraseIdx i)
  | _, [], _, h => by simp only [holds] at h; subst h; cases ‹Nat› <;> rfl
  | 0, e :: ds, _, h => by
    simp only [holds] at h
    obtain ⟨y, r, e1, e2, e3⟩ := h
    subst e1
    exact e3
  | i + 1, e :: ds, _, h => by
    simp only [holds] at h
    obtain ⟨y, r, e1, e2, e3⟩ := h
    subst e1
    exact ⟨y, r.eraseIdx i, rfl, e2, holds_eraseIdx i e3⟩
theorem holds_dropLast {K : PySem.W.Frag} {B : Hp} {ds : List D} {xs : List V} (h : holds K B ds xs) : holds K B ds.dropLast xs.dropLast := by
  rw [List.dropLast_eq_take, List.dropLast_eq_take, holds_length h]
  exact holds_take _ h
/-- ints -/
theorem holds_ints {K : PySem.W.Frag} {B : Hp} : ∀ (ns : List Int), holds K B (ns.map D.int) (ns.map V.int)
  | [] => rfl
  | n :: ns => ⟨.int n, ns.map V.int, rfl, rfl, holds_ints ns⟩
theorem ints_holds {K : PySem.W.Frag} {B : Hp} : ∀ {ns : List Int} {xs : List V}, holds K B (ns.map D.int) xs → xs = ns.map V.int
  | [], _, h => by simp only [List.map_nil, holds] at h; exact h
  | n :: ns, _, h => by
    simp only [List.map_cons, holds, hold] at h
    obtain ⟨x, r, e1, e2, e3⟩ := h
    subst e1; subst e2
    rw [ints_holds e3]; rfl
/-! ### what is its owner's alone -/
mutual
def own (H : Hp) : D → V → List Addr → Prop
  | .non, v, f => v = .non ∧ f = []
  | .bl b, v, f => v = .bl b ∧ f = []
  | .int b, v, f => v = .int b ∧ f = []
  | .str b, v, f => v = .str b ∧ f = []
  | .lst ds, v, f => ∃ p xs g, v = .ref p ∧ f = p :: g ∧ H p = some (.lst xs) ∧ p ∉ g ∧ owns H ds xs g
  | .tup ds, v, f => ∃ p xs g, v = .ref p ∧ f = p :: g ∧ H p = some (.tup xs) ∧ p ∉ g ∧ owns H ds xs g
  | .dic _, _, _ | .dct _, _, _ | .scr _, _, _ | .any, _, _ => False
def owns (H : Hp) : List D → List V → List Addr → Prop
  | [], xs, f => xs = [] ∧ f = []
  | d :: ds, xs, f => ∃ x r g1 g2, xs = x :: r ∧ f = g1 ++ g2 ∧ own H d x g1 ∧ owns H ds r g2 ∧ ∀ a ∈ g1, a ∉ g2
end
theorem own_sc {H : Hp} {d : D} {v : V} (h : scV d = some v) : own H d v [] := by
  cases d <;> simp only [scV, Option.some.injEq, reduceCtorEq] at h <;> exact ⟨h.symm, rfl⟩
/-- what is owned stands, and is no table -/
def Lay (o : HO) : Prop := (∃ xs, o = .lst xs) ∨ (∃ xs, o = .tup xs) ∨ (∃ xs, o = .dK xs) ∨ ∃ xs, o = .dT xs
theorem Lay.nt {o : HO} (h : Lay o) : NoTab o := fun ps z => by
  rcases h with ⟨_, e⟩ | ⟨_, e⟩ | ⟨_, e⟩ | ⟨_, e⟩ <;> (rw [e] at z; cases z)
mutual
theorem own_at {H : Hp} : ∀ (d : D) (v : V) (f : List Addr), own H d v f → ∀ a ∈ f, ∃ o, H a = some o ∧ Lay o
  | .non, _, _, h, _, m | .bl _, _, _, h, _, m | .int _, _, _, h, _, m | .str _, _, _, h, _, m => by
    simp only [own] at h; rw [h.2] at m; cases m
  | .lst ds, v, f, h, a, m => by
    simp only [own] at h
    obtain ⟨p, xs, g, _, e, e2, _, e4⟩ := h
    rw [e] at m
    rcases List.mem_cons.mp m with z | m
    · rw [z]; exact ⟨_, e2, .inl ⟨_, rfl⟩⟩
    · exact owns_at ds xs g e4 a m
  | .tup ds, v, f, h, a, m => by
    simp only [own] at h
    obtain ⟨p, xs, g, _, e, e2, _, e4⟩ := h
    rw [e] at m
    rcases List.mem_cons.mp m with z | m
    · rw [z]; exact ⟨_, e2, .inr (.inl ⟨_, rfl⟩)⟩
    · exact owns_at ds xs g e4 a m
  | .dic _, _, _, h, _, _ | .dct _, _, _, h, _, _ | .scr _, _, _, h, _, _ | .any, _, _, h, _, _ => by simp only [own] at h
theorem owns_at {H : Hp} : ∀ (ds : List D) (xs : List V) (f : List Addr), owns H ds xs f → ∀ a ∈ f, ∃ o, H a = some o ∧ Lay o
  | [], _, _, h, _, m => by simp only [owns] at h; rw [h.2] at m; cases m
  | d :: ds, _, f, h, a, m => by
    simp only [owns] at h
    obtain ⟨x, r, g1, g2, _, e, e2, e3, _⟩ := h
    rw [e] at m
    rcases List.mem_append.mp m with m | m
    · exact own_at d x g1 e2 a m
    · exact owns_at ds r g2 e3 a m
end
mutual
theorem own_keep {H H' : Hp} : ∀ (d : D) (v : V) (f : List Addr), own H d v f → (∀ a ∈ f, ∀ o, H a = some o → Lay o → H' a = some o) → own H' d v f
  | .non, _, _, h, _ | .bl _, _, _, h, _ | .int _, _, _, h, _ | .str _, _, _, h, _ => by simp only [own] at h ⊢; exact h
  | .lst ds, v, f, h, k => by
    simp only [own] at h ⊢
    obtain ⟨p, xs, g, e0, e, e2, e3, e4⟩ := h
    subst e
    exact ⟨p, xs, g, e0, rfl, k p List.mem_cons_self _ e2 (.inl ⟨_, rfl⟩), e3, owns_keep ds xs g e4 fun a m => k a (List.mem_cons_of_mem _ m)⟩
  | .tup ds, v, f, h, k => by
    simp only [own] at h ⊢
    obtain ⟨p, xs, g, e0, e, e2, e3, e4⟩ := h
    subst e
    exact ⟨p, xs, g, e0, rfl, k p List.mem_cons_self _ e2 (.inr (.inl ⟨_, rfl⟩)), e3, owns_keep ds xs g e4 fun a m => k a (List.mem_cons_of_mem _ m)⟩
  | .dic _, _, _, h, _ | .dct _, _, _, h, _ | .scr _, _, _, h, _ | .any, _, _, h, _ => by simp only [own] at h
theorem owns_keep {H H' : Hp} : ∀ (ds : List D) (xs : List V) (f : List Addr), owns H ds xs f → (∀ a ∈ f, ∀ o, H a = some o → Lay o → H' a = some o) → owns H' ds xs f
  | [], _, _, h, _ => by simp only [owns] at h ⊢; exact h
  | d :: ds, _, f, h, k => by
    simp only [owns] at h ⊢
    obtain ⟨x, r, g1, g2, e0, e, e2, e3, e4⟩ := h
    subst e
    exact ⟨x, r, g1, g2, e0, rfl, own_keep d x g1 e2 fun a m => k a (List.mem_append_left _ m), owns_keep ds r g2 e3 fun a m => k a (List.mem_append_right _ m), e4⟩
end
mutual
theorem own_hold {K : PySem.W.Frag} {H B : Hp} : ∀ (d : D) (v : V) (f : List Addr), own H d v f → (∀ a ∈ f, ∀ o, H a = some o → Lay o → B a = some o) → hold K B d v
  | .non, _, _, h, _ | .bl _, _, _, h, _ | .int _, _, _, h, _ | .str _, _, _, h, _ => by simp only [own] at h; simp only [hold]; exact h.1
  | .lst ds, v, f, h, k => by
    simp only [own] at h
    obtain ⟨p, xs, g, e0, e, e2, e3, e4⟩ := h
    subst e
    exact ⟨p, xs, e0, k p List.mem_cons_self _ e2 (.inl ⟨_, rfl⟩), owns_hold ds xs g e4 fun a m => k a (List.mem_cons_of_mem _ m)⟩
  | .tup ds, v, f, h, k => by
    simp only [own] at h
    obtain ⟨p, xs, g, e0, e, e2, e3, e4⟩ := h
    subst e
    exact ⟨p, xs, e0, k p List.mem_cons_self _ e2 (.inr (.inl ⟨_, rfl⟩)), owns_hold ds xs g e4 fun a m => k a (List.mem_cons_of_mem _ m)⟩
  | .dic _, _, _, h, _ | .dct _, _, _, h, _ | .scr _, _, _, h, _ | .any, _, _, h, _ => by simp only [own] at h
theorem owns_hold {K : PySem.W.Frag} {H B : Hp} : ∀ (ds : List D) (xs : List V) (f : List Addr), owns H ds xs f → (∀ a ∈ f, ∀ o, H a = some o → Lay o → B a = some o) → holds K B ds xs
  | [], _, _, h, _ => by simp only [owns] at h; exact h.1
  | d :: ds, _, f, h, k => by
    simp only [owns] at h
    obtain ⟨x, r, g1, g2, e0, e, e2, e3, e4⟩ := h
    subst e
    exact ⟨x, r, e0, own_hold d x g1 e2 fun a m => k a (List.mem_append_left _ m), owns_hold ds r g2 e3 fun a m => k a (List.mem_append_right _ m)⟩
end
theorem owns_length {H : Hp} : ∀ {ds : List D} {xs : List V} {f : List Addr}, owns H ds xs f → ds.length = xs.length
  | [], _, _, h => by simp only [owns] at h; rw [h.1]; rfl
  | d :: ds, _, _, h => by
    simp only [owns] at h
    obtain ⟨x, r, _, _, e1, _, _, e3, _⟩ := h
    subst e1
    simp only [List.length_cons, owns_length e3]
theorem owns_sc {H : Hp} : ∀ {ds : List D} {xs : List V}, (∀ d ∈ ds, d.isSc = true) → (K : PySem.W.Frag) → (B : Hp) → holds K B ds xs → owns H ds xs []
  | [], _, _, _, _, h => by simp only [holds] at h; exact ⟨h, rfl⟩
  | d :: ds, _, s, K, B, h => by
    simp only [holds] at h
    obtain ⟨x, r, e1, e2, e3⟩ := h
    have q : scV d = some x := by
      have := s d List.mem_cons_self
      cases d <;> simp only [D.isSc, Bool.false_eq_true] at this <;> simp only [hold] at e2 <;> simp only [scV, e2]
    exact ⟨x, r, [], [], e1, rfl, own_sc q, owns_sc (fun e m => s e (List.mem_cons_of_mem _ m)) K B e3, fun _ m => by cases m⟩
/-! ### how a value stands -/
/-- the thing itself in H, its items in B -/
def hold1 (K : PySem.W.Frag) (B H : Hp) : D → V → Prop
  | .lst ds, v => ∃ p xs, v = .ref p ∧ H p = some (.lst xs) ∧ holds K B ds xs
  | .tup ds, v => ∃ p xs, v = .ref p ∧ H p = some (.tup xs) ∧ holds K B ds xs
  | .dic ks, v => ∃ p kvs, v = .ref p ∧ Rd H p (.dK kvs) ∧ holdK K B ks kvs
  | .dct ks, v => ∃ p kvs, v = .ref p ∧ H p = some (.dT kvs) ∧ holdT K B ks kvs
  | .scr ns, v => ∃ p, v = .ref p ∧ SqL K H p (ns.map V.int)
  | .any, _ => True
  | d, v => scV d = some v
/-- a list or dict that is its owner's -/
def topAt (K : PySem.W.Frag) (B H : Hp) (p : Addr) : D → Prop
  | .lst ds => ∃ xs, H p = some (.lst xs) ∧ holds K B ds xs
  | .tup ds => ∃ xs, H p = some (.tup xs) ∧ holds K B ds xs
  | .dic ks => ∃ kvs, H p = some (.dK kvs) ∧ holdK K B ks kvs
  | .dct ks => ∃ kvs, H p = some (.dT kvs) ∧ holdT K B ks kvs
  | _ => False
def vrep (K : PySem.W.Frag) (k : Kind) (B H : Hp) (d : D) (v : V) (f : List Addr) : Prop := match k with
  | .im => scV d = some v ∧ f = []
  | .sh => hold K B d v ∧ f = []
  | .top => (scV d = some v ∧ f = []) ∨ ∃ p, v = .ref p ∧ f = [p] ∧ topAt K B H p d
  | .deep => own H d v f
  | .bt => (scV d = some v ∧ f = []) ∨ ∃ p, v = .ref p ∧ f = [] ∧ topAt K B H p d
  | .bo => hold K H d v ∧ f = []
/-- what B knows stands -/
def Sub (B H : Hp) : Prop := ∀ a o, B a = some o → H a = some o ∧ NoTab o
theorem Sub.ext {B H : Hp} (s : Sub B H) : Ext B H := .of fun a o e _ => (s a o e).1
theorem topAt_at {K : PySem.W.Frag} {B H : Hp} {p : Addr} {d : D} (h : topAt K B H p d) : ∃ o, H p = some o ∧ Lay o := by
  cases d <;> simp only [topAt] at h
  · obtain ⟨_, h, _⟩ := h; exact ⟨_, h, .inl ⟨_, rfl⟩⟩
  · obtain ⟨_, h, _⟩ := h; exact ⟨_, h, .inr (.inl ⟨_, rfl⟩)⟩
  · obtain ⟨_, h, _⟩ := h; exact ⟨_, h, .inr (.inr (.inl ⟨_, rfl⟩))⟩
  · obtain ⟨_, h, _⟩ := h; exact ⟨_, h, .inr (.inr (.inr ⟨_, rfl⟩))⟩
theorem vrep_at {K : PySem.W.Frag} {k : Kind} {B H : Hp} {d : D} {v : V} {f : List Addr} (h : vrep K k B H d v f) : ∀ a ∈ f, ∃ o, H a = some o ∧ Lay o := fun a m => by
  cases k <;> simp only [vrep] at h
  · rw [h.2] at m; cases m
  · rw [h.2] at m; cases m
  · rcases h with ⟨_, e⟩ | ⟨p, _, e, t⟩
    · rw [e] at m; cases m
    rw [e] at m
    obtain rfl := List.mem_singleton.mp m
    exact topAt_at t
  · exact own_at d v f h a m
  · rcases h with ⟨_, e⟩ | ⟨p, _, e, t⟩ <;> (rw [e] at m; cases m)
  · rw [h.2] at m; cases m
theorem topAt_keep {K : PySem.W.Frag} {B B' H H' : Hp} {p : Addr} {d : D} (h : topAt K B H p d) (e : Ext B B') (k : ∀ o, H p = some o → Lay o → H' p = some o) : topAt K B' H' p d := by
  cases d <;> simp only [topAt] at h ⊢
  · obtain ⟨xs, h, g⟩ := h; exact ⟨xs, k _ h (.inl ⟨_, rfl⟩), holds_mono e _ _ g⟩
  · obtain ⟨xs, h, g⟩ := h; exact ⟨xs, k _ h (.inr (.inl ⟨_, rfl⟩)), holds_mono e _ _ g⟩
  · obtain ⟨xs, h, g⟩ := h; exact ⟨xs, k _ h (.inr (.inr (.inl ⟨_, rfl⟩))), holdK_mono e _ _ g⟩
  · obtain ⟨xs, h, g⟩ := h; exact ⟨xs, k _ h (.inr (.inr (.inr ⟨_, rfl⟩))), holdT_mono e _ _ g⟩
/-- what changes between two states: P, what may change; P', what is owned behind it -/
structure Step (B H : Hp) (P : Addr → Prop) (B' H' : Hp) (P' : Addr → Prop) : Prop where
  ex : ∀ a o, B a = some o → B' a = some o
  up : ∀ a o, H a = some o → ¬ P a → NoTab o → H' a = some o
  th : ∀ a, H a ≠ none → H' a ≠ none
  new : ∀ a, P' a → P a ∨ H a = none
  newB : ∀ a, B' a ≠ none → B a ≠ none ∨ P a ∨ H a = none
/-- nothing that stood is changed -/
def Up (H H' : Hp) : Prop := ∀ a o, H a = some o → NoTab o → H' a = some o
theorem Up.refl (H : Hp) : Up H H := fun _ _ h _ => h
theorem Up.trans {H H1 H2 : Hp} (a : Up H H1) (b : Up H1 H2) : Up H H2 := fun c o e n => b c o (a c o e n) n
theorem Up.ext {H H' : Hp} (u : Up H H') : Ext H H' := .of u
theorem Step.refl {B H : Hp} {P : Addr → Prop} : Step B H P B H P := ⟨fun _ _ h => h, fun _ _ h _ _ => h, fun _ h => h, fun _ h => .inl h, fun _ h => .inl h⟩
theorem Step.trans {B H B1 H1 B2 H2 : Hp} {P P1 P2 : Addr → Prop} (s : Step B H P B1 H1 P1) (t : Step B1 H1 P1 B2 H2 P2) : Step B H P B2 H2 P2 where
  ex := fun a o e => t.ex a o (s.ex a o e)
  up := fun a o e n z => t.up a o (s.up a o e n z) (fun q => (s.new a q).elim n fun r => by rw [e] at r; cases r) z
  th := fun a h => t.th a (s.th a h)
  new := fun a h => (t.new a h).elim (s.new a) fun r => .inr (by
    cases q : H a with
    | none => rfl
    | some o => exact absurd r (s.th a (by rw [q]; simp)))
  newB := fun a h => by
    rcases t.newB a h with q | q | q
    · exact s.newB a q
    · exact .inr (s.new a q)
    · refine .inr (.inr ?_)
      cases r : H a with
      | none => rfl
      | some o => exact absurd q (s.th a (by rw [r]; simp))
theorem Step.less {B H B1 H1 : Hp} {P P1 P2 : Addr → Prop} (s : Step B H P B1 H1 P1) (h : ∀ a, P2 a → P1 a) : Step B H P B1 H1 P2 := ⟨s.ex, s.up, s.th, fun a q => s.new a (h a q), s.newB⟩
theorem Step.more {B H B1 H1 : Hp} {P P1 P0 : Addr → Prop} (s : Step B H P B1 H1 P1) (h : ∀ a, P a → P0 a) : Step B H P0 B1 H1 P1 :=
  ⟨s.ex, fun a o e n z => s.up a o e (fun q => n (h a q)) z, s.th, fun a q => (s.new a q).imp (h a) id, fun a q => (s.newB a q).imp id fun r => r.imp (h a) id⟩
/-- a thing that is not touched -/
theorem vrep_step {K : PySem.W.Frag} {k : Kind} {B H B' H' : Hp} {d : D} {v : V} {f : List Addr} {P P' : Addr → Prop} (h : vrep K k B H d v f) (s : Step B H P B' H' P') (hf : ∀ a ∈ f, ¬ P a)
    (hb : k.borrowed = true → Up H H') : vrep K k B' H' d v f := by
  have e : Ext B B' := .of fun a o q _ => s.ex a o q
  cases k <;> simp only [vrep] at h ⊢
  · exact h
  · exact ⟨hold_mono e _ _ h.1, h.2⟩
  · rcases h with h | ⟨p, e1, e2, t⟩
    · exact .inl h
    exact .inr ⟨p, e1, e2, topAt_keep t e fun o q l => s.up p o q (hf p (by rw [e2]; exact List.mem_singleton.mpr rfl)) l.nt⟩
  · exact own_keep d v f h fun a m o q l => s.up a o q (hf a m) l.nt
  · rcases h with h | ⟨p, e1, e2, t⟩
    · exact .inl h
    exact .inr ⟨p, e1, e2, topAt_keep t e fun o q l => hb rfl p o q l.nt⟩
  · exact ⟨hold_mono (hb rfl).ext _ _ h.1, h.2⟩
theorem hold_1 {K : PySem.W.Frag} {B H : Hp} {d : D} {v : V} (s : Sub B H) (h : hold K B d v) : hold1 K B H d v := by
  cases d <;> simp only [hold] at h <;> simp only [hold1, scV]
  case non | bl | int | str => rw [h]
  case lst => obtain ⟨p, xs, e1, e2, e3⟩ := h; exact ⟨p, xs, e1, (s _ _ e2).1, e3⟩
  case tup => obtain ⟨p, xs, e1, e2, e3⟩ := h; exact ⟨p, xs, e1, (s _ _ e2).1, e3⟩
  case dic => obtain ⟨p, xs, e1, e2, e3⟩ := h; exact ⟨p, xs, e1, s.ext.rdK e2, e3⟩
  case dct => obtain ⟨p, xs, e1, e2, e3⟩ := h; exact ⟨p, xs, e1, (s _ _ e2).1, e3⟩
  case scr => obtain ⟨p, e1, e2⟩ := h; exact ⟨p, e1, s.ext.sq e2⟩
theorem topAt_1 {K : PySem.W.Frag} {B H : Hp} {d : D} {p : Addr} (h : topAt K B H p d) : hold1 K B H d (.ref p) := by
  cases d <;> simp only [topAt] at h <;> simp only [hold1]
  case lst => obtain ⟨xs, e2, e3⟩ := h; exact ⟨p, xs, rfl, e2, e3⟩
  case tup => obtain ⟨xs, e2, e3⟩ := h; exact ⟨p, xs, rfl, e2, e3⟩
  case dic => obtain ⟨xs, e2, e3⟩ := h; exact ⟨p, xs, rfl, .inl e2, e3⟩
  case dct => obtain ⟨xs, e2, e3⟩ := h; exact ⟨p, xs, rfl, e2, e3⟩
theorem sc_1 {K : PySem.W.Frag} {B H : Hp} {d : D} {v : V} (h : scV d = some v) : hold1 K B H d v := by
  cases d <;> simp only [scV, reduceCtorEq] at h <;> simpa only [hold1, scV] using h
/-- the heap, but for f and the tables -/
noncomputable def vis (H : Hp) (f : Addr → Prop) : Hp := fun a => by
  classical exact if f a then none else match H a with
  | some (.tbl _) => none
  | o => o
theorem vis_some {H : Hp} {f : Addr → Prop} {a : Addr} {o : HO} (h : vis H f a = some o) : ¬ f a ∧ H a = some o ∧ NoTab o := by
  unfold vis at h
  split at h
  · cases h
  · rename_i nf
    refine ⟨nf, ?_⟩
    split at h
    · cases h
    · rename_i hn
      refine ⟨h, fun ps z => ?_⟩
      subst z
      exact hn ps h
theorem vis_of {H : Hp} {f : Addr → Prop} {a : Addr} {o : HO} (h : H a = some o) (n : NoTab o) (nf : ¬ f a) : vis H f a = some o := by
  unfold vis
  rw [if_neg nf, h]
  split
  · rename_i ps z; cases z; exact absurd rfl (n ps)
  · rfl
theorem vis_sub {H : Hp} {f : Addr → Prop} : Sub (vis H f) H := fun _ _ h => (vis_some h).2
theorem vis_none {H : Hp} {f : Addr → Prop} {a : Addr} (h : H a = none) : vis H f a = none := by
  cases e : vis H f a with
  | none => rfl
  | some o => rw [(vis_some e).2.1] at h; cases h
theorem vis_ext {H : Hp} : Ext H (vis H fun _ => False) := .of fun _ _ e n => vis_of e n (fun z => z)
end TW

/-! ## the operations' readings -/
namespace TW
open PySem L2
/-- what a law's defs lean on -/
structure Ctx where
  K : PySem.W.Frag
  T : List NdefX.NTab
  cls : Nat → Addr
  Φ : Nat → FnSem
def CMulX (i j : Int) : Prop := IntMulOk i j
theorem mulOk_ok {i j : Int} (h : mulOk i j = true) : CMulX i j := by
  have b : ∀ x : Int, Builtin.Int.intBits x ≤ x.natAbs.log2 + 1 := fun x => by
    unfold Builtin.Int.intBits
    split <;> omega
  have h1 := b i
  have h2 := b j
  have h3 : i.natAbs.log2 + j.natAbs.log2 < 50000000 := of_decide_eq_true h
  have e : bitsLine = 134217728 := by decide
  unfold CMulX IntMulOk
  intro z
  rw [Bool.and_eq_true] at z
  have z2 := z.2
  unfold Builtin.Int.intTooBig at z2
  have z3 := of_decide_eq_true z2
  rw [e] at z3
  omega
theorem op_mulX {X : Cx} : OpR X (binaryOp .Mult) (rI CMulX fun i j => .int (i * j)) := opI fun _ _ _ _ _ _ _ hc q => PyProof.Rows.mul_int q hc
/-- len of anything -/
def rLenA (K : PySem.W.Frag) : List V → Hp → VK → Prop := fun xs H Q =>
  (∃ p ys, xs = [.ref p] ∧ (SqL K H p ys ∨ SqT K H p ys) ∧ Q (.int ys.length) H) ∨ (∃ z, xs = [.str z] ∧ z.length ≤ sizeLine ∧ Q (.int z.length) H) ∨ ∃ a kvs, xs = [V.ref a] ∧ Rd H a (.dK kvs) ∧ Q (.int kvs.length) H
theorem call_lenR {X : Cx} : CallR X (.builtin "len") (fun xs H Q => ∃ a kvs, xs = [V.ref a] ∧ Rd H a (.dK kvs) ∧ Q (.int kvs.length) H) := by
  intro pins s σ H xs us Q I r h
  obtain ⟨a, kvs, rfl, ha, q⟩ := h
  obtain ⟨u, rfl, ru⟩ := vals1 r
  cases ru
  exact d_len I ha fun t s' I' => ⟨.int kvs.length, H, I', ⟨t, rfl⟩, q⟩
theorem call_lenA {X : Cx} : CallR X (.builtin "len") (rLenA X.K) := call_len_seq.or (call_len_str.or call_lenR)
/-- sorted(set(xs)), len(set(xs)) of ints, len(set(bs)) of truths -/
def rSortSet (K : PySem.W.Frag) : V → Hp → VK → Prop := fun x H Q => ∃ (a : Addr) (ns : List Int), x = .ref a ∧ SqL K H a (ns.map V.int) ∧ ns.length < lim ∧ ∀ p, H p = none → Q (.ref p) (upd H p (.lst ((isort (dedup ns)).map V.int)))
def rLenSet (K : PySem.W.Frag) : V → Hp → VK → Prop := fun x H Q => ∃ (a : Addr) (ns : List Int), x = .ref a ∧ SqL K H a (ns.map V.int) ∧ ns.length < 4000 ∧ Q (.int (dedup ns).length) H
def rLenSetB (K : PySem.W.Frag) : V → Hp → VK → Prop := fun x H Q => ∃ (a : Addr) (bs : List Bool), x = .ref a ∧ SqL K H a (bs.map V.bl) ∧ Q (.int (bit (bs.contains true) + bit (bs.contains false))) H
/-- isinstance(x, T) -/
def isT (K : PySem.W.Frag) (T : String) : V → Hp → VK → Prop := fun x H Q => ∃ t, TyX K H x (.type t) ∧ t ∈ ["NoneType", "bool", "int", "str", "list", "tuple", "dict"] ∧ Q (.bl (t == T || (t == "bool" && T == "int"))) H
def rMaxD (K : PySem.W.Frag) : R2 := fun x y H Q => ∃ (a : Addr) (ns : List Int) (d : Int), x = .ref a ∧ y = .int d ∧ SqL K H a (ns.map V.int) ∧ Q (.int (match ns with | [] => d | m :: r => maxI m r)) H
def rMinD (K : PySem.W.Frag) : R2 := fun x y H Q => ∃ (a : Addr) (ns : List Int) (d : Int), x = .ref a ∧ y = .int d ∧ SqL K H a (ns.map V.int) ∧ Q (.int (match ns with | [] => d | m :: r => minI m r)) H
def r1 (K : PySem.W.Frag) : Op1 → V → Hp → VK → Prop
  | .len, x, H, Q => rLenA K [x] H Q
  | .neg, x, H, Q => rU (fun i => .int (-i)) x H Q
  | .toInt, x, H, Q => (∃ i, [x] = [V.int i] ∧ Q (.int i) H) ∨ ∃ k, [x] = [V.bl k] ∧ Q (.int (if k then 1 else 0)) H
  | .abs, x, H, Q => ∃ i, [x] = [V.int i] ∧ Q (.int (if i < 0 then -i else i)) H
  | .sumL, x, H, Q => rSum K [x] H Q
  | .maxL, x, H, Q => rMax K [x] H Q
  | .minL, x, H, Q => rMin K [x] H Q
  | .sortL, x, H, Q => rSortedI K [x] H Q
  | .sortSet, x, H, Q => rSortSet K x H Q
  | .lenSet, x, H, Q => rLenSet K x H Q
  | .lenSetB, x, H, Q => rLenSetB K x H Q
  | .allL, x, H, Q => rAll K [x] H Q
  | .anyL, x, H, Q => rAny K [x] H Q
  | .listL, x, H, Q => ∃ p ys, [x] = [V.ref p] ∧ (SqL K H p ys ∨ SqT K H p ys) ∧ ∀ l, H l = none → Q (.ref l) (upd H l (.lst ys))
  | .listK, x, H, Q => rListD [x] H Q
  | .sortK, x, H, Q => ∃ (a : Addr) (kvs : List (Key × V)) (ks : List Int), [x] = [V.ref a] ∧ Rd H a (.dK kvs) ∧ kvs.map (·.1) = ks.map Sum.inl ∧ ks.length < 64 ∧ ∀ (ys : List Int) (p : Addr), ys.Perm ks → ys.Pairwise (· ≤ ·) → H p = none → Q (.ref p) (upd H p (.lst (ys.map V.int)))
  | .revL, x, H, Q => ∃ a xs, x = V.ref a ∧ SqL K H a xs ∧ ∀ p, H p = none → Q (.ref p) (upd H p (.lst xs.reverse))
  | .isN, x, H, Q => Q (.bl (decide (x = .non))) H
  | .notN, x, H, Q => Q (.bl (!decide (x = .non))) H
  | .sc, x, H, Q => Q x H
  | .scl, x, H, Q => Q x H
  | .opq, x, H, Q => Q x H
  | .rngL, x, H, Q => ∃ n, x = V.int n ∧ RgOk 0 n ∧ ∀ q, H q = none → Q (.ref q) (upd H q (.lst (rgV 0 n)))
  | .isInt, x, H, Q => isT K "int" x H Q
  | .isBool, x, H, Q => isT K "bool" x H Q
  | .isList, x, H, Q => isT K "list" x H Q
  | .isStr, x, H, Q => isT K "str" x H Q
def r2 (K : PySem.W.Frag) : Op2 → R2
  | .addI => rI0 fun i j => .int (i + j)
  | .subI => rI0 fun i j => .int (i - j)
  | .mulI => rI CMulX fun i j => .int (i * j)
  | .fdiv => rI CDivW fun i j => .int (i / j)
  | .mod => rI (fun _ j => 0 < j) fun i j => .int (i % j)
  | .pow => rI CPow fun i j => .int (i ^ j.toNat)
  | .cat => rCat
  | .rep => rRep
  | .addS => fun x y H Q => ∃ i j, x = .str i ∧ y = .str j ∧ i.length + j.length ≤ sizeLine ∧ Q (.str (i ++ j)) H
  | .lt => rI0 fun i j => .bl (decide (i < j))
  | .le => rI0 fun i j => .bl (decide (i ≤ j))
  | .gt => rI0 fun i j => .bl (decide (j < i))
  | .ge => rI0 fun i j => .bl (decide (j ≤ i))
  | .eqI => rEq
  | .neI => rNe
  | .eqD => rEqD K
  | .neD => rNeD K
  | .inL | .inT => rIn K false
  | .ninL | .ninT => rIn K true
  | .inD => rInD K
  | .ninD => rNotInD K
  | .inK => fun y x H Q => ∃ a o, x = .ref a ∧ DGet H a y o ∧ Q (.bl o.isSome) H
  | .ninK => fun y x H Q => ∃ a o, x = .ref a ∧ DGet H a y o ∧ Q (.bl (!o.isSome)) H
  | .max2 => fun x y H Q => ∃ i j, [x, y] = [V.int i, V.int j] ∧ Q (.int (if j > i then j else i)) H
  | .min2 => fun x y H Q => ∃ i j, [x, y] = [V.int i, V.int j] ∧ Q (.int (if j < i then j else i)) H
  | .maxD => rMaxD K
  | .minD => rMinD K
  | .subL => rIxL K
  | .subT => rIxT K
  | .subK | .subP => fun x y H Q => ∃ a v, x = .ref a ∧ DGet H a y (some v) ∧ Q v H
  | .subS => rIxS
  | .slcLo => fun x y H Q => ∃ i, y = .int i ∧ rSlL K x (some i) none H Q
  | .slcHi => fun x y H Q => ∃ i, y = .int i ∧ rSlL K x none (some i) H Q
  | .idx => fun x y H Q => rIndex K x [y] H Q
  | .cnt => fun x y H Q => rCntI K x [y] H Q
  | .cntB => fun _ _ _ _ => False
/-! ### small facts -/
theorem ints_some : ∀ {ds : List D} {ns : List Int}, ints? ds = some ns → ds = ns.map D.int
  | [], ns, h => by simp only [ints?, Option.some.injEq] at h; subst h; rfl
  | d :: r, ns, h => by
    cases d <;> simp only [ints?, reduceCtorEq, Option.map_eq_some_iff] at h
    obtain ⟨m, h1, rfl⟩ := h
    rw [ints_some h1]; rfl
theorem bools_some : ∀ {ds : List D} {ns : List Bool}, bools? ds = some ns → ds = ns.map D.bl
  | [], ns, h => by simp only [bools?, Option.some.injEq] at h; subst h; rfl
  | d :: r, ns, h => by
    cases d <;> simp only [bools?, reduceCtorEq, Option.map_eq_some_iff] at h
    obtain ⟨m, h1, rfl⟩ := h
    rw [bools_some h1]; rfl
theorem bools_holds {K : PySem.W.Frag} {B : Hp} : ∀ {ns : List Bool} {xs : List V}, holds K B (ns.map D.bl) xs → xs = ns.map V.bl
  | [], _, h => by simp only [List.map_nil, holds] at h; exact h
  | n :: ns, _, h => by
    simp only [List.map_cons, holds, hold] at h
    obtain ⟨x, r, e1, e2, e3⟩ := h
    subst e1; subst e2
    rw [bools_holds e3]; rfl
theorem maxI_spec : ∀ (r : List Int) (m : Int), maxI m r ∈ m :: r ∧ ∀ y ∈ m :: r, y ≤ maxI m r
  | [], m => ⟨List.mem_cons_self, fun y h => by simp only [List.mem_singleton] at h; rw [h]; exact Int.le_refl _⟩
  | x :: r, m => by
    simp only [maxI]
    obtain ⟨h1, h2⟩ := maxI_spec r (if m < x then x else m)
    have hm : (if m < x then x else m) = m ∨ (if m < x then x else m) = x := by split <;> simp
    refine ⟨?_, fun y hy => ?_⟩
    · rcases List.mem_cons.mp h1 with e | e
      · rcases hm with q | q <;> rw [e, q] <;> simp
      · exact List.mem_cons_of_mem _ (List.mem_cons_of_mem _ e)
    · have g := h2 (if m < x then x else m) List.mem_cons_self
      rcases List.mem_cons.mp hy with e | e
      · subst e; revert g; split <;> intro g <;> omega
      · rcases List.mem_cons.mp e with e | e
        · subst e; revert g; split <;> intro g <;> omega
        · exact h2 y (List.mem_cons_of_mem _ e)
theorem minI_spec : ∀ (r : List Int) (m : Int), minI m r ∈ m :: r ∧ ∀ y ∈ m :: r, minI m r ≤ y
  | [], m => ⟨List.mem_cons_self, fun y h => by simp only [List.mem_singleton] at h; rw [h]; exact Int.le_refl _⟩
  | x :: r, m => by
    simp only [minI]
    obtain ⟨h1, h2⟩ := minI_spec r (if x < m then x else m)
    have hm : (if x < m then x else m) = m ∨ (if x < m then x else m) = x := by split <;> simp
    refine ⟨?_, fun y hy => ?_⟩
    · rcases List.mem_cons.mp h1 with e | e
      · rcases hm with q | q <;> rw [e, q] <;> simp
      · exact List.mem_cons_of_mem _ (List.mem_cons_of_mem _ e)
    · have g := h2 (if x < m then x else m) List.mem_cons_self
      rcases List.mem_cons.mp hy with e | e
      · subst e; revert g; split <;> intro g <;> omega
      · rcases List.mem_cons.mp e with e | e
        · subst e; revert g; split <;> intro g <;> omega
        · exact h2 y (List.mem_cons_of_mem _ e)
theorem ins_perm (x : Int) : ∀ l : List Int, (ins x l).Perm (x :: l)
  | [] => .refl _
  | y :: r => by
    unfold ins
    split
    · exact .refl _
    · exact ((ins_perm x r).cons y).trans (.swap x y r)
theorem isort_perm : ∀ l : List Int, (isort l).Perm l
  | [] => .refl _
  | x :: r => (ins_perm x _).trans ((isort_perm r).cons x)
theorem ins_sorted (x : Int) : ∀ {l : List Int}, l.Pairwise (· ≤ ·) → (ins x l).Pairwise (· ≤ ·)
  | [], _ => by simp [ins]
  | y :: r, h => by
    rw [List.pairwise_cons] at h
    unfold ins
    split
    · rename_i c
      rw [List.pairwise_cons]
      refine ⟨fun z hz => ?_, List.pairwise_cons.mpr h⟩
      rcases List.mem_cons.mp hz with e | e
      · rw [e]; exact c
      · exact Int.le_trans c (h.1 z e)
    · rename_i c
      rw [List.pairwise_cons]
      refine ⟨fun z hz => ?_, ins_sorted x h.2⟩
      rcases List.mem_cons.mp ((ins_perm x r).mem_iff.mp hz) with e | e
      · rw [e]; omega
      · exact h.1 z e
theorem isort_sorted : ∀ l : List Int, (isort l).Pairwise (· ≤ ·)
  | [] => List.Pairwise.nil
  | x :: r => ins_sorted x (isort_sorted r)
theorem sorted_eq : ∀ {l m : List Int}, l.Perm m → l.Pairwise (· ≤ ·) → m.Pairwise (· ≤ ·) → l = m
  | [], m, p, _, _ => p.nil_eq
  | x :: l, [], p, _, _ => p.eq_nil
  | x :: l, y :: m, p, h, g => by
    rw [List.pairwise_cons] at h g
    have e : x = y := by
      have h1 : x ≤ y := by
        rcases List.mem_cons.mp (p.mem_iff.mpr (List.mem_cons_self (a := y) (l := m))) with e | e
        · rw [e]; exact Int.le_refl _
        · exact h.1 y e
      have h2 : y ≤ x := by
        rcases List.mem_cons.mp (p.mem_iff.mp (List.mem_cons_self (a := x) (l := l))) with e | e
        · rw [e]; exact Int.le_refl _
        · exact g.1 x e
      omega
    subst e
    rw [sorted_eq (p.cons_inv) h.2 g.2]
theorem isort_of {l m : List Int} (p : m.Perm l) (h : m.Pairwise (· ≤ ·)) : m = isort l := sorted_eq (p.trans (isort_perm l).symm) h (isort_sorted l)
theorem ixAt_eq (n : Nat) (i : Int) : ixAt n i = ixN n i := rfl
theorem nth_eq {α : Type} (xs : List α) (i : Int) : nth xs i = atI xs i := rfl
theorem clip_le (n d : Nat) (hd : d ≤ n) (o : Option Int) : clip n d o = HT.sIx n d o := by
  cases o with
  | none => rfl
  | some i =>
    unfold clip HT.sIx
    first
    | rfl
    | (split <;> rename_i h <;> simp only [h, if_true, if_false, ite_true, ite_false] <;> omega)
    | (split <;> omega)
end TW

/-! ## each operation's reading holds where it is reckoned -/
namespace TW
open PySem L2
inductive Cl where
  | sc | new | fresh | kid | same
  deriving DecidableEq
def Op1.cl : Op1 → Cl
  | .listL | .revL => .new
  | .listK | .sortK | .sortL | .sortSet | .rngL => .fresh
  | .sc | .scl | .opq => .same
  | _ => .sc
def Op2.cl : Op2 → Cl
  | .cat | .rep | .slcLo | .slcHi => .new
  | .subL | .subT | .subK | .subP => .kid
  | _ => .sc
theorem szl {n : Nat} (h : n ≤ lim) : n ≤ sizeLine := Nat.le_trans h (by decide)
theorem okA_some {d x : D} {b : Bool} (h : okA d b = .ok x) : d ≠ .any ∧ x = .bl b := by
  cases d <;> simp only [okA, okB, Res.ok.injEq, reduceCtorEq] at h <;> exact ⟨by simp, h.symm⟩
theorem dec_none {d : D} {v : V} {K : PySem.W.Frag} {B H : Hp} (hn : d ≠ .any) (h : hold1 K B H d v) : decide (v = .non) = d.isNon := by
  cases d <;> simp only [hold1, scV, Option.some.injEq] at h
  case any => exact absurd rfl hn
  case non | bl | int | str => subst h; rfl
  case lst | tup | dic | dct => obtain ⟨p, _, rfl, _⟩ := h; rfl
  case scr => obtain ⟨p, rfl, _⟩ := h; rfl
theorem scr_ty {K : PySem.W.Frag} {H : Hp} {p : Addr} {xs : List V} (h : SqL K H p xs) : TyX K H (.ref p) (.type "list") := by
  rcases h with (h | ⟨o, h⟩) | ⟨o, its, n, h, c, _⟩
  · exact .base (.lst h)
  · exact .base (.frz h)
  · exact .kList h c
def tyD : D → String
  | .non => "NoneType" | .bl _ => "bool" | .int _ => "int" | .str _ => "str" | .lst _ => "list" | .tup _ => "tuple" | .dic _ => "dict" | .dct _ => "dict" | .scr _ => "list" | .any => ""
theorem ty_of {K : PySem.W.Frag} {B H : Hp} {d : D} {v : V} (hn : d ≠ .any) (h : hold1 K B H d v) : TyX K H v (.type (tyD d)) := by
  cases d <;> simp only [hold1, scV, Option.some.injEq] at h
  case any => exact absurd rfl hn
  case non => subst h; exact .base .non
  case bl => subst h; exact .base (.bl _)
  case int => subst h; exact .base (.int _)
  case str => subst h; exact .base (.str _)
  case lst => obtain ⟨p, _, rfl, e, _⟩ := h; exact .base (.lst e)
  case tup => obtain ⟨p, _, rfl, e, _⟩ := h; exact .base (.tup e)
  case dic =>
    obtain ⟨p, _, rfl, e, _⟩ := h
    rcases e with e | ⟨o, e⟩
    · exact .base (.dK e)
    · exact .fDict e
  case dct => obtain ⟨p, _, rfl, e, _⟩ := h; exact .base (.dT e)
  case scr => obtain ⟨p, rfl, e⟩ := h; exact scr_ty e
theorem bool_bit (b : Bool) : (if b then (1 : Int) else 0) = bit b := rfl
/-- the list that a value is -/
theorem lst_at {K : PySem.W.Frag} {B H : Hp} {ds : List D} {v : V} (h : hold1 K B H (.lst ds) v) : ∃ p xs, v = .ref p ∧ H p = some (.lst xs) ∧ holds K B ds xs := h
theorem lst_ints {K : PySem.W.Frag} {B H : Hp} {ds : List D} {ns : List Int} {v : V} (h : hold1 K B H (.lst ds) v) (e : ints? ds = some ns) : ∃ p, v = .ref p ∧ SqL K H p (ns.map V.int) := by
  obtain ⟨p, xs, rfl, e2, e3⟩ := h
  rw [ints_some e] at e3
  rw [ints_holds e3] at e2
  exact ⟨p, rfl, .of e2⟩
theorem lst_bools {K : PySem.W.Frag} {B H : Hp} {ds : List D} {ns : List Bool} {v : V} (h : hold1 K B H (.lst ds) v) (e : bools? ds = some ns) : ∃ p, v = .ref p ∧ SqL K H p (ns.map V.bl) := by
  obtain ⟨p, xs, rfl, e2, e3⟩ := h
  rw [bools_some e] at e3
  rw [bools_holds e3] at e2
  exact ⟨p, rfl, .of e2⟩
theorem holdK_length {K : PySem.W.Frag} {B : Hp} : ∀ {ks : List (Int × D)} {kvs : List (Key × V)}, holdK K B ks kvs → ks.length = kvs.length
  | [], _, h => by simp only [holdK] at h; subst h; rfl
  | (i, d) :: ks, _, h => by
    simp only [holdK] at h
    obtain ⟨x, r, rfl, _, e3⟩ := h
    simp only [List.length_cons, holdK_length e3]
theorem max_eq {ns : List Int} {m x : Int} {r : List Int} (hm : x ∈ m :: r) (h : ∀ y ∈ m :: r, y ≤ x) : x = maxI m r := by
  obtain ⟨h1, h2⟩ := maxI_spec r m
  have := h2 x hm
  have := h _ h1
  omega
theorem min_eq {ns : List Int} {m x : Int} {r : List Int} (hm : x ∈ m :: r) (h : ∀ y ∈ m :: r, x ≤ y) : x = minI m r := by
  obtain ⟨h1, h2⟩ := minI_spec r m
  have := h2 x hm
  have := h _ h1
  omega
section
variable {K : PySem.W.Frag} {B H : Hp}
theorem op1_sc {o : Op1} {d x : D} {v : V} (hc : o.cl = .sc) (hr : o.run d = .ok x) (h : hold1 K B H d v) : ∃ w, scV x = some w ∧ ∀ Q : VK, Q w H → r1 K o v H Q := by
  cases o <;> simp only [Op1.cl, reduceCtorEq] at hc
  case len =>
    cases d <;> simp only [Op1.run, reduceCtorEq, okI, Res.ok.injEq] at hr
    case lst ds =>
      subst hr
      obtain ⟨p, xs, rfl, e2, e3⟩ := h
      exact ⟨_, rfl, fun Q q => .inl ⟨p, xs, rfl, .inl (.of e2), by rw [← holds_length e3]; exact q⟩⟩
    case tup ds =>
      subst hr
      obtain ⟨p, xs, rfl, e2, e3⟩ := h
      exact ⟨_, rfl, fun Q q => .inl ⟨p, xs, rfl, .inr (.of e2), by rw [← holds_length e3]; exact q⟩⟩
    case dic ks =>
      subst hr
      obtain ⟨p, kvs, rfl, e2, e3⟩ := h
      exact ⟨_, rfl, fun Q q => .inr (.inr ⟨p, kvs, rfl, e2, by rw [← holdK_length e3]; exact q⟩)⟩
    case scr ns =>
      subst hr
      obtain ⟨p, rfl, e2⟩ := h
      exact ⟨_, rfl, fun Q q => .inl ⟨p, _, rfl, .inl e2, by rw [List.length_map]; exact q⟩⟩
    case str s =>
      split at hr
      · rename_i hl
        injection hr with hr
        subst hr
        simp only [hold1, scV, Option.some.injEq] at h
        subst h
        exact ⟨_, rfl, fun Q q => .inr (.inl ⟨s, rfl, szl hl, q⟩)⟩
      · cases hr
  case neg =>
    cases d <;> simp only [Op1.run, reduceCtorEq, okI, Res.ok.injEq] at hr
    subst hr
    simp only [hold1, scV, Option.some.injEq] at h
    exact ⟨_, rfl, fun Q q => ⟨_, h.symm, q⟩⟩
  case toInt =>
    cases d <;> simp only [Op1.run, reduceCtorEq, okI, Res.ok.injEq] at hr
    case bl b =>
      subst hr
      simp only [hold1, scV, Option.some.injEq] at h
      subst h
      exact ⟨_, rfl, fun Q q => .inr ⟨b, rfl, q⟩⟩
    case int i =>
      subst hr
      simp only [hold1, scV, Option.some.injEq] at h
      subst h
      exact ⟨_, rfl, fun Q q => .inl ⟨i, rfl, q⟩⟩
  case abs =>
    cases d <;> simp only [Op1.run, reduceCtorEq, okI, Res.ok.injEq] at hr
    subst hr
    simp only [hold1, scV, Option.some.injEq] at h
    subst h
    exact ⟨_, rfl, fun Q q => ⟨_, rfl, q⟩⟩
  case sumL =>
    cases d <;> simp only [Op1.run, reduceCtorEq] at hr
    split at hr <;> simp only [reduceCtorEq, okI, Res.ok.injEq] at hr
    rename_i ns e
    subst hr
    obtain ⟨p, rfl, e2⟩ := lst_ints h e
    exact ⟨_, rfl, fun Q q => ⟨p, ns, rfl, e2, q⟩⟩
  case maxL =>
    cases d <;> simp only [Op1.run, reduceCtorEq] at hr
    split at hr <;> simp only [reduceCtorEq, okI, Res.ok.injEq] at hr
    rename_i m r e
    subst hr
    obtain ⟨p, rfl, e2⟩ := lst_ints h e
    exact ⟨_, rfl, fun Q q => ⟨p, m :: r, rfl, e2, Nat.succ_pos _, fun x hx hy => by rw [max_eq (ns := []) hx hy]; exact q⟩⟩
  case minL =>
    cases d <;> simp only [Op1.run, reduceCtorEq] at hr
    split at hr <;> simp only [reduceCtorEq, okI, Res.ok.injEq] at hr
    rename_i m r e
    subst hr
    obtain ⟨p, rfl, e2⟩ := lst_ints h e
    exact ⟨_, rfl, fun Q q => ⟨p, m :: r, rfl, e2, Nat.succ_pos _, fun x hx hy => by rw [min_eq (ns := []) hx hy]; exact q⟩⟩
  case lenSet =>
    cases d <;> simp only [Op1.run, reduceCtorEq] at hr
    split at hr <;> try (simp only [reduceCtorEq] at hr)
    rename_i ns e
    split at hr <;> simp only [reduceCtorEq, okI, Res.ok.injEq] at hr
    rename_i hl
    subst hr
    obtain ⟨p, rfl, e2⟩ := lst_ints h e
    exact ⟨_, rfl, fun Q q => ⟨p, ns, rfl, e2, hl, q⟩⟩
  case lenSetB =>
    cases d <;> simp only [Op1.run, reduceCtorEq] at hr
    split at hr <;> simp only [reduceCtorEq, okI, Res.ok.injEq] at hr
    rename_i ns e
    subst hr
    obtain ⟨p, rfl, e2⟩ := lst_bools h e
    exact ⟨_, rfl, fun Q q => ⟨p, ns, rfl, e2, q⟩⟩
  case allL =>
    cases d <;> simp only [Op1.run, reduceCtorEq] at hr
    split at hr <;> simp only [reduceCtorEq, okB, Res.ok.injEq] at hr
    rename_i ns e
    subst hr
    obtain ⟨p, rfl, e2⟩ := lst_bools h e
    exact ⟨_, rfl, fun Q q => ⟨p, ns, rfl, e2, q⟩⟩
  case anyL =>
    cases d <;> simp only [Op1.run, reduceCtorEq] at hr
    split at hr <;> simp only [reduceCtorEq, okB, Res.ok.injEq] at hr
    rename_i ns e
    subst hr
    obtain ⟨p, rfl, e2⟩ := lst_bools h e
    exact ⟨_, rfl, fun Q q => ⟨p, ns, rfl, e2, q⟩⟩
  case isN =>
    simp only [Op1.run] at hr
    obtain ⟨hn, rfl⟩ := okA_some hr
    refine ⟨_, rfl, fun Q q => ?_⟩
    show Q (.bl (decide (v = .non))) H
    rw [dec_none hn h]; exact q
  case notN =>
    simp only [Op1.run] at hr
    obtain ⟨hn, rfl⟩ := okA_some hr
    refine ⟨_, rfl, fun Q q => ?_⟩
    show Q (.bl (!decide (v = .non))) H
    rw [dec_none hn h]; exact q
  all_goals
    simp only [Op1.run] at hr
    obtain ⟨hn, rfl⟩ := okA_some hr
    have ht := ty_of hn h
    refine ⟨_, rfl, fun Q q => ⟨tyD d, ht, by cases d <;> first | exact absurd rfl hn | simp [tyD], ?_⟩⟩
    cases d <;> first | exact absurd rfl hn | exact q
theorem new_lst {o : Op1} {d x : D} {v : V} (hc : o.cl = .new) (hr : o.run d = .ok x) (h : hold1 K B H d v) : ∃ ds xs, x = .lst ds ∧ holds K B ds xs ∧ ∀ Q : VK, (∀ p, H p = none → Q (.ref p) (upd H p (.lst xs))) → r1 K o v H Q := by
  cases o <;> simp only [Op1.cl, reduceCtorEq] at hc
  case listL =>
    cases d <;> simp only [Op1.run, reduceCtorEq, Res.ok.injEq] at hr <;> subst hr
    case lst ds =>
      obtain ⟨p, xs, rfl, e2, e3⟩ := h
      exact ⟨ds, xs, rfl, e3, fun Q q => ⟨p, xs, rfl, .inl (.of e2), q⟩⟩
    case tup ds =>
      obtain ⟨p, xs, rfl, e2, e3⟩ := h
      exact ⟨ds, xs, rfl, e3, fun Q q => ⟨p, xs, rfl, .inr (.of e2), q⟩⟩
  case revL =>
    cases d <;> simp only [Op1.run, reduceCtorEq, Res.ok.injEq] at hr <;> subst hr
    case lst ds =>
      obtain ⟨p, xs, rfl, e2, e3⟩ := h
      exact ⟨ds.reverse, xs.reverse, rfl, holds_reverse e3, fun Q q => ⟨p, xs, rfl, .of e2, q⟩⟩
theorem rng_map (n : Int) : ((rng 0 n 1).map D.int) = (List.range n.toNat).map fun i => D.int (0 + (i : Nat)) := by
  unfold rng
  rw [if_pos (by decide), List.map_map]
  have e : ((n - 0 + 1 - 1) / 1).toNat = n.toNat := by rw [Int.ediv_one]; congr 1; omega
  rw [e]
  exact List.map_congr_left fun i _ => by simp
theorem holdK_keys : ∀ {ks : List (Int × D)} {kvs : List (Key × V)}, holdK K B ks kvs → (kvs.map fun kv => L2.kV kv.1) = (ks.map fun k => V.int k.1)
  | [], _, h => by simp only [holdK] at h; subst h; rfl
  | (i, d) :: ks, _, h => by
    simp only [holdK] at h
    obtain ⟨x, r, rfl, _, e3⟩ := h
    simp only [List.map_cons, holdK_keys e3]; rfl
theorem holdK_fst : ∀ {ks : List (Int × D)} {kvs : List (Key × V)}, holdK K B ks kvs → kvs.map (·.1) = ks.map fun k => Sum.inl k.1
  | [], _, h => by simp only [holdK] at h; subst h; rfl
  | (i, d) :: ks, _, h => by
    simp only [holdK] at h
    obtain ⟨x, r, rfl, _, e3⟩ := h
    simp only [List.map_cons, holdK_fst e3]
/-- a new list of scalars -/
theorem fresh_lst {o : Op1} {d x : D} {v : V} (hc : o.cl = .fresh) (hr : o.run d = .ok x) (h : hold1 K B H d v) (hd : o.onK = true → ∀ ks, d = .dic ks → ∃ p kvs, v = .ref p ∧ H p = some (.dK kvs) ∧ holdK K B ks kvs) :
    ∃ ns : List Int, x = .lst (ns.map D.int) ∧ ∀ Q : VK, (∀ p, H p = none → Q (.ref p) (upd H p (.lst (ns.map V.int)))) → r1 K o v H Q := by
  cases o <;> simp only [Op1.cl, reduceCtorEq] at hc
  case sortL =>
    cases d <;> simp only [Op1.run, reduceCtorEq] at hr
    split at hr <;> simp only [reduceCtorEq, Res.ok.injEq] at hr
    rename_i ns e
    subst hr
    obtain ⟨p, rfl, e2⟩ := lst_ints h e
    exact ⟨isort ns, rfl, fun Q q => ⟨p, ns, rfl, e2, fun ns' a hp hs ha => by rw [isort_of hp hs]; exact q a ha⟩⟩
  case sortSet =>
    cases d <;> simp only [Op1.run, reduceCtorEq] at hr
    split at hr <;> try (simp only [reduceCtorEq] at hr)
    rename_i ns e
    split at hr <;> simp only [reduceCtorEq, Res.ok.injEq] at hr
    rename_i hl
    subst hr
    obtain ⟨p, rfl, e2⟩ := lst_ints h e
    exact ⟨isort (dedup ns), rfl, fun Q q => ⟨p, ns, rfl, e2, hl, q⟩⟩
  case listK =>
    cases d <;> simp only [Op1.run, reduceCtorEq, Res.ok.injEq] at hr
    rename_i ks
    subst hr
    obtain ⟨p, kvs, rfl, e2, e3⟩ := hd rfl ks rfl
    refine ⟨ks.map (·.1), by rw [List.map_map]; rfl, fun Q q => ⟨p, kvs, rfl, e2, fun a ha => ?_⟩⟩
    rw [holdK_keys e3]
    have := q a ha
    rw [List.map_map] at this
    exact this
  case sortK =>
    cases d <;> simp only [Op1.run, reduceCtorEq] at hr
    split at hr <;> simp only [reduceCtorEq, Res.ok.injEq] at hr
    rename_i ks hl
    subst hr
    obtain ⟨p, kvs, rfl, e2, e3⟩ := hd rfl ks rfl
    refine ⟨isort (ks.map (·.1)), rfl, fun Q q => ⟨p, kvs, ks.map (·.1), rfl, .inl e2, ?_, by simpa using hl, fun ys a hp hs ha => by rw [isort_of hp hs]; exact q a ha⟩⟩
    rw [List.map_map]; exact holdK_fst e3
  case rngL =>
    cases d <;> simp only [Op1.run, reduceCtorEq] at hr
    split at hr <;> simp only [reduceCtorEq, Res.ok.injEq] at hr
    rename_i n hn
    subst hr
    simp only [hold1, scV, Option.some.injEq] at h
    subst h
    have hb : -4611686018427387904 ≤ n := hn.2
    have hl : n ≤ ((100000 : Nat) : Int) := hn.1
    refine ⟨rng 0 n 1, rfl, fun Q q => ⟨n, rfl, ⟨by decide, by decide, by omega, by omega, by omega⟩, fun a ha => ?_⟩⟩
    have := q a ha
    have e : rgV 0 n = (rng 0 n 1).map V.int := by
      unfold rng rgV
      rw [if_pos (by decide), List.map_map]
      have e : ((n - 0 + 1 - 1) / 1).toNat = (n - 0).toNat := by rw [Int.ediv_one]; congr 1; omega
      rw [e]
      exact List.map_congr_left fun i _ => by simp
    rw [e]; exact this
/-! ### two operands -/
theorem hold_self {d : D} {v : V} (h : hold K H d v) : hold1 K H H d v := by
  cases d <;> simp only [hold] at h <;> simp only [hold1, scV]
  case non | bl | int | str => rw [h]
  all_goals exact h
mutual
def toPy : D → PyData
  | .non => .none | .bl b => .bool b | .int i => .int i | .str s => .str s
  | .lst ds => .list (toPys ds) | .tup ds => .tuple (toPys ds)
  | .dic _ | .dct _ | .scr _ | .any => .none
def toPys : List D → List PyData
  | [] => []
  | d :: r => toPy d :: toPys r
end
mutual
theorem dp_of : ∀ (n : Nat) (d : D) (v : V), d.eqable n = true → hold K H d v → Dp K H v (toPy d)
  | _, .non, _, _, h => by simp only [hold] at h; subst h; exact .non
  | _, .bl _, _, _, h => by simp only [hold] at h; subst h; exact .bl _
  | _, .int _, _, _, h => by simp only [hold] at h; subst h; exact .int _
  | _, .str _, _, _, h => by simp only [hold] at h; subst h; exact .str _
  | n + 1, .lst ds, _, e, h => by
    simp only [hold] at h
    obtain ⟨p, xs, rfl, e2, e3⟩ := h
    exact .lst (.of e2) (dps_of n ds xs (by simpa only [D.eqable] using e) e3)
  | n + 1, .tup ds, _, e, h => by
    simp only [hold] at h
    obtain ⟨p, xs, rfl, e2, e3⟩ := h
    exact .tup (.of e2) (dps_of n ds xs (by simpa only [D.eqable] using e) e3)
  | 0, .lst _, _, e, _ | 0, .tup _, _, e, _ | 0, .dic _, _, e, _ | 0, .dct _, _, e, _ | 0, .scr _, _, e, _ | 0, .any, _, e, _ => by simp [D.eqable] at e
  | n + 1, .dic _, _, e, _ | n + 1, .dct _, _, e, _ | n + 1, .scr _, _, e, _ | n + 1, .any, _, e, _ => by simp [D.eqable] at e
theorem dps_of : ∀ (n : Nat) (ds : List D) (xs : List V), D.eqables n ds = true → holds K H ds xs → DpAll K H xs (toPys ds)
  | _, [], _, _, h => by simp only [holds] at h; subst h; exact .nil
  | n, d :: ds, _, e, h => by
    simp only [holds] at h
    obtain ⟨x, r, rfl, e2, e3⟩ := h
    have e' : d.eqable n = true ∧ D.eqables n ds = true := by simpa only [D.eqables, Bool.and_eq_true] using e
    exact .cons (dp_of n d x e'.1 e2) (dps_of n ds r e'.2 e3)
end
mutual
theorem beq_eqv : ∀ (n : Nat) (a b : D), a.eqable n = true → b.eqable n = true → PyData.eqv (toPy a) (toPy b) = D.beq a b
  | n, .lst a, .lst b, h, g => by
    cases n with
    | zero => simp [D.eqable] at h
    | succ n => simp only [toPy, PyData.eqv, D.beq]; exact beq_eqvs n a b (by simpa only [D.eqable] using h) (by simpa only [D.eqable] using g)
  | n, .tup a, .tup b, h, g => by
    cases n with
    | zero => simp [D.eqable] at h
    | succ n => simp only [toPy, PyData.eqv, D.beq]; exact beq_eqvs n a b (by simpa only [D.eqable] using h) (by simpa only [D.eqable] using g)
  | n, .dic _, _, h, _ | n, .dct _, _, h, _ | n, .scr _, _, h, _ | n, .any, _, h, _ => by cases n <;> simp [D.eqable] at h
  | n, .non, .dic _, _, g | n, .non, .dct _, _, g | n, .non, .scr _, _, g | n, .non, .any, _, g => by cases n <;> simp [D.eqable] at g
  | n, .bl _, .dic _, _, g | n, .bl _, .dct _, _, g | n, .bl _, .scr _, _, g | n, .bl _, .any, _, g => by cases n <;> simp [D.eqable] at g
  | n, .int _, .dic _, _, g | n, .int _, .dct _, _, g | n, .int _, .scr _, _, g | n, .int _, .any, _, g => by cases n <;> simp [D.eqable] at g
  | n, .str _, .dic _, _, g | n, .str _, .dct _, _, g | n, .str _, .scr _, _, g | n, .str _, .any, _, g => by cases n <;> simp [D.eqable] at g
  | n, .lst _, .dic _, _, g | n, .lst _, .dct _, _, g | n, .lst _, .scr _, _, g | n, .lst _, .any, _, g => by cases n <;> simp [D.eqable] at g
  | n, .tup _, .dic _, _, g | n, .tup _, .dct _, _, g | n, .tup _, .scr _, _, g | n, .tup _, .any, _, g => by cases n <;> simp [D.eqable] at g
  | _, .non, .non, _, _ | _, .non, .bl _, _, _ | _, .non, .int _, _, _ | _, .non, .str _, _, _ | _, .non, .lst _, _, _ | _, .non, .tup _, _, _ => by simp only [toPy, PyData.eqv, D.beq]
  | _, .bl _, .non, _, _ | _, .bl _, .bl _, _, _ | _, .bl _, .int _, _, _ | _, .bl _, .str _, _, _ | _, .bl _, .lst _, _, _ | _, .bl _, .tup _, _, _ => by simp only [toPy, PyData.eqv, D.beq, bit]
  | _, .int _, .non, _, _ | _, .int _, .bl _, _, _ | _, .int _, .int _, _, _ | _, .int _, .str _, _, _ | _, .int _, .lst _, _, _ | _, .int _, .tup _, _, _ => by simp only [toPy, PyData.eqv, D.beq, bit]
  | _, .str _, .non, _, _ | _, .str _, .bl _, _, _ | _, .str _, .int _, _, _ | _, .str _, .str _, _, _ | _, .str _, .lst _, _, _ | _, .str _, .tup _, _, _ => by simp only [toPy, PyData.eqv, D.beq]
  | _, .lst _, .non, _, _ | _, .lst _, .bl _, _, _ | _, .lst _, .int _, _, _ | _, .lst _, .str _, _, _ | _, .lst _, .tup _, _, _ => by simp only [toPy, PyData.eqv, D.beq]
  | _, .tup _, .non, _, _ | _, .tup _, .bl _, _, _ | _, .tup _, .int _, _, _ | _, .tup _, .str _, _, _ | _, .tup _, .lst _, _, _ => by simp only [toPy, PyData.eqv, D.beq]
theorem beq_eqvs : ∀ (n : Nat) (a b : List D), D.eqables n a = true → D.eqables n b = true → PyData.eqvAll (toPys a) (toPys b) = D.beqs a b
  | _, [], [], _, _ | _, [], _ :: _, _, _ | _, _ :: _, [], _, _ => by simp only [toPys, PyData.eqvAll, D.beqs]
  | n, x :: a, y :: b, h, g => by
    have h' : x.eqable n = true ∧ D.eqables n a = true := by simpa only [D.eqables, Bool.and_eq_true] using h
    have g' : y.eqable n = true ∧ D.eqables n b = true := by simpa only [D.eqables, Bool.and_eq_true] using g
    simp only [toPys, PyData.eqvAll, D.beqs, beq_eqv n x y h'.1 g'.1, beq_eqvs n a b h'.2 g'.2]
end
mutual
theorem lay_of : ∀ (n : Nat) (d : D), d.eqable n = true → (toPy d).canLay0 = true ∧ (toPy d).depth ≤ n + 1
  | n, .non, _ | n, .bl _, _ | n, .int _, _ => by simp [toPy, PyData.canLay0, PyData.depth]
  | n, .str x, h => by
    have h' : PyData.strOk x = true := by cases n <;> simpa only [D.eqable, PyData.strOk] using h
    simp [toPy, PyData.canLay0, PyData.depth, h']
  | n + 1, .lst ds, h => by
    have := lays_of n ds (by simpa only [D.eqable] using h)
    simp only [toPy, PyData.canLay0, PyData.depth]; exact ⟨this.1, by omega⟩
  | n + 1, .tup ds, h => by
    have := lays_of n ds (by simpa only [D.eqable] using h)
    simp only [toPy, PyData.canLay0, PyData.depth]; exact ⟨this.1, by omega⟩
  | 0, .lst _, e | 0, .tup _, e | 0, .dic _, e | 0, .dct _, e | 0, .scr _, e | 0, .any, e => by simp [D.eqable] at e
  | n + 1, .dic _, e | n + 1, .dct _, e | n + 1, .scr _, e | n + 1, .any, e => by simp [D.eqable] at e
theorem lays_of : ∀ (n : Nat) (ds : List D), D.eqables n ds = true → PyData.canLayAll0 (toPys ds) = true ∧ PyData.depthAll (toPys ds) ≤ n + 1
  | n, [], _ => by simp [toPys, PyData.canLayAll0, PyData.depthAll]
  | n, d :: ds, h => by
    have h' : d.eqable n = true ∧ D.eqables n ds = true := by simpa only [D.eqables, Bool.and_eq_true] using h
    obtain ⟨a1, a2⟩ := lay_of n d h'.1
    obtain ⟨b1, b2⟩ := lays_of n ds h'.2
    simp only [toPys, PyData.canLayAll0, PyData.depthAll, a1, b1, Bool.and_self, true_and]
    omega
end
theorem shaped_of {n : Nat} {d : D} (h : d.eqable n = true) (hn : n ≤ 40) : SeqAt.shaped (toPy d) = true := by
  obtain ⟨h1, h2⟩ := lay_of n d h
  unfold SeqAt.shaped
  rw [h1, Bool.true_and]
  exact decide_eq_true (by omega)
/-- a scalar's own -/
theorem sc_of {d : D} {v : V} (h : hold K H d v) (s : d.isSc = true) : scV d = some v := by
  cases d <;> simp only [D.isSc, Bool.false_eq_true] at s <;> simp only [hold] at h <;> simp only [scV, h]
theorem flat_of {d : D} {v : V} (h : hold K H d v) (s : d.isSc = true) : flatV v = true := by
  cases d <;> simp only [D.isSc, Bool.false_eq_true] at s <;> simp only [hold] at h <;> subst h <;> rfl
theorem flats_of : ∀ {ds : List D} {xs : List V}, holds K H ds xs → ds.all D.isSc = true → xs.all flatV = true
  | [], _, h, _ => by simp only [holds] at h; subst h; rfl
  | d :: ds, _, h, s => by
    simp only [holds] at h
    obtain ⟨x, r, rfl, h1, h2⟩ := h
    rw [List.all_cons, Bool.and_eq_true] at s
    rw [List.all_cons, flat_of h1 s.1, flats_of h2 s.2]; rfl
theorem eqS_sc : ∀ {a b : D} {c : Bool}, eqS a b = some c → a.isSc = true ∧ b.isSc = true := fun {a b c} h => by
  cases a <;> cases b <;> simp only [eqS, reduceCtorEq] at h <;> exact ⟨rfl, rfl⟩
theorem eqS_ok {a b : D} {x y : V} {c : Bool} (h : eqS a b = some c) (hx : hold K H a x) (hy : hold K H b y) : scal x y = true ∧ decide (x = y) = c ∧ eqV x y = c := by
  cases a <;> cases b <;> simp only [eqS, reduceCtorEq, Option.some.injEq] at h <;> simp only [hold] at hx hy <;> subst hx <;> subst hy <;> subst h <;> refine ⟨rfl, ?_, ?_⟩ <;> first
    | rfl
    | (simp only [eqV])
    | exact dec_int
    | exact dec_bl
    | (rw [Bool.eq_iff_iff]; simp)
theorem inF_ok {x : D} {v : V} (hx : hold K H x v) : ∀ {ds : List D} {xs : List V} {c : Bool}, inF x ds = some c → holds K H ds xs → x.isSc = true ∧ xs.all flatV = true ∧ inV v xs = c
  | [], _, c, h, g => by
    simp only [inF] at h
    split at h <;> simp only [reduceCtorEq, Option.some.injEq] at h
    rename_i hs
    subst h
    simp only [holds] at g; subst g
    exact ⟨hs, rfl, rfl⟩
  | d :: ds, _, c, h, g => by
    simp only [holds] at g
    obtain ⟨y, r, rfl, g1, g2⟩ := g
    simp only [inF] at h
    split at h
    · rename_i a b ea eb
      simp only [Option.some.injEq] at h
      obtain ⟨i1, i2, i3⟩ := inF_ok hx eb g2
      obtain ⟨s1, s2⟩ := eqS_sc ea
      obtain ⟨_, _, q⟩ := eqS_ok ea g1 hx
      refine ⟨s2, ?_, ?_⟩
      · rw [List.all_cons, i2, flat_of g1 s1]; rfl
      · unfold inV at i3 ⊢
        rw [List.any_cons, i3, q]; exact h
    · cases h
theorem inF_nil_sc {x : D} {v : V} (hx : hold K H x v) {p : Addr} {neg : Bool} {Q : VK} {c : Bool} {ds : List D} {xs : List V} (h : inF x ds = some c) (g : holds K H ds xs) (hp : SqL K H p xs ∨ SqT K H p xs) (q : Q (.bl (if neg then !c else c)) H) :
    rIn K neg v (.ref p) H Q := by
  obtain ⟨hs, i2, i3⟩ := inF_ok hx h g
  exact ⟨p, xs, rfl, hp, flat_of hx hs, i2, by rw [i3]; exact q⟩
theorem idxF_ok {x : D} {v : V} (hx : hold K H x v) : ∀ {ds : List D} {xs : List V} {n : Nat}, idxF x ds = some n → holds K H ds xs → ∃ z, xs[n]? = some z ∧ eqV z v = true ∧ ∀ (m : Nat) (z' : V), m < n → xs[m]? = some z' → eqV z' v = false
  | [], _, _, h, _ => by simp [idxF] at h
  | d :: ds, _, n, h, g => by
    simp only [holds] at g
    obtain ⟨y, r, rfl, g1, g2⟩ := g
    simp only [idxF] at h
    split at h
    · rename_i e
      simp only [Option.some.injEq] at h; subst h
      exact ⟨y, rfl, (eqS_ok e g1 hx).2.2, fun m _ hm => absurd hm (Nat.not_lt_zero _)⟩
    · rename_i e
      rw [Option.map_eq_some_iff] at h
      obtain ⟨k, hk, rfl⟩ := h
      obtain ⟨z, z1, z2, z3⟩ := idxF_ok hx hk g2
      refine ⟨z, by simpa using z1, z2, fun m z' hm hz => ?_⟩
      cases m with
      | zero => simp at hz; subst hz; exact (eqS_ok e g1 hx).2.2
      | succ m => exact z3 m z' (by omega) (by simpa using hz)
    · cases h
theorem look_ok : ∀ {ks : List (Int × D)} {kvs : List (Key × V)} {i : Int}, holdK K B ks kvs → (∀ d, look ks i = some d → ∃ v, valV kvs (Sum.inl i) = some v ∧ hold K B d v) ∧ (look ks i = none → valV kvs (Sum.inl i) = none)
  | [], _, i, h => by
    simp only [holdK] at h; subst h
    exact ⟨fun d e => by simp [look] at e, fun _ => rfl⟩
  | (j, e) :: ks, _, i, h => by
    simp only [holdK] at h
    obtain ⟨x, r, rfl, h1, h2⟩ := h
    obtain ⟨a, b⟩ := look_ok (i := i) h2
    by_cases c : j = i
    · subst c
      refine ⟨fun d hd => ?_, fun hd => ?_⟩
      · simp only [look, if_true, Option.some.injEq] at hd; subst hd
        exact ⟨x, valV_pos rfl, h1⟩
      · simp [look] at hd
    · have c' : ¬ (Sum.inl j : Key) = Sum.inl i := fun z => c (Sum.inl.inj z)
      refine ⟨fun d hd => ?_, fun hd => ?_⟩
      · simp only [look, c, if_false] at hd
        rw [valV_neg (p := (Sum.inl j, x)) c']; exact a d hd
      · simp only [look, c, if_false] at hd
        rw [valV_neg (p := (Sum.inl j, x)) c']; exact b hd
theorem lookT_ok : ∀ {ks : List ((Int × Int) × D)} {kvs : List (List Key × V)} {i j : Int}, holdT K B ks kvs → (∀ d, look ks (i, j) = some d → ∃ v, valV kvs [.inl i, .inl j] = some v ∧ hold K B d v) ∧ (look ks (i, j) = none → valV kvs [.inl i, .inl j] = none)
  | [], _, i, j, h => by
    simp only [holdT] at h; subst h
    exact ⟨fun d e => by simp [look] at e, fun _ => rfl⟩
  | ((a, b), e) :: ks, _, i, j, h => by
    simp only [holdT] at h
    obtain ⟨x, r, rfl, h1, h2⟩ := h
    obtain ⟨f, g⟩ := lookT_ok (i := i) (j := j) h2
    by_cases c : (a, b) = (i, j)
    · cases c
      refine ⟨fun d hd => ?_, fun hd => ?_⟩
      · simp only [look, if_true, Option.some.injEq] at hd; subst hd
        exact ⟨x, valV_pos rfl, h1⟩
      · simp [look] at hd
    · have c' : ¬ ([.inl a, .inl b] : List Key) = [.inl i, .inl j] := fun z => c (by simp only [List.cons.injEq, Sum.inl.injEq, and_true] at z; rw [z.1, z.2])
      refine ⟨fun d hd => ?_, fun hd => ?_⟩
      · simp only [look, c, if_false] at hd
        rw [valV_neg (p := (([Sum.inl a, Sum.inl b] : List Key), x)) c']; exact f d hd
      · simp only [look, c, if_false] at hd
        rw [valV_neg (p := (([Sum.inl a, Sum.inl b] : List Key), x)) c']; exact g hd
theorem ints_h {ns : List Int} {p : Addr} {xs : List V} (h : H p = some (.lst xs)) (g : holds K H (ns.map D.int) xs) : SqL K H p (ns.map V.int) := by
  rw [ints_holds g] at h; exact .of h
theorem int_h {i : Int} {v : V} (h : hold K H (.int i) v) : v = .int i := by simpa only [hold] using h
theorem pairT_h {i j : Int} {v : V} (h : hold K H (.tup [.int i, .int j]) v) : ∃ b, v = .ref b ∧ H b = some (.tup ([Sum.inl i, Sum.inl j].map L2.kV)) := by
  simp only [hold, holds] at h
  obtain ⟨p, xs, rfl, e, x, r, rfl, rfl, y, r', rfl, rfl, rfl⟩ := h
  exact ⟨p, rfl, e⟩
theorem op2_sc {o : Op2} {a b x : D} {v u : V} (hc : o.cl = .sc) (hr : o.run a b = .ok x) (h : hold K H a v) (g : hold K H b u) : ∃ w, scV x = some w ∧ ∀ Q : VK, Q w H → r2 K o v u H Q := by
  cases o <;> simp only [Op2.cl, reduceCtorEq] at hc
  case addI | subI | lt | le | gt | ge =>
    cases a <;> cases b <;> simp only [Op2.run, reduceCtorEq, okI, okB, Res.ok.injEq] at hr
    subst hr
    exact ⟨_, rfl, fun Q q => ⟨_, _, int_h h, int_h g, q⟩⟩
  case mulI =>
    cases a <;> cases b <;> simp only [Op2.run, reduceCtorEq] at hr
    split at hr <;> simp only [reduceCtorEq, okI, Res.ok.injEq] at hr
    rename_i c
    subst hr
    exact ⟨_, rfl, fun Q q => ⟨_, _, int_h h, int_h g, mulOk_ok c, q⟩⟩
  case fdiv =>
    cases a <;> cases b <;> simp only [Op2.run, reduceCtorEq] at hr
    split at hr <;> simp only [reduceCtorEq, okI, Res.ok.injEq] at hr
    rename_i c
    subst hr
    exact ⟨_, rfl, fun Q q => ⟨_, _, int_h h, int_h g, c, q⟩⟩
  case mod =>
    cases a <;> cases b <;> simp only [Op2.run, reduceCtorEq] at hr
    split at hr <;> simp only [reduceCtorEq, okI, Res.ok.injEq] at hr
    rename_i c
    subst hr
    exact ⟨_, rfl, fun Q q => ⟨_, _, int_h h, int_h g, c, q⟩⟩
  case pow =>
    cases a <;> cases b <;> simp only [Op2.run, reduceCtorEq] at hr
    split at hr <;> simp only [reduceCtorEq, okI, Res.ok.injEq] at hr
    rename_i c
    subst hr
    refine ⟨_, rfl, fun Q q => ⟨_, _, int_h h, int_h g, ⟨c.1, ?_, ?_⟩, q⟩⟩
    · have := c.2.1; omega
    · have := c.2.2; omega
  case addS =>
    cases a <;> cases b <;> simp only [Op2.run, reduceCtorEq] at hr
    split at hr <;> simp only [reduceCtorEq, Res.ok.injEq] at hr
    rename_i c
    subst hr
    simp only [hold] at h g
    exact ⟨_, rfl, fun Q q => ⟨_, _, h, g, szl c, q⟩⟩
  case eqI =>
    simp only [Op2.run] at hr
    split at hr <;> simp only [reduceCtorEq, okB, Res.ok.injEq] at hr
    rename_i c e
    subst hr
    obtain ⟨e1, e2, _⟩ := eqS_ok e h g
    exact ⟨_, rfl, fun Q q => ⟨e1, by rw [e2]; exact q⟩⟩
  case neI =>
    simp only [Op2.run] at hr
    split at hr <;> simp only [reduceCtorEq, okB, Res.ok.injEq] at hr
    rename_i c e
    subst hr
    obtain ⟨e1, e2, _⟩ := eqS_ok e h g
    exact ⟨_, rfl, fun Q q => ⟨e1, by rw [e2]; exact q⟩⟩
  case eqD | neD =>
    simp only [Op2.run] at hr
    split at hr <;> simp only [reduceCtorEq, okB, Res.ok.injEq] at hr
    rename_i c
    rw [Bool.and_eq_true] at c
    subst hr
    refine ⟨_, rfl, fun Q q => ⟨toPy a, toPy b, dp_of 20 a v c.1 h, dp_of 20 b u c.2 g, shaped_of c.1 (by decide), shaped_of c.2 (by decide), ?_⟩⟩
    rw [beq_eqv 20 a b c.1 c.2]; exact q
  case inL | ninL =>
    cases b <;> simp only [Op2.run, reduceCtorEq] at hr
    rename_i ds
    split at hr <;> simp only [reduceCtorEq, okB, Res.ok.injEq] at hr
    rename_i c e
    subst hr
    simp only [hold] at g
    obtain ⟨p, xs, rfl, g1, g2⟩ := g
    exact ⟨_, rfl, fun Q q => inF_nil_sc h e g2 (.inl (.of g1)) q⟩
  case inT | ninT =>
    cases b <;> simp only [Op2.run, reduceCtorEq] at hr
    rename_i ds
    split at hr <;> simp only [reduceCtorEq, okB, Res.ok.injEq] at hr
    rename_i c e
    subst hr
    simp only [hold] at g
    obtain ⟨p, xs, rfl, g1, g2⟩ := g
    exact ⟨_, rfl, fun Q q => inF_nil_sc h e g2 (.inr (.of g1)) q⟩
  case inD | ninD =>
    cases b <;> simp only [Op2.run, reduceCtorEq] at hr
    rename_i ds
    split at hr <;> simp only [reduceCtorEq, okB, Res.ok.injEq] at hr
    rename_i c
    rw [Bool.and_eq_true] at c
    subst hr
    have c3 : (D.lst ds).eqable 21 = true := by simpa only [D.eqable] using c.2
    have e : ∀ l : List D, D.eqables 20 l = true → ((toPys l).any fun z => PyData.eqv z (toPy a)) = l.any fun y => D.beq y a := by
      intro l
      induction l with
      | nil => intro _; rfl
      | cons y l ih =>
        intro hl
        have hl' : y.eqable 20 = true ∧ D.eqables 20 l = true := by simpa only [D.eqables, Bool.and_eq_true] using hl
        rw [toPys, List.any_cons, List.any_cons, ih hl'.2, beq_eqv 20 y a hl'.1 c.1]
    refine ⟨_, rfl, fun Q q => ⟨toPy a, toPys ds, dp_of 20 a v c.1 h, dp_of 21 (.lst ds) u c3 g, shaped_of c.1 (by decide), shaped_of (n := 21) (d := .lst ds) c3 (by decide), ?_⟩⟩
    rw [e ds c.2]; exact q
  case inK =>
    cases a <;> cases b <;> simp only [Op2.run, reduceCtorEq, okB, Res.ok.injEq] at hr
    case int.dic i ks =>
      subst hr
      simp only [hold] at g
      obtain ⟨p, kvs, rfl, g1, g2⟩ := g
      have h := int_h h
      subst h
      refine ⟨_, rfl, fun Q q => ⟨p, valV kvs (.inl i), rfl, .inl ⟨kvs, .inl i, g1, rfl, rfl⟩, ?_⟩⟩
      obtain ⟨l1, l2⟩ := look_ok (i := i) g2
      cases e : look ks i with
      | none => rw [l2 e]; rw [e] at q; exact q
      | some d => obtain ⟨w, e2, _⟩ := l1 d e; rw [e2]; rw [e] at q; exact q
    case tup.dct ts ks =>
      match ts, hr, h with
      | [.int i, .int j], hr, h =>
        simp only [Op2.run, okB, Res.ok.injEq] at hr
        subst hr
        simp only [hold] at g
        obtain ⟨p, kvs, rfl, g1, g2⟩ := g
        obtain ⟨q0, rfl, e0⟩ := pairT_h h
        refine ⟨_, rfl, fun Q q => ⟨p, valV kvs [.inl i, .inl j], rfl, .inr ⟨kvs, [.inl i, .inl j], q0, .inl g1, rfl, e0, rfl⟩, ?_⟩⟩
        obtain ⟨l1, l2⟩ := lookT_ok (i := i) (j := j) g2
        cases e : look ks (i, j) with
        | none => rw [l2 e]; rw [e] at q; exact q
        | some d => obtain ⟨w, e2, _⟩ := l1 d e; rw [e2]; rw [e] at q; exact q
  case ninK =>
    cases a <;> cases b <;> simp only [Op2.run, reduceCtorEq, okB, Res.ok.injEq] at hr
    case int.dic i ks =>
      subst hr
      simp only [hold] at g
      obtain ⟨p, kvs, rfl, g1, g2⟩ := g
      have h := int_h h
      subst h
      refine ⟨_, rfl, fun Q q => ⟨p, valV kvs (.inl i), rfl, .inl ⟨kvs, .inl i, g1, rfl, rfl⟩, ?_⟩⟩
      obtain ⟨l1, l2⟩ := look_ok (i := i) g2
      cases e : look ks i with
      | none => rw [l2 e]; rw [e] at q; exact q
      | some d => obtain ⟨w, e2, _⟩ := l1 d e; rw [e2]; rw [e] at q; exact q
  case max2 | min2 =>
    cases a <;> cases b <;> simp only [Op2.run, reduceCtorEq, okI, Res.ok.injEq] at hr
    subst hr
    have h := int_h h
    have g := int_h g
    subst h; subst g
    exact ⟨_, rfl, fun Q q => ⟨_, _, rfl, q⟩⟩
  case maxD | minD =>
    cases a <;> cases b <;> simp only [Op2.run, reduceCtorEq] at hr
    rename_i ds k
    have g := int_h g
    subst g
    simp only [hold] at h
    obtain ⟨p, xs, rfl, h1, h2⟩ := h
    split at hr <;> simp only [reduceCtorEq, okI, Res.ok.injEq] at hr
    · rename_i m r e
      subst hr
      rw [ints_some e] at h2
      exact ⟨_, rfl, fun Q q => ⟨p, m :: r, k, rfl, rfl, ints_h h1 h2, q⟩⟩
    · rename_i e
      subst hr
      rw [ints_some e] at h2
      exact ⟨_, rfl, fun Q q => ⟨p, [], k, rfl, rfl, ints_h (ns := []) h1 h2, q⟩⟩
  case subS =>
    cases a <;> cases b <;> simp only [Op2.run, reduceCtorEq] at hr
    rename_i s i
    split at hr <;> try (simp only [reduceCtorEq] at hr)
    rename_i hl
    split at hr <;> simp only [reduceCtorEq, Res.ok.injEq] at hr
    rename_i c e
    subst hr
    have g := int_h g
    subst g
    simp only [hold] at h
    subst h
    exact ⟨_, rfl, fun Q q => ⟨s, i, c, rfl, rfl, szl hl, e, q⟩⟩
  case idx =>
    cases a <;> simp only [Op2.run, reduceCtorEq] at hr
    rename_i ds
    split at hr <;> try (simp only [reduceCtorEq] at hr)
    rename_i c
    rw [Bool.and_eq_true] at c
    split at hr <;> simp only [reduceCtorEq, okI, Res.ok.injEq] at hr
    rename_i n e
    subst hr
    simp only [hold] at h
    obtain ⟨p, xs, rfl, h1, h2⟩ := h
    obtain ⟨z, z1, z2, z3⟩ := idxF_ok g e h2
    exact ⟨_, rfl, fun Q q => ⟨p, xs, u, n, z, rfl, rfl, .of h1, flat_of g c.1, flats_of h2 c.2, z1, z2, z3, q⟩⟩
  case cnt =>
    cases a <;> cases b <;> simp only [Op2.run, reduceCtorEq] at hr
    split at hr <;> simp only [reduceCtorEq, okI, Res.ok.injEq] at hr
    rename_i ns e
    subst hr
    have g := int_h g
    subst g
    simp only [hold] at h
    obtain ⟨p, xs, rfl, h1, h2⟩ := h
    rw [ints_some e] at h2
    exact ⟨_, rfl, fun Q q => ⟨p, ns, _, rfl, rfl, ints_h h1 h2, q⟩⟩
  case cntB => cases a <;> simp only [Op2.run, reduceCtorEq] at hr
end
end TW

namespace TW
open PySem L2
theorem holds_cut {K : PySem.W.Frag} {B : Hp} {ds : List D} {xs : List V} (h : holds K B ds xs) (lo hi : Option Int) : holds K B (cut ds lo hi) (cutV xs lo hi) := by
  unfold cut cutV
  rw [holds_length h]
  exact holds_take _ (holds_drop _ h)
theorem cut_map {α β : Type} (f : α → β) (xs : List α) (lo hi : Option Int) : (cut xs lo hi).map f = cut (xs.map f) lo hi := by
  unfold cut
  rw [List.map_take, List.map_drop, List.length_map]
theorem cut_V (ns : List Int) (lo hi : Option Int) : cutV (ns.map V.int) lo hi = (cut ns lo hi).map V.int := by
  rw [cut_map]; rfl
theorem holds_rep {K : PySem.W.Frag} {B : Hp} {ds : List D} {xs : List V} (h : holds K B ds xs) : ∀ n : Nat, holds K B (rep ds n) (List.replicate n xs).flatten
  | 0 => rfl
  | n + 1 => by
    unfold rep
    rw [List.replicate_succ, List.replicate_succ, List.flatten_cons, List.flatten_cons]
    exact holds_append h (holds_rep h n)
section
variable {K : PySem.W.Frag} {B H : Hp}
theorem int_1 {i : Int} {v : V} (h : hold1 K B H (.int i) v) : v = .int i := by
  simp only [hold1, scV, Option.some.injEq] at h; exact h.symm
theorem op2_new {o : Op2} {a b x : D} {v u : V} (hc : o.cl = .new) (hr : o.run a b = .ok x) (h : hold1 K B H a v) (g : hold1 K B H b u) :
    ∃ ds xs, x = .lst ds ∧ holds K B ds xs ∧ ∀ Q : VK, (∀ p, H p = none → Q (.ref p) (upd H p (.lst xs))) → r2 K o v u H Q := by
  cases o <;> simp only [Op2.cl, reduceCtorEq] at hc
  case cat =>
    cases a <;> cases b <;> simp only [Op2.run, reduceCtorEq] at hr
    rename_i as bs
    split at hr <;> simp only [reduceCtorEq, Res.ok.injEq] at hr
    rename_i c
    subst hr
    obtain ⟨p, xs, rfl, h1, h2⟩ := h
    obtain ⟨q, ys, rfl, g1, g2⟩ := g
    exact ⟨_, _, rfl, holds_append h2 g2, fun Q z => ⟨p, q, xs, ys, rfl, rfl, h1, g1, by rw [← holds_length h2, ← holds_length g2]; exact szl c, z⟩⟩
  case rep =>
    cases a <;> cases b <;> simp only [Op2.run, reduceCtorEq] at hr
    rename_i as k
    split at hr <;> simp only [reduceCtorEq, Res.ok.injEq] at hr
    rename_i c
    subst hr
    obtain ⟨p, xs, rfl, h1, h2⟩ := h
    have g := int_1 g
    subst g
    have c1 : k ≤ ((100000 : Nat) : Int) := c.1
    exact ⟨_, _, rfl, holds_rep h2 _, fun Q z => ⟨p, k, xs, rfl, rfl, h1, by omega, by omega, by rw [← holds_length h2]; exact szl c.2.2, z⟩⟩
  case slcLo =>
    cases a <;> cases b <;> simp only [Op2.run, reduceCtorEq, Res.ok.injEq] at hr
    case lst.int ds i =>
      subst hr
      obtain ⟨p, xs, rfl, h1, h2⟩ := h
      exact ⟨_, _, rfl, holds_cut h2 _ _, fun Q z => ⟨i, int_1 g, p, xs, rfl, .of h1, z⟩⟩
    case scr.int ds i =>
      subst hr
      obtain ⟨p, rfl, h1⟩ := h
      exact ⟨_, _, rfl, holds_ints _, fun Q z => ⟨i, int_1 g, p, _, rfl, h1, by rw [cut_V]; exact z⟩⟩
  case slcHi =>
    cases a <;> cases b <;> simp only [Op2.run, reduceCtorEq, Res.ok.injEq] at hr
    case lst.int ds i =>
      subst hr
      obtain ⟨p, xs, rfl, h1, h2⟩ := h
      exact ⟨_, _, rfl, holds_cut h2 _ _, fun Q z => ⟨i, int_1 g, p, xs, rfl, .of h1, z⟩⟩
    case scr.int ds i =>
      subst hr
      obtain ⟨p, rfl, h1⟩ := h
      exact ⟨_, _, rfl, holds_ints _, fun Q z => ⟨i, int_1 g, p, _, rfl, h1, by rw [cut_V]; exact z⟩⟩
theorem slc3_new {a b c x : D} {v u w : V} (hr : slc3 a b c = .ok x) (h : hold1 K B H a v) (g : hold1 K B H b u) (k : hold1 K B H c w) :
    ∃ ds xs i j, x = .lst ds ∧ holds K B ds xs ∧ u = .int i ∧ w = .int j ∧ ∀ Q : VK, (∀ p, H p = none → Q (.ref p) (upd H p (.lst xs))) → rSlL K v (some i) (some j) H Q := by
  cases a <;> cases b <;> cases c <;> simp only [slc3, reduceCtorEq, Res.ok.injEq] at hr
  case lst.int.int ds i j =>
    subst hr
    obtain ⟨p, xs, rfl, h1, h2⟩ := h
    exact ⟨_, _, i, j, rfl, holds_cut h2 _ _, int_1 g, int_1 k, fun Q z => ⟨p, xs, rfl, .of h1, z⟩⟩
  case scr.int.int ds i j =>
    subst hr
    obtain ⟨p, rfl, h1⟩ := h
    exact ⟨_, _, i, j, rfl, holds_ints _, int_1 g, int_1 k, fun Q z => ⟨p, _, rfl, h1, by rw [cut_V]; exact z⟩⟩
theorem nth_holds {ds : List D} {xs : List V} {i : Int} {d : D} (h : holds K B ds xs) (e : nth ds i = some d) : ∃ w, atI xs i = some w ∧ hold K B d w := by
  rw [nth_eq] at e
  unfold atI at e ⊢
  rw [← holds_length h]
  rw [Option.bind_eq_some_iff] at e
  obtain ⟨j, e1, e2⟩ := e
  obtain ⟨w, w1, w2⟩ := holds_get h e2
  exact ⟨w, by rw [Option.bind_eq_some_iff]; exact ⟨j, e1, w1⟩, w2⟩
theorem nth_ints {ns : List Int} {i k : Int} (e : nth ns i = some k) : atI (ns.map V.int) i = some (V.int k) := by
  rw [nth_eq] at e
  unfold atI at e ⊢
  rw [Option.bind_eq_some_iff] at e ⊢
  obtain ⟨j, e1, e2⟩ := e
  exact ⟨j, by rw [List.length_map]; exact e1, by rw [List.getElem?_map, e2]; rfl⟩
theorem op2_kid {o : Op2} {a b x : D} {v u : V} (hc : o.cl = .kid) (hr : o.run a b = .ok x) (h : hold1 K B H a v) (g : hold1 K B H b u) :
    ∃ w, hold K B x w ∧ ∀ Q : VK, Q w H → r2 K o v u H Q := by
  cases o <;> simp only [Op2.cl, reduceCtorEq] at hc
  case subL =>
    cases a <;> cases b <;> simp only [Op2.run, reduceCtorEq] at hr
    case lst.int ds i =>
      split at hr <;> simp only [reduceCtorEq, Res.ok.injEq] at hr
      rename_i d e
      subst hr
      obtain ⟨p, xs, rfl, h1, h2⟩ := h
      obtain ⟨w, w1, w2⟩ := nth_holds h2 e
      exact ⟨w, w2, fun Q q => ⟨p, xs, i, w, rfl, int_1 g, .of h1, w1, q⟩⟩
    case scr.int ds i =>
      split at hr <;> simp only [reduceCtorEq, okI, Res.ok.injEq] at hr
      rename_i d e
      subst hr
      obtain ⟨p, rfl, h1⟩ := h
      exact ⟨.int d, rfl, fun Q q => ⟨p, _, i, _, rfl, int_1 g, h1, nth_ints e, q⟩⟩
  case subT =>
    cases a <;> cases b <;> simp only [Op2.run, reduceCtorEq] at hr
    case tup.int ds i =>
      split at hr <;> simp only [reduceCtorEq, Res.ok.injEq] at hr
      rename_i d e
      subst hr
      obtain ⟨p, xs, rfl, h1, h2⟩ := h
      obtain ⟨w, w1, w2⟩ := nth_holds h2 e
      exact ⟨w, w2, fun Q q => ⟨p, xs, i, w, rfl, int_1 g, .of h1, w1, q⟩⟩
  case subK =>
    cases a <;> cases b <;> simp only [Op2.run, reduceCtorEq] at hr
    case dic.int ks i =>
      split at hr <;> simp only [reduceCtorEq, Res.ok.injEq] at hr
      rename_i d e
      subst hr
      obtain ⟨p, kvs, rfl, h1, h2⟩ := h
      have g := int_1 g
      subst g
      obtain ⟨w, w1, w2⟩ := (look_ok h2).1 d e
      exact ⟨w, w2, fun Q q => ⟨p, w, rfl, .inl ⟨kvs, .inl i, h1, rfl, w1.symm⟩, q⟩⟩
  case subP =>
    cases a <;> cases b <;> simp only [Op2.run, reduceCtorEq] at hr
    case dct.tup ks ts =>
      match ts, hr, g with
      | [.int i, .int j], hr, g =>
        simp only [Op2.run] at hr
        split at hr <;> simp only [reduceCtorEq, Res.ok.injEq] at hr
        rename_i d e
        subst hr
        obtain ⟨p, kvs, rfl, h1, h2⟩ := h
        simp only [hold1, holds, hold] at g
        obtain ⟨b, xs, rfl, e0, x, r, rfl, rfl, y, r', rfl, rfl, rfl⟩ := g
        obtain ⟨w, w1, w2⟩ := (lookT_ok h2).1 d e
        exact ⟨w, w2, fun Q q => ⟨p, w, rfl, .inr ⟨kvs, [.inl i, .inl j], b, .inl h1, rfl, e0, w1.symm⟩, q⟩⟩
end
end TW

/-! ## the state that a reckoning stands for -/
namespace TW
open PySem L2
theorem nomem {α : Type} {p : α → Prop} : ∀ a ∈ ([] : List α), p a := fun _ m => by cases m
def FP (F : Nat → List Addr) (a : Addr) : Prop := ∃ i, a ∈ F i
def Nil (_ : Addr) : Prop := False
structure Sta (C : Ctx) (ks : Nat → Kind) (pin : Nat → Option V) (B H : Hp) (σ : L2.St) (ρ : Env) (F : Nat → List Addr) : Prop where
  len : ρ.length ≤ σ.length
  sub : Sub B H
  tab : NdefX.TabsN C.T H
  rep : ∀ i d, gt ρ i = some d → ∃ v, σ[i]? = some (some v) ∧ vrep C.K (ks i) B H d v (F i)
  nf : ∀ i, gt ρ i = none → F i = []
  dj : ∀ i j a, a ∈ F i → a ∈ F j → i = j
  nB : ∀ i a, a ∈ F i → B a = none
  pin : ∀ j v, pin j = some v → σ[j]? = some (some v)
structure Has (C : Ctx) (B H : Hp) (F : Nat → List Addr) (k : Kind) (d : D) (v : V) (f : List Addr) : Prop where
  rep : vrep C.K k B H d v f
  dj : ∀ a ∈ f, ¬ FP F a
  nB : ∀ a ∈ f, B a = none
def Post (C : Ctx) (ks : Nat → Kind) (pin : Nat → Option V) (σ : L2.St) (B H : Hp) (F : Nat → List Addr) (ρ' : Env) (k : Kind) (d : D) (pu : Bool) (Q : VK) : Prop :=
  ∀ v B' H' F' f, Step B H (FP F) B' H' (fun a => FP F' a ∨ a ∈ f) → Sta C ks pin B' H' σ ρ' F' → Has C B' H' F' k d v f → (pu = true → Up H H' ∧ F' = F) → Q v H'
section
variable {C : Ctx} {ks : Nat → Kind} {pin : Nat → Option V} {B H B' H' : Hp} {σ : L2.St} {ρ : Env} {F : Nat → List Addr} {k : Kind} {d : D} {v : V} {f : List Addr} {P P' : Addr → Prop}
theorem Sta.at (s : Sta C ks pin B H σ ρ F) {i : Nat} {a : Addr} (m : a ∈ F i) : ∃ o, H a = some o ∧ Lay o := by
  cases e : gt ρ i with
  | none => rw [s.nf i e] at m; cases m
  | some d =>
    obtain ⟨v, _, h⟩ := s.rep i d e
    exact vrep_at h a m
theorem Sta.atF (s : Sta C ks pin B H σ ρ F) {a : Addr} (m : FP F a) : ∃ o, H a = some o ∧ Lay o := let ⟨_, h⟩ := m; s.at h
theorem tabs_up {T : List NdefX.NTab} (t : NdefX.TabsN T H) (u : ∀ b o, H b = some o → H' b = some o) : NdefX.TabsN T H' := t.ext u
/-- nothing of the frame is touched -/
theorem Sta.step (s : Sta C ks pin B H σ ρ F) (t : Step B H Nil B' H' P') (sub : Sub B' H') (tab : NdefX.TabsN C.T H') : Sta C ks pin B' H' σ ρ F where
  len := s.len
  sub := sub
  tab := tab
  rep := fun i d e => let ⟨v, h1, h2⟩ := s.rep i d e; ⟨v, h1, vrep_step h2 t (fun _ _ z => z) fun _ a o q n => t.up a o q (fun z => z) n⟩
  nf := s.nf
  dj := s.dj
  nB := fun i a m => by
    cases e : B' a with
    | none => rfl
    | some o =>
      obtain ⟨o', ho, _⟩ := s.at m
      rcases t.newB a (by rw [e]; simp) with q | q | q
      · exact absurd (s.nB i a m) q
      · exact False.elim q
      · rw [ho] at q; cases q
  pin := s.pin
theorem Has.at (h : Has C B H F k d v f) : ∀ a ∈ f, ∃ o, H a = some o ∧ Lay o := vrep_at h.rep
/-- a thing that waits while something else is reckoned -/
theorem Has.step {F' : Nat → List Addr} {g : List Addr} (h : Has C B H F k d v f) (t : Step B H (FP F) B' H' (fun a => FP F' a ∨ a ∈ g)) (hb : k.borrowed = true → Up H H') : Has C B' H' F' k d v f ∧ ∀ a ∈ f, a ∉ g := by
  have nf : ∀ a ∈ f, ¬ (FP F' a ∨ a ∈ g) := fun a m z => by
    rcases t.new a z with q | q
    · exact h.dj a m q
    · obtain ⟨o, ho, _⟩ := h.at a m
      rw [ho] at q; cases q
  refine ⟨⟨vrep_step h.rep t h.dj hb, fun a m z => nf a m (.inl z), fun a m => ?_⟩, fun a m z => nf a m (.inr z)⟩
  cases e : B' a with
  | none => rfl
  | some o =>
    obtain ⟨o', ho, _⟩ := h.at a m
    rcases t.newB a (by rw [e]; simp) with q | q | q
    · exact absurd (h.nB a m) q
    · exact absurd q (h.dj a m)
    · rw [ho] at q; cases q
theorem topAt_hold {K : PySem.W.Frag} {p : Addr} (s : Sub B H) (t : topAt K B H p d) : hold K H d (.ref p) := by
  cases d <;> simp only [topAt] at t <;> simp only [hold]
  · obtain ⟨xs, t1, t2⟩ := t; exact ⟨p, xs, rfl, t1, holds_mono s.ext _ _ t2⟩
  · obtain ⟨xs, t1, t2⟩ := t; exact ⟨p, xs, rfl, t1, holds_mono s.ext _ _ t2⟩
  · obtain ⟨xs, t1, t2⟩ := t; exact ⟨p, xs, rfl, .inl t1, holdK_mono s.ext _ _ t2⟩
  · obtain ⟨xs, t1, t2⟩ := t; exact ⟨p, xs, rfl, t1, holdT_mono s.ext _ _ t2⟩
/-- the whole is readable -/
theorem vrep_hold (s : Sub B H) (h : vrep C.K k B H d v f) : hold C.K H d v := by
  cases k <;> simp only [vrep] at h
  · exact hold_sc h.1
  · exact hold_mono s.ext _ _ h.1
  · rcases h with h | ⟨p, rfl, _, t⟩
    · exact hold_sc h.1
    exact topAt_hold s t
  · exact own_hold d v f h fun _ _ _ e _ => e
  · rcases h with h | ⟨p, rfl, _, t⟩
    · exact hold_sc h.1
    exact topAt_hold s t
  · exact h.1
theorem vis_hold (h : hold C.K H d v) : hold C.K (vis H Nil) d v := hold_mono (.of fun _ _ e n => vis_of e n fun z => z) d v h
/-- B and the things at f -/
noncomputable def join (B H : Hp) (f : List Addr) : Hp := fun a => by classical exact if a ∈ f then H a else B a
theorem join_in {a : Addr} (m : a ∈ f) : join B H f a = H a := by unfold join; rw [if_pos m]
theorem join_out {a : Addr} (m : a ∉ f) : join B H f a = B a := by unfold join; rw [if_neg m]
theorem join_ext (n : ∀ a ∈ f, B a = none) : ∀ a o, B a = some o → join B H f a = some o := fun a o e => by
  by_cases m : a ∈ f
  · rw [n a m] at e; cases e
  · rw [join_out m]; exact e
theorem join_sub (s : Sub B H) (t : ∀ a ∈ f, ∃ o, H a = some o ∧ Lay o) : Sub (join B H f) H := fun a o e => by
  by_cases m : a ∈ f
  · rw [join_in m] at e
    obtain ⟨o', h1, h2⟩ := t a m
    rw [e] at h1; cases h1
    exact ⟨e, h2.nt⟩
  · rw [join_out m] at e; exact s a o e
theorem vrep_B (h : vrep C.K k B H d v f) (e : ∀ a o, B a = some o → B' a = some o) : vrep C.K k B' H d v f := by
  have e' : Ext B B' := .of fun a o q _ => e a o q
  cases k <;> simp only [vrep] at h ⊢
  · exact h
  · exact ⟨hold_mono e' _ _ h.1, h.2⟩
  · rcases h with h | ⟨p, e1, e2, t⟩
    · exact .inl h
    exact .inr ⟨p, e1, e2, topAt_keep t e' fun _ q _ => q⟩
  · exact h
  · rcases h with h | ⟨p, e1, e2, t⟩
    · exact .inl h
    exact .inr ⟨p, e1, e2, topAt_keep t e' fun _ q _ => q⟩
  · exact h
/-- what was one's own is laid open -/
theorem Sta.absorb (s : Sta C ks pin B H σ ρ F) (h : ∀ a ∈ f, ∃ o, H a = some o ∧ Lay o) (dj : ∀ a ∈ f, ¬ FP F a) (nB : ∀ a ∈ f, B a = none) : Sta C ks pin (join B H f) H σ ρ F where
  len := s.len
  sub := join_sub s.sub h
  tab := s.tab
  rep := fun i d e => by
    obtain ⟨v, h1, h2⟩ := s.rep i d e
    exact ⟨v, h1, vrep_B h2 (join_ext nB)⟩
  nf := s.nf
  dj := s.dj
  nB := fun i a m => by
    have nf : a ∉ f := fun z => dj a z ⟨i, m⟩
    rw [join_out nf]; exact s.nB i a m
  pin := s.pin
/-- the thing at p in B too -/
theorem topAt_in {K : PySem.W.Frag} {p : Addr} {B0 : Hp} (t : topAt K B H p d) (e : ∀ a o, B a = some o → B0 a = some o) (hp : ∀ o, H p = some o → B0 p = some o) : hold K B0 d (.ref p) := by
  have e' : Ext B B0 := .of fun a o q _ => e a o q
  cases d <;> simp only [topAt] at t <;> simp only [hold]
  · obtain ⟨xs, t1, t2⟩ := t; exact ⟨p, xs, rfl, hp _ t1, holds_mono e' _ _ t2⟩
  · obtain ⟨xs, t1, t2⟩ := t; exact ⟨p, xs, rfl, hp _ t1, holds_mono e' _ _ t2⟩
  · obtain ⟨xs, t1, t2⟩ := t; exact ⟨p, xs, rfl, .inl (hp _ t1), holdK_mono e' _ _ t2⟩
  · obtain ⟨xs, t1, t2⟩ := t; exact ⟨p, xs, rfl, hp _ t1, holdT_mono e' _ _ t2⟩
/-- laid open -/
theorem Has.open_ (h : Has C B H F k d v f) (l : k.le .sh = true) : hold C.K (join B H f) d v := by
  have r := h.rep
  cases k <;> simp only [Kind.le, Bool.false_eq_true] at l <;> simp only [vrep] at r
  · exact hold_sc r.1
  · rw [r.2]; exact hold_mono (.of fun a o e _ => by rw [join_out (by simp)]; exact e) _ _ r.1
  · rcases r with r | ⟨p, rfl, ef, t⟩
    · exact hold_sc r.1
    · subst ef
      exact topAt_in t (join_ext h.nB) fun o e => by rw [join_in (List.mem_singleton.mpr rfl)]; exact e
  · exact own_hold d v f r fun a m o e _ => by rw [join_in m]; exact e
theorem Step.join {B0 H0 : Hp} {P : Addr → Prop} {F' : Nat → List Addr} {g : List Addr} (t : Step B0 H0 P B H (fun a => FP F' a ∨ a ∈ f)) (n : ∀ a ∈ f, B a = none) (sub : ∀ a ∈ g, a ∈ f) : Step B0 H0 P (join B H g) H (FP F') where
  ex := fun a o e => join_ext (fun a m => n a (sub a m)) a o (t.ex a o e)
  up := t.up
  th := t.th
  new := fun a h => t.new a (.inl h)
  newB := fun a h => by
    by_cases m : a ∈ g
    · exact .inr (t.new a (.inr (sub a m)))
    · rw [join_out m] at h; exact t.newB a h
theorem vrep_deep_top (h : own H d v f) (sub : Sub B H) : ∃ g p', (∀ a ∈ g, a ∈ f) ∧ (f = [] ∧ g = [] ∧ scV d = some v ∨ f = p' :: g ∧ p' ∉ g ∧ v = .ref p' ∧ topAt C.K (join B H g) H p' d) := by
  cases d <;> simp only [own] at h
  case lst ds =>
    obtain ⟨p, xs, g, e1, e2, e3, e4, e5⟩ := h
    subst e2
    exact ⟨g, p, fun a m => List.mem_cons_of_mem _ m, .inr ⟨rfl, e4, e1, xs, e3, owns_hold ds xs g e5 fun a m o e _ => by rw [join_in m]; exact e⟩⟩
  case tup ds =>
    obtain ⟨p, xs, g, e1, e2, e3, e4, e5⟩ := h
    subst e2
    exact ⟨g, p, fun a m => List.mem_cons_of_mem _ m, .inr ⟨rfl, e4, e1, xs, e3, owns_hold ds xs g e5 fun a m o e _ => by rw [join_in m]; exact e⟩⟩
  all_goals
    obtain ⟨e1, e2⟩ := h
    subst e2
    exact ⟨[], 0, fun _ m => m, .inl ⟨rfl, rfl, by rw [e1]; rfl⟩⟩
/-- one may ask less -/
theorem Post.le {ρ' : Env} {pu : Bool} {Q : VK} {k' : Kind} (h : Post C ks pin σ B H F ρ' k' d pu Q) (l : k.le k' = true) : Post C ks pin σ B H F ρ' k d pu Q := by
  intro v B' H' F' f st sta has hp
  have r := has.rep
  by_cases e : k = k'
  · subst e; exact h v B' H' F' f st sta has hp
  cases k <;> cases k' <;> simp only [Kind.le, Bool.false_eq_true] at l <;> try (exact absurd rfl e)
  case im.sh =>
    simp only [vrep] at r
    exact h v B' H' F' f st sta ⟨⟨hold_sc r.1, r.2⟩, has.dj, has.nB⟩ hp
  case im.deep =>
    simp only [vrep] at r
    obtain ⟨r1, rfl⟩ := r
    exact h v B' H' F' [] st sta ⟨own_sc r1, has.dj, has.nB⟩ hp
  case im.top =>
    simp only [vrep] at r
    exact h v B' H' F' f st sta ⟨.inl r, has.dj, has.nB⟩ hp
  case top.sh =>
    exact h v (join B' H' f) H' F' [] ((st.join has.nB fun _ m => m).less fun a z => z.elim id fun m => by cases m) (sta.absorb has.at has.dj has.nB)
      ⟨⟨has.open_ rfl, rfl⟩, nomem, nomem⟩ hp
  case deep.sh =>
    exact h v (join B' H' f) H' F' [] ((st.join has.nB fun _ m => m).less fun a z => z.elim id fun m => by cases m) (sta.absorb has.at has.dj has.nB)
      ⟨⟨has.open_ rfl, rfl⟩, nomem, nomem⟩ hp
  case deep.top =>
    obtain ⟨g, p, hg, q⟩ := vrep_deep_top (C := C) (B := B') (show own H' d v f from r) sta.sub
    have st2 := st.join (g := g) has.nB hg
    have sta2 := sta.absorb (f := g) (fun a m => has.at a (hg a m)) (fun a m => has.dj a (hg a m)) fun a m => has.nB a (hg a m)
    rcases q with ⟨e1, e2, e3⟩ | ⟨e1, e2, e3, e4⟩
    · subst e1
      exact h v _ H' F' [] (st2.less fun a z => z.elim id fun m => by cases m) sta2 ⟨.inl ⟨e3, rfl⟩, nomem, nomem⟩ hp
    · have mp : p ∈ f := by rw [e1]; exact List.mem_cons_self
      refine h v (TW.join B' H' g) H' F' [p] ⟨st2.ex, st2.up, st2.th, fun a z => ?_, st2.newB⟩ sta2 ⟨.inr ⟨p, e3, rfl, e4⟩, fun a m => ?_, fun a m => ?_⟩ hp
      · rcases z with z | z
        · exact st.new a (.inl z)
        · rw [List.mem_singleton.mp z]; exact st.new p (.inr mp)
      · rw [List.mem_singleton.mp m]; exact has.dj p mp
      · rw [List.mem_singleton.mp m, join_out e2]; exact has.nB p mp
/-- nothing done -/
theorem Step.id {B H : Hp} {P : Addr → Prop} {f : List Addr} (h : f = []) : Step B H P B H (fun a => P a ∨ a ∈ f) := ⟨fun _ _ e => e, fun _ _ e _ _ => e, fun _ e => e, fun a z => z.elim Or.inl (fun m => by rw [h] at m; cases m), fun _ e => .inl e⟩
end
end TW

/-! ## the readings; what is reckoned is what is read -/
namespace TW
open PySem L2
/-- what may have become of the heap where something was raised -/
def Xup (F : Nat → List Addr) (H H' : Hp) : Prop := (∀ a o, H a = some o → ¬ FP F a → NoTab o → H' a = some o) ∧ ∀ a, H a ≠ none → H' a ≠ none
theorem Xup.of {B H B1 H1 H2 : Hp} {F F1 : Nat → List Addr} {g : List Addr} (t : Step B H (FP F) B1 H1 (fun a => FP F1 a ∨ a ∈ g)) (x : Xup F1 H1 H2) : Xup F H H2 :=
  ⟨fun a o e n z => x.1 a o (t.up a o e n z) (fun q => (t.new a (.inl q)).elim n fun r => by rw [e] at r; cases r) z, fun a h => x.2 a (t.th a h)⟩
theorem Xup.refl {F : Nat → List Addr} {H : Hp} : Xup F H H := ⟨fun _ _ e _ _ => e, fun _ e => e⟩
/-- what a def promises: its reckoning -/
def spF (C : Ctx) (fs : FnSem) : Sp := fun vs H Q E => ∃ (ds : List D) (B : Hp) (F : Nat → List Addr), ds.length = fs.np ∧ vs.length = fs.np ∧
  Sta C fs.pk (fun _ => none) B H (vs.map some) (ds.map some) F ∧ (∀ j, ¬ ownK (fs.pk j) = true → F j = []) ∧
  match fs.run ds with
  | .ok (d, ms) => ∀ v B' H' F' f, Step B H (FP F) B' H' (fun a => FP F' a ∨ a ∈ f) → Sta C fs.pk (fun _ => none) B' H' (vs.map some) ms F' → Has C B' H' F' fs.rk d v f → Q v H'
  | .exc c => ∀ H', Xup F H H' → NdefX.TabsN C.T H' → E (.ref (C.cls c)) none H'
  | .bad => False
def gNs : List Nat → TGs
  | [] => gNil
  | i :: r => gCons (gName i) (gNs r)
def rdTg (K : PySem.W.Frag) : Tg → TG
  | .nm i => gName i
  | .tup is => gTup K is.length (gNs is)
  | .lsp is => gLst K is.length (gNs is)
def iSrc (K : PySem.W.Frag) (k : Sk) (ta tb tc : TE) : TI := match k with
  | .lst => iList K ta
  | .r1 => iRng1 (tCons ta tNil)
  | .r2 => iRng2 (tCons ta (tCons tb tNil))
  | .r3 => iRng3 (tCons ta (tCons tb (tCons tc tNil)))
  | .dic i => iKeys (tVar i)
abbrev Wno : WX := fun _ _ _ _ => False
abbrev v0 (vs : List V) : V := vs.getD 0 .non
abbrev v1 (vs : List V) : V := vs.getD 1 .non
abbrev v2 (vs : List V) : V := vs.getD 2 .non
def lockIf (k : Sk) (t : TE) : TE := match k with
  | .dic _ => tLockE t
  | _ => t
mutual
def rdE (C : Ctx) : IE → WX → TE
  | .var i, _ => tVar i
  | .mv i, _ => tVar i
  | .cst d, _ => fun _ H Q => ∃ v, scV d = some v ∧ Q v H
  | .op1 o a, W => fun σ H Q => rdE C a W σ H fun x H1 => r1 C.K o x H1 Q
  | .op2 o a b, W => fun σ H Q => rdE C a W σ H fun x H1 => rdE C b W σ H1 fun y H2 => r2 C.K o x y H2 Q
  | .mth o a b, W => fun σ H Q => rdE C a W σ H fun x H1 => tyV C.K "list" x H1 ∧ rdE C b W σ H1 fun y H2 => r2 C.K o x y H2 Q
  | .slc a b c, W => tSl (rSlL C.K) (rdE C a W) (tPart (rdE C b W)) (tPart (rdE C c W))
  | .not a, W => tNotV (rdE C a W)
  | .and a b, W => tAndV (rdE C a W) (rdE C b W)
  | .or a b, W => tOrV (rdE C a W) (rdE C b W)
  | .lst es, W => tLst (rdEs C es W)
  | .tup es, W => tTup (rdEs C es W)
  | .dic1 k v, W => tDisp [(rdE C k W, rdE C v W)]
  | .dic0, _ => tDNewK
  | .dct0, _ => tDNewT
  | .call f es, W => tCallS (spF C (C.Φ f)) (WE W) (rdEs C es W)
  | .callM f i es, W => tCallS (spF C (C.Φ f)) (WE W) (tCons (tVar i) (rdEs C es W))
  | .lc k a b c t test elt, W => lockIf k (tLc (iSrc C.K k (rdE C a W) (rdE C b W) (rdE C c W)) (rdTg C.K t) (tB (rdE C test Wno)) (rdE C elt Wno) t.names)
  | .pop i, _ => tBM0 C.K "list" rPop (tVar i)
  | .popAt i e, W => tBM C.K "list" rPopAt (tVar i) (tCons (rdE C e W) tNil)
  | .key _ _ _ _, _ => fun _ _ _ => False
  | .keyP _ _ _ _, _ => fun _ _ _ => False
def rdEs (C : Ctx) : IEs → WX → TA
  | .nil, _ => tNil
  | .cons e es, W => tCons (rdE C e W) (rdEs C es W)
end
def Fin (C : Ctx) (ks : Nat → Kind) (pin : Nat → Option V) (σ : L2.St) (B H : Hp) (F : Nat → List Addr) (W : WX) (k : Kind) (pu : Bool) (r : Res (D × Env)) (Q : VK) : Prop := match r with
  | .ok (d, ρ') => Post C ks pin σ B H F ρ' k d pu Q
  | .exc c => ∀ H', Xup F H H' → NdefX.TabsN C.T H' → W (.ref (C.cls c)) none σ H'
  | .bad => False
/-- several that wait -/
def HasL (C : Ctx) (B H : Hp) (F : Nat → List Addr) : List Kind → List D → List V → List Addr → Prop
  | [], ds, vs, f => ds = [] ∧ vs = [] ∧ f = []
  | k :: l, ds, vs, f => ∃ d r v s f1 f2, ds = d :: r ∧ vs = v :: s ∧ f = f1 ++ f2 ∧ Has C B H F k d v f1 ∧ HasL C B H F l r s f2 ∧ ∀ a ∈ f1, a ∉ f2
def PostL (C : Ctx) (ks : Nat → Kind) (pin : Nat → Option V) (σ : L2.St) (B H : Hp) (F : Nat → List Addr) (ρ' : Env) (l : List Kind) (ds : List D) (pu : Bool) (Q : List V → Hp → Prop) : Prop :=
  ∀ vs B' H' F' f, Step B H (FP F) B' H' (fun a => FP F' a ∨ a ∈ f) → Sta C ks pin B' H' σ ρ' F' → HasL C B' H' F' l ds vs f → (pu = true → Up H H' ∧ F' = F) → Q vs H'
def FinL (C : Ctx) (ks : Nat → Kind) (pin : Nat → Option V) (σ : L2.St) (B H : Hp) (F : Nat → List Addr) (W : WX) (l : List Kind) (pu : Bool) (r : Res (List D × Env)) (Q : List V → Hp → Prop) : Prop := match r with
  | .ok (ds, ρ') => PostL C ks pin σ B H F ρ' l ds pu Q
  | .exc c => ∀ H', Xup F H H' → NdefX.TabsN C.T H' → W (.ref (C.cls c)) none σ H'
  | .bad => False
def SndE (C : Ctx) (sg : Nat → Sig) (e : IE) : Prop := ∀ (nb : Bool) (ks : Nat → Kind) (_ : nb = true → ∀ j, (ks j).borrowed = false) (pin : Nat → Option V) (W : WX) (B H : Hp) (σ : L2.St) (ρ : Env) (F : Nat → List Addr) (k : Kind) (Q : VK),
  kE sg nb ks e = some k → Sta C ks pin B H σ ρ F → Fin C ks pin σ B H F W k (pureE sg e) (evE C.Φ e ρ) Q → rdE C e W σ H Q
def SndEs (C : Ctx) (sg : Nat → Sig) (es : IEs) : Prop := ∀ (nb : Bool) (ks : Nat → Kind) (_ : nb = true → ∀ j, (ks j).borrowed = false) (pin : Nat → Option V) (W : WX) (B H : Hp) (σ : L2.St) (ρ : Env) (F : Nat → List Addr) (l : List Kind) (Q : List V → Hp → Prop),
  kEs sg nb ks es = some l → Sta C ks pin B H σ ρ F → FinL C ks pin σ B H F W l (pureEs sg es) (evEs C.Φ es ρ) Q → rdEs C es W σ H Q
section
variable {C : Ctx} {sg : Nat → Sig}
theorem snd_nil : SndEs C sg .nil := by
  intro nb ks hnb pin W B H σ ρ F l Q hk sta h
  simp only [kEs, Option.some.injEq] at hk
  subst hk
  simp only [evEs, FinL] at h
  exact h [] B H F [] (Step.id rfl) sta ⟨rfl, rfl, rfl⟩ fun _ => ⟨Up.refl H, rfl⟩
/-- in a row -/
theorem Step.row {B H B1 H1 B2 H2 : Hp} {F F1 F2 : Nat → List Addr} {f g : List Addr} (s : Step B H (FP F) B1 H1 (fun a => FP F1 a ∨ a ∈ f)) (t : Step B1 H1 (FP F1) B2 H2 (fun a => FP F2 a ∨ a ∈ g)) :
    Step B H (FP F) B2 H2 (fun a => FP F2 a ∨ a ∈ f ++ g) where
  ex := fun a o e => t.ex a o (s.ex a o e)
  up := fun a o e n z => t.up a o (s.up a o e n z) (fun q => (s.new a (.inl q)).elim n fun r => by rw [e] at r; cases r) z
  th := fun a h => t.th a (s.th a h)
  new := fun a h => by
    have key : FP F2 a ∨ a ∈ g → FP F a ∨ H a = none := fun q => (t.new a q).elim (fun z => s.new a (.inl z)) fun r => .inr (by
      cases e : H a with
      | none => rfl
      | some o => exact absurd r (s.th a (by rw [e]; simp)))
    rcases h with h | h
    · exact key (.inl h)
    · rcases List.mem_append.mp h with h | h
      · exact s.new a (.inr h)
      · exact key (.inr h)
  newB := fun a h => by
    rcases t.newB a h with q | q | q
    · exact s.newB a q
    · exact .inr (s.new a (.inl q))
    · refine .inr (.inr ?_)
      cases r : H a with
      | none => rfl
      | some o => exact absurd q (s.th a (by rw [r]; simp))
theorem snd_cons {e : IE} {es : IEs} (he : SndE C sg e) (hs : SndEs C sg es) : SndEs C sg (.cons e es) := by
  intro nb ks hnb pin W B H σ ρ F l Q hk sta h
  simp only [kEs] at hk
  split at hk <;> try (simp only [reduceCtorEq] at hk)
  rename_i k l' hk1 hk2
  split at hk <;> simp only [reduceCtorEq, Option.some.injEq] at hk
  rename_i hp
  subst hk
  refine he nb ks hnb pin W B H σ ρ F k _ hk1 sta ?_
  simp only [evEs] at h
  cases ev : evE C.Φ e ρ with
  | bad => rw [ev] at h; exact h
  | exc c => rw [ev] at h; exact h
  | ok p =>
    obtain ⟨d, ρ1⟩ := p
    rw [ev] at h
    simp only at h
    show Post C ks pin σ B H F ρ1 k d (pureE sg e) _
    intro v B1 H1 F1 f1 st1 sta1 has1 pu1
    refine hs nb ks hnb pin W B1 H1 σ ρ1 F1 l' _ hk2 sta1 ?_
    cases ev2 : evEs C.Φ es ρ1 with
    | bad => rw [ev2] at h; exact h
    | exc c => rw [ev2] at h; exact fun H' x t => h H' (x.of st1) t
    | ok p =>
      obtain ⟨ds, ρ2⟩ := p
      rw [ev2] at h
      show PostL C ks pin σ B1 H1 F1 ρ2 l' ds (pureEs sg es) _
      intro vs B2 H2 F2 f2 st2 sta2 has2 pu2
      obtain ⟨has1', dj⟩ := has1.step st2 fun b => by
        have : pureEs sg es = true := by
          cases q : pureEs sg es with
          | true => rfl
          | false => rw [b, q] at hp; simp at hp
        exact (pu2 this).1
      refine h (v :: vs) B2 H2 F2 (f1 ++ f2) (st1.row st2) sta2 ⟨d, ds, v, vs, f1, f2, rfl, rfl, rfl, has1', has2, dj⟩ fun pu => ?_
      simp only [pureEs, Bool.and_eq_true] at pu
      obtain ⟨u1, e1⟩ := pu1 pu.1
      obtain ⟨u2, e2⟩ := pu2 pu.2
      exact ⟨u1.trans u2, e2.trans e1⟩
end
end TW

namespace TW
open PySem L2
theorem gt_st : ∀ (ρ : Env) (i j : Nat) (d : Option D), gt (st ρ i d) j = if j = i ∧ i < ρ.length then d else gt ρ j
  | [], i, j, d => by simp [st, gt]
  | x :: r, 0, 0, d => by simp [st, gt]
  | x :: r, 0, j + 1, d => by simp [st, gt]
  | x :: r, i + 1, 0, d => by simp [st, gt]
  | x :: r, i + 1, j + 1, d => by
    simp only [st, gt, gt_st r i j d, List.length_cons, Nat.add_right_cancel_iff, Nat.add_lt_add_iff_right]
theorem st_length : ∀ (ρ : Env) (i : Nat) (d : Option D), (st ρ i d).length = ρ.length
  | [], _, _ => rfl
  | x :: r, 0, _ => rfl
  | x :: r, i + 1, d => by simp only [st, List.length_cons, st_length r i d]
theorem gt_lt : ∀ {ρ : Env} {i : Nat} {d : D}, gt ρ i = some d → i < ρ.length
  | [], _, _, h => by simp [gt] at h
  | x :: r, 0, _, _ => by simp
  | x :: r, i + 1, d, h => by
    simp only [gt] at h
    have := gt_lt h
    simp only [List.length_cons]; omega
section
variable {C : Ctx} {sg : Nat → Sig}
theorem snd_var (i : Nat) : SndE C sg (.var i) := by
  intro nb ks hnb pin W B H σ ρ F k Q hk sta h
  simp only [evE] at h
  cases e : gt ρ i with
  | none => rw [e] at h; exact h.elim
  | some d =>
    rw [e] at h
    obtain ⟨v, h1, h2⟩ := sta.rep i d e
    refine ⟨v, h1, h v B H F [] (Step.id rfl) sta ⟨?_, nomem, nomem⟩ fun _ => ⟨Up.refl H, rfl⟩⟩
    simp only [kE, Option.some.injEq] at hk
    cases q : ks i <;> rw [q] at hk h2 <;> simp only at hk <;> subst hk
    · exact ⟨h2.1, rfl⟩
    · exact ⟨h2.1, rfl⟩
    · rcases h2 with h2 | ⟨p, e1, _, t⟩
      · exact .inl ⟨h2.1, rfl⟩
      · exact .inr ⟨p, e1, rfl, t⟩
    · exact ⟨vrep_hold (C := C) (k := .deep) sta.sub h2, rfl⟩
    · rcases h2 with h2 | ⟨p, e1, _, t⟩
      · exact .inl ⟨h2.1, rfl⟩
      · exact .inr ⟨p, e1, rfl, t⟩
    · exact ⟨h2.1, rfl⟩
/-- the frame without slot i's own things -/
def without (F : Nat → List Addr) (i : Nat) : Nat → List Addr := fun j => if j = i then [] else F j
theorem without_sub {F : Nat → List Addr} {i : Nat} {a : Addr} (h : FP (without F i) a) : FP F a := by
  obtain ⟨j, m⟩ := h
  unfold without at m
  split at m
  · cases m
  · exact ⟨j, m⟩
theorem Sta.out {ks : Nat → Kind} {pin : Nat → Option V} {B H : Hp} {σ : L2.St} {ρ : Env} {F : Nat → List Addr} (sta : Sta C ks pin B H σ ρ F) (i : Nat) : Sta C ks pin B H σ (st ρ i none) (without F i) where
  len := by rw [st_length]; exact sta.len
  sub := sta.sub
  tab := sta.tab
  rep := fun j d e => by
    rw [gt_st] at e
    split at e
    · cases e
    · rename_i n
      obtain ⟨v, h1, h2⟩ := sta.rep j d e
      have nj : j ≠ i := fun z => n ⟨z, by rw [← z]; exact gt_lt e⟩
      exact ⟨v, h1, by unfold without; rw [if_neg nj]; exact h2⟩
  nf := fun j e => by
    unfold without
    split
    · rfl
    · rename_i n
      rw [gt_st] at e
      rw [if_neg (fun z => n z.1)] at e
      exact sta.nf j e
  dj := fun j k a m m2 => by
    unfold without at m m2
    split at m
    · cases m
    · split at m2
      · cases m2
      · exact sta.dj j k a m m2
  nB := fun j a m => by
    unfold without at m
    split at m
    · cases m
    · exact sta.nB j a m
  pin := sta.pin
theorem snd_mv (i : Nat) : SndE C sg (.mv i) := by
  intro nb ks hnb pin W B H σ ρ F k Q hk sta h
  simp only [evE] at h
  cases e : gt ρ i with
  | none => rw [e] at h; exact h.elim
  | some d =>
    rw [e] at h
    obtain ⟨v, h1, h2⟩ := sta.rep i d e
    simp only [kE] at hk
    split at hk <;> simp only [reduceCtorEq, Option.some.injEq] at hk
    subst hk
    refine ⟨v, h1, h v B H (without F i) (F i) ⟨fun _ _ e => e, fun _ _ e _ _ => e, fun _ e => e, fun a z => z.elim (fun q => .inl (without_sub q)) fun m => .inl ⟨i, m⟩, fun _ e => .inl e⟩ (sta.out i) ⟨h2, fun a m z => ?_, fun a m => sta.nB i a m⟩ fun pu => by simp [pureE] at pu⟩
    obtain ⟨j, mj⟩ := z
    unfold without at mj
    split at mj
    · cases mj
    · rename_i n
      exact n (sta.dj j i a mj m)
theorem snd_cst (d : D) : SndE C sg (.cst d) := by
  intro nb ks hnb pin W B H σ ρ F k Q hk sta h
  simp only [evE] at h
  simp only [kE] at hk
  split at hk <;> simp only [reduceCtorEq, Option.some.injEq] at hk
  rename_i hs
  subst hk
  have : ∃ v, scV d = some v := by cases d <;> simp only [D.isSc, Bool.false_eq_true] at hs <;> exact ⟨_, rfl⟩
  obtain ⟨v, hv⟩ := this
  exact ⟨v, hv, h v B H F [] (Step.id rfl) sta ⟨⟨hv, rfl⟩, nomem, nomem⟩ fun _ => ⟨Up.refl H, rfl⟩⟩
/-- a new object -/
theorem Step.new_ {B H : Hp} {F : Nat → List Addr} {p : Addr} {o : HO} (hp : H p = none) {f : List Addr} (hf : ∀ a ∈ f, a = p) : Step B H (FP F) B (upd H p o) (fun a => FP F a ∨ a ∈ f) where
  ex := fun _ _ e => e
  up := fun a u e _ _ => by rw [upd_ne (ne_of_none e hp)]; exact e
  th := fun a h => by
    by_cases e : a = p
    · rw [e, upd_same]; simp
    · rw [upd_ne e]; exact h
  new := fun a z => z.elim .inl fun m => .inr (by rw [hf a m]; exact hp)
  newB := fun _ h => .inl h
theorem upd_up {H : Hp} {p : Addr} {o : HO} (hp : H p = none) : ∀ a u, H a = some u → upd H p o a = some u := fun a u e => by rw [upd_ne (ne_of_none e hp)]; exact e
theorem Sta.new_ {ks : Nat → Kind} {pin : Nat → Option V} {B H : Hp} {σ : L2.St} {ρ : Env} {F : Nat → List Addr} {p : Addr} {o : HO} (sta : Sta C ks pin B H σ ρ F) (hp : H p = none) : Sta C ks pin B (upd H p o) σ ρ F :=
  sta.step (P' := Nil) ⟨fun _ _ e => e, fun a u e _ _ => upd_up hp a u e, fun a h => by
    by_cases e : a = p
    · rw [e, upd_same]; simp
    · rw [upd_ne e]; exact h, fun a z => z.elim, fun _ h => .inl h⟩ (fun a u e => ⟨upd_up hp a u (sta.sub a u e).1, (sta.sub a u e).2⟩) (sta.tab.ext (upd_up hp))
theorem Sta.freeB {ks : Nat → Kind} {pin : Nat → Option V} {B H : Hp} {σ : L2.St} {ρ : Env} {F : Nat → List Addr} {p : Addr} (sta : Sta C ks pin B H σ ρ F) (hp : H p = none) : B p = none := by
  cases e : B p with
  | none => rfl
  | some o => rw [(sta.sub p o e).1] at hp; cases hp
theorem Sta.freeF {ks : Nat → Kind} {pin : Nat → Option V} {B H : Hp} {σ : L2.St} {ρ : Env} {F : Nat → List Addr} {p : Addr} (sta : Sta C ks pin B H σ ρ F) (hp : H p = none) : ¬ FP F p := fun z => by
  obtain ⟨o, e, _⟩ := sta.atF z
  rw [e] at hp; cases hp
/-- the thing read, its items in a base that only kind bo has to be the heap -/
theorem Has.read {B H : Hp} {F : Nat → List Addr} {k : Kind} {d : D} {v : V} {f : List Addr} (h : Has C B H F k d v f) (sub : Sub B H) :
    (k = .bo → hold1 C.K (vis H Nil) H d v) ∧ (k ≠ .bo → hold1 C.K (join B H f) H d v) := by
  have r := h.rep
  refine ⟨fun e => ?_, fun n => ?_⟩
  · subst e
    exact hold_1 vis_sub (vis_hold r.1)
  · have js := join_sub (f := f) sub h.at
    cases k <;> simp only [vrep] at r
    · exact sc_1 r.1
    · exact hold_1 js (hold_mono (.of fun a o e _ => join_ext h.nB a o e) _ _ r.1)
    · rcases r with r | ⟨p, rfl, _, t⟩
      · exact sc_1 r.1
      · exact topAt_1 (topAt_keep t (.of fun a o e _ => join_ext h.nB a o e) fun _ e _ => e)
    · exact hold_1 js (own_hold d v f r fun a m o e _ => by rw [join_in m]; exact e)
    · rcases r with r | ⟨p, rfl, _, t⟩
      · exact sc_1 r.1
      · exact topAt_1 (topAt_keep t (.of fun a o e _ => join_ext h.nB a o e) fun _ e _ => e)
    · exact absurd rfl n
/-- where a scalar comes out -/
theorem Post.sc {ks : Nat → Kind} {pin : Nat → Option V} {B H B1 H1 : Hp} {σ : L2.St} {ρ' : Env} {F F1 : Nat → List Addr} {x : D} {w : V} {pu : Bool} {Q : VK} {f : List Addr} (h : Post C ks pin σ B H F ρ' .im x pu Q) (hw : scV x = some w)
    (st1 : Step B H (FP F) B1 H1 (fun a => FP F1 a ∨ a ∈ f)) (sta1 : Sta C ks pin B1 H1 σ ρ' F1) (pu1 : pu = true → Up H H1 ∧ F1 = F) : Q w H1 :=
  h w B1 H1 F1 [] (st1.less fun a z => z.elim .inl fun m => by cases m) sta1 ⟨⟨hw, rfl⟩, nomem, nomem⟩ pu1
/-- where a new thing comes out, its items in the base -/
theorem Post.newT {ks : Nat → Kind} {pin : Nat → Option V} {B H B1 H1 : Hp} {σ : L2.St} {ρ' : Env} {F F1 : Nat → List Addr} {d : D} {o : HO} {pu : Bool} {Q : VK} {f : List Addr} {p : Addr} (h : Post C ks pin σ B H F ρ' .top d pu Q)
    (hx : ∀ Hx : Hp, Hx p = some o → topAt C.K (join B1 H1 f) Hx p d)
    (st1 : Step B H (FP F) B1 H1 (fun a => FP F1 a ∨ a ∈ f)) (sta1 : Sta C ks pin B1 H1 σ ρ' F1) (dj : ∀ a ∈ f, ¬ FP F1 a) (nB : ∀ a ∈ f, B1 a = none) (at_ : ∀ a ∈ f, ∃ o, H1 a = some o ∧ Lay o) (pu1 : pu = true → Up H H1 ∧ F1 = F) (hp : H1 p = none) : Q (.ref p) (upd H1 p o) := by
  have st2 := st1.join nB fun _ m => m
  have sta2 := sta1.absorb at_ dj nB
  have st3 : Step B H (FP F) (join B1 H1 f) (upd H1 p o) (fun a => FP F1 a ∨ a ∈ [p]) := by
    have := Step.row (f := []) (st2.less fun a z => z.elim id fun m => by cases m) (Step.new_ (F := F1) (B := join B1 H1 f) (o := o) hp (f := [p]) fun a m => List.mem_singleton.mp m)
    exact this
  refine h (.ref p) _ _ F1 [p] st3 (sta2.new_ hp) ⟨.inr ⟨p, rfl, rfl, hx _ upd_same⟩, fun a m => ?_, fun a m => ?_⟩ fun z => ⟨(pu1 z).1.trans fun a o e _ => upd_up hp a o e, (pu1 z).2⟩
  · rw [List.mem_singleton.mp m]; exact sta2.freeF hp
  · rw [List.mem_singleton.mp m]; exact sta2.freeB hp
/-- where a new thing comes out, its items borrowed -/
theorem Post.newB {ks : Nat → Kind} {pin : Nat → Option V} {B H B1 H1 : Hp} {σ : L2.St} {ρ' : Env} {F F1 : Nat → List Addr} {d : D} {o : HO} {pu : Bool} {Q : VK} {f : List Addr} {p : Addr} (h : Post C ks pin σ B H F ρ' .bo d pu Q) (hx : hold C.K (upd H1 p o) d (.ref p))
    (st1 : Step B H (FP F) B1 H1 (fun a => FP F1 a ∨ a ∈ f)) (sta1 : Sta C ks pin B1 H1 σ ρ' F1) (pu1 : pu = true → Up H H1 ∧ F1 = F) (hp : H1 p = none) : Q (.ref p) (upd H1 p o) := by
  have st3 : Step B H (FP F) B1 (upd H1 p o) (fun a => FP F1 a ∨ a ∈ []) := by
    have := Step.row (f := []) (g := []) (st1.less fun a z => z.elim .inl fun m => by cases m) (Step.new_ (F := F1) (B := B1) (o := o) hp (f := []) nomem)
    exact this
  exact h (.ref p) _ _ F1 [] st3 (sta1.new_ hp) ⟨⟨hx, rfl⟩, nomem, nomem⟩ fun z => ⟨(pu1 z).1.trans fun a o e _ => upd_up hp a o e, (pu1 z).2⟩
/-- where a new thing comes out that is all its owner's -/
theorem Post.newO {ks : Nat → Kind} {pin : Nat → Option V} {B H B1 H1 : Hp} {σ : L2.St} {ρ' : Env} {F F1 : Nat → List Addr} {d : D} {o : HO} {pu : Bool} {Q : VK} {f : List Addr} {p : Addr} (h : Post C ks pin σ B H F ρ' .deep d pu Q) (hx : ∀ Hx : Hp, Hx p = some o → (∀ a ∈ f, ∀ o, H1 a = some o → Hx a = some o) → p ∉ f → own Hx d (.ref p) (p :: f))
    (st1 : Step B H (FP F) B1 H1 (fun a => FP F1 a ∨ a ∈ f)) (sta1 : Sta C ks pin B1 H1 σ ρ' F1) (dj : ∀ a ∈ f, ¬ FP F1 a) (nB : ∀ a ∈ f, B1 a = none) (at_ : ∀ a ∈ f, ∃ o, H1 a = some o ∧ Lay o) (pu1 : pu = true → Up H H1 ∧ F1 = F) (hp : H1 p = none) : Q (.ref p) (upd H1 p o) := by
  have pf : p ∉ f := fun m => by
    obtain ⟨o', e, _⟩ := at_ p m
    rw [hp] at e; cases e
  have st3 : Step B H (FP F) B1 (upd H1 p o) (fun a => FP F1 a ∨ a ∈ p :: f) := by
    have s2 := Step.row (f := f) st1 (Step.new_ (F := F1) (B := B1) (o := o) hp (f := [p]) fun a m => List.mem_singleton.mp m)
    exact s2.less fun a z => z.imp id fun m => by
      rcases List.mem_cons.mp m with e | m
      · exact List.mem_append_right _ (List.mem_singleton.mpr e)
      · exact List.mem_append_left _ m
  refine h (.ref p) _ _ F1 (p :: f) st3 (sta1.new_ hp) ⟨hx _ upd_same (fun a _ o e => upd_up hp a o e) pf, fun a m => ?_, fun a m => ?_⟩ fun z => ⟨(pu1 z).1.trans fun a o e _ => upd_up hp a o e, (pu1 z).2⟩
  · rcases List.mem_cons.mp m with e | m
    · rw [e]; exact sta1.freeF hp
    · exact dj a m
  · rcases List.mem_cons.mp m with e | m
    · rw [e]; exact sta1.freeB hp
    · exact nB a m
theorem holdsB {H : Hp} {ds : List D} {xs : List V} {p : Addr} {o : HO} (hp : H p = none) (h : holds C.K (vis H Nil) ds xs) : holds C.K (upd H p o) ds xs :=
  holds_mono (.of fun a o e _ => upd_up hp a o (vis_some e).2.1) _ _ h
/-- where a new list of scalars comes out -/
theorem Post.newS {ks : Nat → Kind} {pin : Nat → Option V} {B H B1 H1 : Hp} {σ : L2.St} {ρ' : Env} {F F1 : Nat → List Addr} {ns : List Int} {pu : Bool} {Q : VK} {f : List Addr} {p : Addr} (h : Post C ks pin σ B H F ρ' .deep (.lst (ns.map D.int)) pu Q)
    (st1 : Step B H (FP F) B1 H1 (fun a => FP F1 a ∨ a ∈ f)) (sta1 : Sta C ks pin B1 H1 σ ρ' F1) (pu1 : pu = true → Up H H1 ∧ F1 = F) (hp : H1 p = none) : Q (.ref p) (upd H1 p (.lst (ns.map V.int))) := by
  have st3 : Step B H (FP F) B1 (upd H1 p (.lst (ns.map V.int))) (fun a => FP F1 a ∨ a ∈ [p]) := by
    have := Step.row (f := []) (st1.less fun a z => z.elim .inl fun m => by cases m) (Step.new_ (F := F1) (B := B1) (o := .lst (ns.map V.int)) hp (f := [p]) fun a m => List.mem_singleton.mp m)
    exact this
  refine h (.ref p) _ _ F1 [p] st3 (sta1.new_ hp) ⟨⟨p, ns.map V.int, [], rfl, rfl, upd_same, by simp, owns_sc (fun d m => ?_) C.K B1 (holds_ints ns)⟩, fun a m => ?_, fun a m => ?_⟩ fun z => ⟨(pu1 z).1.trans fun a o e _ => upd_up hp a o e, (pu1 z).2⟩
  · obtain ⟨n, _, rfl⟩ := List.mem_map.mp m; rfl
  · rw [List.mem_singleton.mp m]; exact sta1.freeF hp
  · rw [List.mem_singleton.mp m]; exact sta1.freeB hp
end
end TW

namespace TW
open PySem L2
section
variable {C : Ctx} {sg : Nat → Sig}
theorem kd_sc {o : Op1} {k : Kind} (h : o.cl = .sc) : o.kd k = .im := by cases o <;> simp only [Op1.cl, reduceCtorEq] at h <;> rfl
theorem kd_new {o : Op1} {k : Kind} (h : o.cl = .new) : o.kd k = k.mk := by cases o <;> simp only [Op1.cl, reduceCtorEq] at h <;> rfl
theorem kd_fresh {o : Op1} {k : Kind} (h : o.cl = .fresh) : o.kd k = .deep := by cases o <;> simp only [Op1.cl, reduceCtorEq] at h <;> rfl
theorem mk_ne {k : Kind} (h : k ≠ .bo) : k.mk = .top := by cases k <;> simp_all [Kind.mk]
theorem run1_exc {o : Op1} {d : D} {c : Nat} : o.run d ≠ .exc c := by
  cases o <;> cases d <;> simp only [Op1.run, okA, okI, okB, ne_eq, reduceCtorEq, not_false_eq_true] <;> (repeat' split) <;> (try simp)
theorem snd_op1 {o : Op1} {a : IE} (ha : SndE C sg a) : SndE C sg (.op1 o a) := by
  intro nb ks hnb pin W B H σ ρ F k' Q hk sta h
  simp only [kE] at hk
  split at hk <;> try (simp only [reduceCtorEq] at hk)
  rename_i k hk1
  split at hk <;> simp only [reduceCtorEq, Option.some.injEq] at hk
  rename_i hl
  subst hk
  refine ha nb ks hnb pin W B H σ ρ F k _ hk1 sta ?_
  simp only [evE, pureE] at h
  cases ev : evE C.Φ a ρ with
  | bad => rw [ev] at h; exact h
  | exc c => rw [ev] at h; exact h
  | ok p =>
    obtain ⟨d, ρ1⟩ := p
    rw [ev] at h
    simp only at h
    show Post C ks pin σ B H F ρ1 k d (pureE sg a) _
    intro v B1 H1 F1 f1 st1 sta1 has1 pu1
    cases er : o.run d with
    | bad => rw [er] at h; exact h.elim
    | exc c => exact absurd er run1_exc
    | ok x =>
      rw [er] at h
      simp only at h
      have hh := vrep_hold sta1.sub has1.rep
      cases ec : o.cl with
      | sc =>
        rw [kd_sc ec] at h
        obtain ⟨w, hw, q⟩ := op1_sc ec er (hold_self hh)
        exact q Q (Post.sc h hw st1 sta1 pu1)
      | new =>
        rw [kd_new ec] at h
        obtain ⟨rb, rn⟩ := has1.read sta1.sub
        by_cases eb : k = .bo
        · subst eb
          obtain ⟨ds, xs, rfl, hx, q⟩ := new_lst ec er (rb rfl)
          exact q Q fun p hp => Post.newB h ⟨p, xs, rfl, upd_same, holdsB hp hx⟩ st1 sta1 pu1 hp
        · rw [mk_ne eb] at h
          obtain ⟨ds, xs, rfl, hx, q⟩ := new_lst ec er (rn eb)
          exact q Q fun p hp => Post.newT h (fun Hx e => ⟨xs, e, hx⟩) st1 sta1 has1.dj has1.nB has1.at pu1 hp
      | fresh =>
        rw [kd_fresh ec] at h
        obtain ⟨ns, rfl, q⟩ := fresh_lst ec er (hold_self hh) fun eo ks' ed => by
          subst ed
          have kk : k = .top ∨ k = .bt := Classical.byContradiction fun z => hl ⟨eo, z⟩
          have r := has1.rep
          rcases kk with rfl | rfl
          · rcases r with r | ⟨p, e1, _, kvs, t1, t2⟩
            · simp [scV] at r
            · exact ⟨p, kvs, e1, t1, holdK_mono sta1.sub.ext _ _ t2⟩
          · rcases r with r | ⟨p, e1, _, kvs, t1, t2⟩
            · simp [scV] at r
            · exact ⟨p, kvs, e1, t1, holdK_mono sta1.sub.ext _ _ t2⟩
        exact q Q fun p hp => Post.newS h st1 sta1 pu1 hp
      | kid => cases o <;> simp only [Op1.cl, reduceCtorEq] at ec
      | same =>
        cases o <;> simp only [Op1.cl, reduceCtorEq] at ec
        case sc =>
          simp only [Op1.run] at er
          split at er <;> simp only [reduceCtorEq, Res.ok.injEq] at er
          rename_i hs
          subst er
          exact Post.sc h (sc_of hh hs) st1 sta1 pu1
        case opq =>
          simp only [Op1.run, Res.ok.injEq] at er
          subst er
          exact h v B1 H1 F1 [] (st1.less fun a z => z.elim .inl fun m => by cases m) sta1 ⟨⟨trivial, rfl⟩, nomem, nomem⟩ pu1
        case scl =>
          cases d <;> simp only [Op1.run, reduceCtorEq] at er
          rename_i ds
          split at er <;> simp only [reduceCtorEq, Res.ok.injEq] at er
          rename_i hs
          subst er
          by_cases ho : ownK k = true
          · have ek : Op1.kd .scl k = .deep := by simp only [Op1.kd, if_pos ho]
            rw [ek] at h
            cases k <;> simp only [ownK, Bool.false_eq_true] at ho
            · rcases has1.rep with r | ⟨p, e1, e2, xs, t1, t2⟩
              · simp [scV] at r
              · refine h v B1 H1 F1 f1 st1 sta1 ⟨⟨p, xs, [], e1, e2, t1, by simp, owns_sc (fun d m => List.all_eq_true.mp hs d m) C.K B1 t2⟩, has1.dj, has1.nB⟩ pu1
            · exact h v B1 H1 F1 f1 st1 sta1 has1 pu1
          · have ek : Op1.kd .scl k = k := by simp only [Op1.kd]; rw [if_neg ho]
            rw [ek] at h
            exact h v B1 H1 F1 f1 st1 sta1 has1 pu1
/-! ### two and three operands -/
theorem has_two {B H : Hp} {F : Nat → List Addr} {k l : Kind} {ds : List D} {vs : List V} {f : List Addr} (h : HasL C B H F [k, l] ds vs f) :
    ∃ d e v u f1 f2, ds = [d, e] ∧ vs = [v, u] ∧ f = f1 ++ f2 ∧ Has C B H F k d v f1 ∧ Has C B H F l e u f2 := by
  obtain ⟨d, r, v, s, f1, f2, rfl, rfl, rfl, h1, ⟨e, r2, u, s2, g1, g2, rfl, rfl, rfl, h2, ⟨rfl, rfl, rfl⟩, _⟩, _⟩ := h
  exact ⟨d, e, v, u, f1, g1, rfl, rfl, by simp, h1, h2⟩
theorem has_three {B H : Hp} {F : Nat → List Addr} {k l m : Kind} {ds : List D} {vs : List V} {f : List Addr} (h : HasL C B H F [k, l, m] ds vs f) :
    ∃ d e g v u w f1 f2 f3, ds = [d, e, g] ∧ vs = [v, u, w] ∧ f = f1 ++ (f2 ++ f3) ∧ Has C B H F k d v f1 ∧ Has C B H F l e u f2 ∧ Has C B H F m g w f3 := by
  obtain ⟨d, r, v, s, f1, f2, rfl, rfl, rfl, h1, h23, _⟩ := h
  obtain ⟨e, g, u, w, g1, g2, rfl, rfl, rfl, h2, h3⟩ := has_two h23
  exact ⟨d, e, g, v, u, w, f1, g1, g2, rfl, rfl, rfl, h1, h2, h3⟩
theorem kEs_two {nb : Bool} {ks : Nat → Kind} {a b : IE} {k l : Kind} (h1 : kE sg nb ks a = some k) (h2 : kE sg nb ks b = some l) (p : (k.borrowed && !pureE sg b) = false) : kEs sg nb ks (.cons a (.cons b .nil)) = some [k, l] := by
  simp only [kEs, h1, h2, pureEs, Bool.and_true, p, Bool.not_true, Bool.and_false, Bool.false_eq_true, if_false]
theorem kEs_three {nb : Bool} {ks : Nat → Kind} {a b c : IE} {k l m : Kind} (h1 : kE sg nb ks a = some k) (h2 : kE sg nb ks b = some l) (h3 : kE sg nb ks c = some m) (p : (k.borrowed && !(pureE sg b && pureE sg c)) = false) (q : (l.borrowed && !pureE sg c) = false) :
    kEs sg nb ks (.cons a (.cons b (.cons c .nil))) = some [k, l, m] := by
  have e2 := kEs_two h2 h3 q
  rw [kEs, h1, e2]
  simp only [pureEs, Bool.and_true, p, Bool.false_eq_true, if_false]
theorem evEs_two {Φ : Nat → FnSem} {a b : IE} {ρ : Env} : evEs Φ (.cons a (.cons b .nil)) ρ = (match evE Φ a ρ with
    | .ok (d, ρ1) => match evE Φ b ρ1 with
      | .ok (e, ρ2) => .ok ([d, e], ρ2)
      | .exc c => .exc c | .bad => .bad
    | .exc c => .exc c | .bad => .bad) := by
  simp only [evEs]
  cases evE Φ a ρ with
  | ok p => obtain ⟨d, ρ1⟩ := p; simp only; cases evE Φ b ρ1 <;> rfl
  | exc c => rfl
  | bad => rfl
theorem evEs_three {Φ : Nat → FnSem} {a b c : IE} {ρ : Env} : evEs Φ (.cons a (.cons b (.cons c .nil))) ρ = (match evE Φ a ρ with
    | .ok (d, ρ1) => match evE Φ b ρ1 with
      | .ok (e, ρ2) => match evE Φ c ρ2 with
        | .ok (f, ρ3) => .ok ([d, e, f], ρ3)
        | .exc c => .exc c | .bad => .bad
      | .exc c => .exc c | .bad => .bad
    | .exc c => .exc c | .bad => .bad) := by
  rw [evEs]
  cases evE Φ a ρ with
  | ok p =>
    obtain ⟨d, ρ1⟩ := p
    simp only [evEs_two]
    cases evE Φ b ρ1 with
    | ok p => obtain ⟨e, ρ2⟩ := p; simp only; cases evE Φ c ρ2 <;> rfl
    | exc c => rfl
    | bad => rfl
  | exc c => rfl
  | bad => rfl
theorem rd_two {a b : IE} {W : WX} {σ : L2.St} {H : Hp} {R : V → V → Hp → Prop} (h : rdEs C (.cons a (.cons b .nil)) W σ H fun vs H2 => R (v0 vs) (v1 vs) H2) : rdE C a W σ H fun x H1 => rdE C b W σ H1 fun y H2 => R x y H2 := h
theorem rd_three {a b c : IE} {W : WX} {σ : L2.St} {H : Hp} {R : V → V → V → Hp → Prop} (h : rdEs C (.cons a (.cons b (.cons c .nil))) W σ H fun vs H2 => R (v0 vs) (v1 vs) (v2 vs) H2) :
    rdE C a W σ H fun x H1 => rdE C b W σ H1 fun y H2 => rdE C c W σ H2 fun z H3 => R x y z H3 := h
theorem run2_exc {o : Op2} {d e : D} {c : Nat} : o.run d e ≠ .exc c := by
  intro h
  unfold Op2.run at h
  split at h <;> (try simp only [okI, okB, reduceCtorEq] at h) <;> (try (split at h <;> (try simp only [okI, okB, reduceCtorEq] at h))) <;> (try (split at h <;> (try simp only [okI, okB, reduceCtorEq] at h)))
end
end TW

namespace TW
open PySem L2
section
variable {C : Ctx} {sg : Nat → Sig}
/-- read in a wider base -/
theorem Has.readW {B H : Hp} {F : Nat → List Addr} {k : Kind} {d : D} {v : V} {f g : List Addr} (h : Has C B H F k d v f) (sub : Sub B H) (hg : ∀ a ∈ f, a ∈ g) (nB : ∀ a ∈ g, B a = none) (at_ : ∀ a ∈ g, ∃ o, H a = some o ∧ Lay o) (n : k ≠ .bo) : hold1 C.K (join B H g) H d v := by
  have js := join_sub (f := g) sub at_
  have r := h.rep
  have ex : Ext B (join B H g) := .of fun a o e _ => join_ext nB a o e
  cases k <;> simp only [vrep] at r
  · exact sc_1 r.1
  · exact hold_1 js (hold_mono ex _ _ r.1)
  · rcases r with r | ⟨p, rfl, _, t⟩
    · exact sc_1 r.1
    · exact topAt_1 (topAt_keep t ex fun _ e _ => e)
  · exact hold_1 js (own_hold d v f r fun a m o e _ => by rw [join_in (hg a m)]; exact e)
  · rcases r with r | ⟨p, rfl, _, t⟩
    · exact sc_1 r.1
    · exact topAt_1 (topAt_keep t ex fun _ e _ => e)
  · exact absurd rfl n
/-- wholly in a wider base -/
theorem Has.openW {B H : Hp} {F : Nat → List Addr} {k : Kind} {d : D} {v : V} {f g : List Addr} (h : Has C B H F k d v f) (hg : ∀ a ∈ f, a ∈ g) (nB : ∀ a ∈ g, B a = none) (l : k.le .sh = true) : hold C.K (join B H g) d v :=
  hold_mono (.of fun a o e _ => by
    by_cases m : a ∈ f
    · rw [join_in m] at e; rw [join_in (hg a m)]; exact e
    · rw [join_out m] at e; exact join_ext nB a o e) _ _ (h.open_ l)
theorem HasL.all {B H : Hp} {F : Nat → List Addr} : ∀ {l : List Kind} {ds : List D} {vs : List V} {f : List Addr}, HasL C B H F l ds vs f → (∀ a ∈ f, ¬ FP F a) ∧ (∀ a ∈ f, B a = none) ∧ (∀ a ∈ f, ∃ o, H a = some o ∧ Lay o) ∧ ds.length = l.length ∧ vs.length = l.length
  | [], _, _, _, h => by obtain ⟨rfl, rfl, rfl⟩ := h; exact ⟨nomem, nomem, nomem, rfl, rfl⟩
  | k :: l, _, _, _, h => by
    obtain ⟨d, r, v, s, f1, f2, rfl, rfl, rfl, h1, h2, _⟩ := h
    obtain ⟨a1, a2, a3, a4, a5⟩ := HasL.all h2
    have sp : ∀ {p : Addr → Prop}, (∀ a ∈ f1, p a) → (∀ a ∈ f2, p a) → ∀ a ∈ f1 ++ f2, p a := fun x y a m => (List.mem_append.mp m).elim (x a) (y a)
    exact ⟨sp h1.dj a1, sp h1.nB a2, sp h1.at a3, by simp [a4], by simp [a5]⟩
theorem join_cases {k : Kind} {l : List Kind} : (joinL (k :: l) = .deep → (k = .im ∨ k = .deep) ∧ joinL l = .deep) ∧ (joinL (k :: l) = .top → k.le .sh = true ∧ (joinL l = .deep ∨ joinL l = .top)) := by
  have hj : joinL l = .deep ∨ joinL l = .top ∨ joinL l = .bo := by
    induction l with
    | nil => exact .inl rfl
    | cons a l ih => cases a <;> simp only [joinL] <;> (rcases ih with e | e | e <;> simp [e])
  cases k <;> rcases hj with e | e | e <;> simp [joinL, e, Kind.le]
theorem join_three {l : List Kind} : joinL l = .deep ∨ joinL l = .top ∨ joinL l = .bo := by
  induction l with
  | nil => exact .inl rfl
  | cons a l ih => cases a <;> simp only [joinL] <;> (rcases ih with e | e | e <;> simp [e])
theorem HasL.owns {B H : Hp} {F : Nat → List Addr} : ∀ {l : List Kind} {ds : List D} {vs : List V} {f : List Addr}, HasL C B H F l ds vs f → joinL l = .deep → owns H ds vs f
  | [], _, _, _, h, _ => by obtain ⟨rfl, rfl, rfl⟩ := h; exact ⟨rfl, rfl⟩
  | k :: l, _, _, _, h, j => by
    obtain ⟨d, r, v, s, f1, f2, rfl, rfl, rfl, h1, h2, dj⟩ := h
    obtain ⟨kk, jl⟩ := join_cases.1 j
    refine ⟨v, s, f1, f2, rfl, rfl, ?_, HasL.owns h2 jl, dj⟩
    have r1 := h1.rep
    rcases kk with rfl | rfl
    · obtain ⟨r1, rfl⟩ := r1; exact own_sc r1
    · exact r1
theorem HasL.opens {B H : Hp} {F : Nat → List Addr} {g : List Addr} (nB : ∀ a ∈ g, B a = none) : ∀ {l : List Kind} {ds : List D} {vs : List V} {f : List Addr}, HasL C B H F l ds vs f → (∀ a ∈ f, a ∈ g) → (joinL l = .deep ∨ joinL l = .top) → holds C.K (join B H g) ds vs
  | [], _, _, _, h, _, _ => by obtain ⟨rfl, rfl, rfl⟩ := h; rfl
  | k :: l, _, _, _, h, hg, j => by
    obtain ⟨d, r, v, s, f1, f2, rfl, rfl, rfl, h1, h2, _⟩ := h
    have key : k.le .sh = true ∧ (joinL l = .deep ∨ joinL l = .top) := by
      rcases j with j | j
      · obtain ⟨kk, jl⟩ := join_cases.1 j
        rcases kk with rfl | rfl <;> exact ⟨rfl, .inl jl⟩
      · exact join_cases.2 j
    exact ⟨v, s, rfl, h1.openW (fun a m => hg a (List.mem_append_left _ m)) nB key.1, HasL.opens nB h2 (fun a m => hg a (List.mem_append_right _ m)) key.2⟩
theorem HasL.hold {B H : Hp} {F : Nat → List Addr} (sub : Sub B H) : ∀ {l : List Kind} {ds : List D} {vs : List V} {f : List Addr}, HasL C B H F l ds vs f → holds C.K H ds vs
  | [], _, _, _, h => by obtain ⟨rfl, rfl, rfl⟩ := h; rfl
  | k :: l, _, _, _, h => by
    obtain ⟨d, r, v, s, f1, f2, rfl, rfl, rfl, h1, h2, _⟩ := h
    exact ⟨v, s, rfl, vrep_hold sub h1.rep, HasL.hold sub h2⟩
theorem sz1000 {n : Nat} (h : n ≤ 1000) : n ≤ sizeLine := Nat.le_trans h (by decide)
theorem snd_lst {es : IEs} (hes : SndEs C sg es) : SndE C sg (.lst es) := by
  intro nb ks hnb pin W B H σ ρ F k' Q hk sta h
  simp only [kE] at hk
  split at hk <;> try (simp only [reduceCtorEq] at hk)
  rename_i l hk1
  split at hk <;> simp only [reduceCtorEq, Option.some.injEq] at hk
  rename_i hl
  subst hk
  refine hes nb ks hnb pin W B H σ ρ F l _ hk1 sta ?_
  simp only [evE, pureE] at h
  cases ev : evEs C.Φ es ρ with
  | bad => rw [ev] at h; exact h
  | exc c => rw [ev] at h; exact h
  | ok p =>
    obtain ⟨ds, ρ1⟩ := p
    rw [ev] at h
    intro vs B1 H1 F1 f st1 sta1 has1 pu1
    obtain ⟨a1, a2, a3, a4, a5⟩ := has1.all
    refine ⟨by rw [a5]; exact sz1000 hl, fun p hp => ?_⟩
    have h : Post C ks pin σ B H F ρ1 (joinL l) (.lst ds) (pureEs sg es) Q := h
    rcases join_three (l := l) with e | e | e <;> rw [e] at h
    · exact Post.newO h (fun Hx e1 e2 pf => ⟨p, vs, f, rfl, rfl, e1, pf, owns_keep _ _ _ (has1.owns e) fun a m o e3 _ => e2 a m o e3⟩) st1 sta1 a1 a2 a3 pu1 hp
    · exact Post.newT h (fun Hx e1 => ⟨vs, e1, has1.opens a2 (fun _ m => m) (.inr e)⟩) st1 sta1 a1 a2 a3 pu1 hp
    · exact Post.newB h ⟨p, vs, rfl, upd_same, holds_mono (.of fun a o e _ => upd_up hp a o e) _ _ (has1.hold sta1.sub)⟩ st1 sta1 pu1 hp
theorem snd_tup {es : IEs} (hes : SndEs C sg es) : SndE C sg (.tup es) := by
  intro nb ks hnb pin W B H σ ρ F k' Q hk sta h
  simp only [kE] at hk
  split at hk <;> try (simp only [reduceCtorEq] at hk)
  rename_i l hk1
  split at hk <;> simp only [reduceCtorEq, Option.some.injEq] at hk
  rename_i hl
  subst hk
  refine hes nb ks hnb pin W B H σ ρ F l _ hk1 sta ?_
  simp only [evE, pureE] at h
  cases ev : evEs C.Φ es ρ with
  | bad => rw [ev] at h; exact h
  | exc c => rw [ev] at h; exact h
  | ok p =>
    obtain ⟨ds, ρ1⟩ := p
    rw [ev] at h
    intro vs B1 H1 F1 f st1 sta1 has1 pu1
    obtain ⟨a1, a2, a3, a4, a5⟩ := has1.all
    refine ⟨by rw [a5]; exact sz1000 hl, fun p hp => ?_⟩
    have h : Post C ks pin σ B H F ρ1 (joinT l) (.tup ds) (pureEs sg es) Q := h
    rcases join_three (l := l) with e | e | e
    · have ej : joinT l = .deep := by simp [joinT, e]
      rw [ej] at h
      exact Post.newO h (fun Hx e1 e2 pf => ⟨p, vs, f, rfl, rfl, e1, pf, owns_keep _ _ _ (has1.owns e) fun a m o e3 _ => e2 a m o e3⟩) st1 sta1 a1 a2 a3 pu1 hp
    · have ej : joinT l = .sh := by simp [joinT, e]
      rw [ej] at h
      exact Post.newT (Post.le h (k := .top) rfl) (fun Hx e1 => ⟨vs, e1, has1.opens a2 (fun _ m => m) (.inr e)⟩) st1 sta1 a1 a2 a3 pu1 hp
    · have ej : joinT l = .bo := by simp [joinT, e]
      rw [ej] at h
      exact Post.newB h ⟨p, vs, rfl, upd_same, holds_mono (.of fun a o e _ => upd_up hp a o e) _ _ (has1.hold sta1.sub)⟩ st1 sta1 pu1 hp
/-- an item of what is one's own -/
theorem owns_get {H : Hp} : ∀ {ds : List D} {xs : List V} {f : List Addr} {i : Nat} {d : D}, owns H ds xs f → ds[i]? = some d → ∃ x g, xs[i]? = some x ∧ own H d x g ∧ ∀ a ∈ g, a ∈ f
  | [], _, _, _, _, _, e => by simp at e
  | d :: ds, _, _, 0, d', h, e => by
    obtain ⟨x, r, g1, g2, rfl, rfl, h1, h2, _⟩ := h
    simp at e; subst e
    exact ⟨x, g1, rfl, h1, fun a m => List.mem_append_left _ m⟩
  | d :: ds, _, _, i + 1, d', h, e => by
    obtain ⟨x, r, g1, g2, rfl, rfl, h1, h2, _⟩ := h
    obtain ⟨y, g, e1, e2, e3⟩ := owns_get (i := i) h2 (by simpa using e)
    exact ⟨y, g, by simpa using e1, e2, fun a m => List.mem_append_right _ (e3 a m)⟩
theorem kd2_sc {o : Op2} {k l : Kind} (h : o.cl = .sc) : o.kd k l = .im := by cases o <;> simp only [Op2.cl, reduceCtorEq] at h <;> cases k <;> rfl
theorem snd_op2 {o : Op2} {a b : IE} (ha : SndE C sg a) (hb : SndE C sg b) : SndE C sg (.op2 o a b) := by
  intro nb ks hnb pin W B H σ ρ F k' Q hk sta h
  simp only [kE] at hk
  split at hk <;> try (simp only [reduceCtorEq] at hk)
  rename_i k l hk1 hk2
  split at hk <;> simp only [reduceCtorEq, Option.some.injEq] at hk
  rename_i hp
  subst hk
  have hp1 : (k.borrowed && !pureE sg b) = false := by
    cases q : (k.borrowed && !pureE sg b) with
    | false => rfl
    | true => rw [q] at hp; simp at hp
  refine rd_two (snd_cons ha (snd_cons hb snd_nil) nb ks hnb pin W B H σ ρ F [k, l] _ (kEs_two hk1 hk2 hp1) sta ?_)
  rw [evEs_two]
  simp only [evE] at h
  cases ev : evE C.Φ a ρ with
  | bad => rw [ev] at h; exact h
  | exc c => rw [ev] at h; exact h
  | ok p =>
    obtain ⟨d, ρ1⟩ := p
    rw [ev] at h
    simp only at h ⊢
    cases ev2 : evE C.Φ b ρ1 with
    | bad => rw [ev2] at h; exact h
    | exc c => rw [ev2] at h; exact h
    | ok p =>
      obtain ⟨e, ρ2⟩ := p
      rw [ev2] at h
      simp only at h ⊢
      intro vs B1 H1 F1 f st1 sta1 has1 pu1
      obtain ⟨a1, a2, a3, -, -⟩ := has1.all
      obtain ⟨d', e', v, u, f1, f2, ed, rfl, rfl, h1, h2⟩ := has_two has1
      cases ed
      show r2 C.K o v u H1 Q
      have pu1' : pureE sg (.op2 o a b) = true → Up H H1 ∧ F1 = F := fun z => pu1 (by
        simp only [pureE, Bool.and_eq_true] at z
        simp only [pureEs, z.1, z.2, Bool.and_true])
      cases er : o.run d e with
      | bad => rw [er] at h; exact h.elim
      | exc c => exact absurd er run2_exc
      | ok x =>
        rw [er] at h
        have h : Post C ks pin σ B H F ρ2 (o.kd k l) x (pureE sg (.op2 o a b)) Q := h
        have g1 := vrep_hold sta1.sub h1.rep
        have g2 := vrep_hold sta1.sub h2.rep
        have m1 : ∀ a ∈ f1, a ∈ f1 ++ f2 := fun a m => List.mem_append_left _ m
        have m2 : ∀ a ∈ f2, a ∈ f1 ++ f2 := fun a m => List.mem_append_right _ m
        cases ec : o.cl with
        | sc =>
          rw [kd2_sc ec] at h
          obtain ⟨w, hw, q⟩ := op2_sc ec er g1 g2
          exact q Q (Post.sc h hw st1 sta1 pu1')
        | new =>
          have key : (o.kd k l = .bo) ∨ (o.kd k l = .top ∧ k ≠ .bo ∧ (l ≠ .bo ∨ ∃ i, e = .int i)) := by
            cases o <;> simp only [Op2.cl, reduceCtorEq] at ec
            · by_cases z : k = .bo ∨ l = .bo
              · exact .inl (by simp only [Op2.kd, if_pos z])
              · exact .inr ⟨by simp only [Op2.kd, if_neg z], fun q => z (.inl q), .inl fun q => z (.inr q)⟩
            all_goals
              have ei : ∃ i, e = .int i := by
                cases d <;> cases e <;> simp only [Op2.run, reduceCtorEq] at er <;> exact ⟨_, rfl⟩
              cases k <;> simp only [Op2.kd, Kind.mk, reduceCtorEq, false_or, or_false, true_and, ne_eq, not_false_eq_true, not_true_eq_false, and_true, true_or] <;> exact .inr ei
          rcases key with e1 | ⟨e1, e2, e3⟩
          · rw [e1] at h
            obtain ⟨ds, xs, rfl, hx, q⟩ := op2_new ec er (hold_1 vis_sub (vis_hold g1)) (hold_1 vis_sub (vis_hold g2))
            exact q Q fun p hp => Post.newB h ⟨p, xs, rfl, upd_same, holdsB hp hx⟩ st1 sta1 pu1' hp
          · rw [e1] at h
            have r1 := h1.readW sta1.sub m1 a2 a3 e2
            have r2 : hold1 C.K (join B1 H1 (f1 ++ f2)) H1 e u := by
              rcases e3 with e3 | ⟨i, rfl⟩
              · exact h2.readW sta1.sub m2 a2 a3 e3
              · simp only [hold] at g2; subst g2; rfl
            obtain ⟨ds, xs, rfl, hx, q⟩ := op2_new ec er r1 r2
            exact q Q fun p hp => Post.newT h (fun Hx e => ⟨xs, e, hx⟩) st1 sta1 a1 a2 a3 pu1' hp
        | fresh => cases o <;> simp only [Op2.cl, reduceCtorEq] at ec
        | same => cases o <;> simp only [Op2.cl, reduceCtorEq] at ec
        | kid =>
          have deep : o.kd k l = .deep → o = .subL ∧ k = .deep := by
            cases o <;> simp only [Op2.cl, reduceCtorEq] at ec <;> cases k <;> simp [Op2.kd, Kind.kid]
          have rest : ¬ (o = .subL ∧ k = .deep) → o.kd k l = k.kid := by
            cases o <;> simp only [Op2.cl, reduceCtorEq] at ec <;> cases k <;> simp [Op2.kd]
          by_cases ed : o = .subL ∧ k = .deep
          · obtain ⟨rfl, rfl⟩ := ed
            have h : Post C ks pin σ B H F ρ2 .deep x _ Q := h
            have r1 := h1.rep
            cases d <;> cases e <;> simp only [Op2.run, reduceCtorEq] at er
            case lst.int ds i =>
              obtain ⟨p, xs, g, rfl, rfl, t1, t2, t3⟩ := r1
              split at er <;> simp only [reduceCtorEq, Res.ok.injEq] at er
              rename_i y ey
              subst er
              simp only [hold] at g2; subst g2
              have ey' := ey
              unfold nth at ey'
              rw [Option.bind_eq_some_iff] at ey'
              obtain ⟨j, j1, j2⟩ := ey'
              obtain ⟨w, g', w1, w2, w3⟩ := owns_get t3 j2
              refine ⟨p, xs, i, w, rfl, rfl, .of t1, ?_, h w B1 H1 F1 g' (st1.less fun a z => z.imp id fun m => m1 a (List.mem_cons_of_mem _ (w3 a m))) sta1 ⟨w2, fun a m => h1.dj a (List.mem_cons_of_mem _ (w3 a m)), fun a m => h1.nB a (List.mem_cons_of_mem _ (w3 a m))⟩ pu1'⟩
              unfold atI
              rw [Option.bind_eq_some_iff]
              exact ⟨j, by rw [← owns_length t3]; exact j1, w1⟩
            case scr.int ns i => exact r1.elim
          · rw [rest ed] at h
            by_cases eb : k = .bo
            · subst eb
              obtain ⟨w, hw, q⟩ := op2_kid ec er (hold_1 vis_sub (vis_hold g1)) (hold_1 vis_sub (vis_hold g2))
              exact q Q (h w B1 H1 F1 [] (st1.less fun a z => z.elim .inl fun m => by cases m) sta1 ⟨⟨hold_mono vis_sub.ext _ _ hw, rfl⟩, nomem, nomem⟩ pu1')
            · have ek : k.kid = .sh := by cases k <;> simp_all [Kind.kid]
              rw [ek] at h
              have r1 := h1.readW sta1.sub m1 a2 a3 eb
              have r2 : hold1 C.K (join B1 H1 (f1 ++ f2)) H1 e u := by
                by_cases el : l = .bo
                · subst el
                  -- a key that is borrowed: an int, or a tuple of ints
                  have : hold C.K H1 e u := g2
                  cases o <;> simp only [Op2.cl, reduceCtorEq] at ec
                  case subP =>
                    cases d <;> cases e <;> simp only [Op2.run, reduceCtorEq] at er
                    rename_i ks' ts
                    match ts, er, g2 with
                    | [.int i, .int j], er, g2 =>
                      simp only [hold, holds] at g2
                      obtain ⟨b, xs, rfl, e0, x, r, rfl, rfl, y, r', rfl, rfl, rfl⟩ := g2
                      exact ⟨b, _, rfl, e0, _, _, rfl, rfl, _, _, rfl, rfl, rfl⟩
                  all_goals
                    cases d <;> cases e <;> simp only [Op2.run, reduceCtorEq] at er
                    all_goals (simp only [hold] at this; subst this; rfl)
                · exact h2.readW sta1.sub m2 a2 a3 el
              obtain ⟨w, hw, q⟩ := op2_kid ec er r1 r2
              exact q Q (h w (join B1 H1 (f1 ++ f2)) H1 F1 [] ((st1.join a2 fun _ m => m).less fun a z => z.elim id fun m => by cases m) (sta1.absorb a3 a1 a2) ⟨⟨hw, rfl⟩, nomem, nomem⟩ pu1')
end
end TW

namespace TW
open PySem L2
section
variable {C : Ctx} {sg : Nat → Sig}
/-- what is wanted, from further on -/
theorem Post.shift {ks : Nat → Kind} {pin : Nat → Option V} {B H B1 H1 : Hp} {σ : L2.St} {ρ' : Env} {F F1 : Nat → List Addr} {k : Kind} {d : D} {pu pb : Bool} {Q : VK} {f : List Addr} (h : Post C ks pin σ B H F ρ' k d pu Q)
    (st1 : Step B H (FP F) B1 H1 (fun a => FP F1 a ∨ a ∈ f)) (hp : pu = true → pb = true ∧ Up H H1 ∧ F1 = F) : Post C ks pin σ B1 H1 F1 ρ' k d pb Q := fun v B2 H2 F2 g st2 sta2 has2 p2 =>
  h v B2 H2 F2 g (Step.row (f := []) (st1.less fun a (z : FP F1 a ∨ a ∈ []) => z.elim Or.inl fun m => absurd m (by simp)) st2) sta2 has2 fun z => by
    obtain ⟨e1, e2, e3⟩ := hp z
    obtain ⟨u1, u2⟩ := p2 e1
    exact ⟨e2.trans u1, u2.trans e3⟩
theorem Fin.shift {ks : Nat → Kind} {pin : Nat → Option V} {B H B1 H1 : Hp} {σ : L2.St} {F F1 : Nat → List Addr} {W : WX} {k : Kind} {pu pb : Bool} {Q : VK} {f : List Addr} {r : Res (D × Env)} (h : Fin C ks pin σ B H F W k pu r Q)
    (st1 : Step B H (FP F) B1 H1 (fun a => FP F1 a ∨ a ∈ f)) (hp : pu = true → pb = true ∧ Up H H1 ∧ F1 = F) : Fin C ks pin σ B1 H1 F1 W k pb r Q := by
  cases r with
  | bad => exact h
  | exc c => exact fun H' x t => h H' (x.of st1) t
  | ok p => exact Post.shift h st1 hp
theorem Fin.le {ks : Nat → Kind} {pin : Nat → Option V} {B H : Hp} {σ : L2.St} {F : Nat → List Addr} {W : WX} {k k' : Kind} {pu : Bool} {Q : VK} {r : Res (D × Env)} (h : Fin C ks pin σ B H F W k' pu r Q) (l : k.le k' = true) : Fin C ks pin σ B H F W k pu r Q := by
  cases r with
  | bad => exact h
  | exc c => exact h
  | ok p => exact Post.le h l
theorem snd_mth {o : Op2} {a b : IE} (ha : SndE C sg a) (hb : SndE C sg b) : SndE C sg (.mth o a b) := by
  intro nb ks hnb pin W B H σ ρ F k' Q hk sta h
  simp only [kE] at hk
  split at hk <;> try (simp only [reduceCtorEq] at hk)
  rename_i k l hk1 hk2
  split at hk <;> simp only [reduceCtorEq, Option.some.injEq] at hk
  rename_i hp
  subst hk
  rw [Bool.or_eq_true, not_or] at hp
  refine ha nb ks hnb pin W B H σ ρ F k _ hk1 sta ?_
  simp only [evE] at h
  cases ev : evE C.Φ a ρ with
  | bad => rw [ev] at h; exact h
  | exc c => rw [ev] at h; exact h
  | ok p =>
    obtain ⟨d, ρ1⟩ := p
    rw [ev] at h
    show Post C ks pin σ B H F ρ1 k d (pureE sg a) _
    intro v B1 H1 F1 f1 st1 sta1 has1 pu1
    cases d with
    | lst ds =>
      simp only at h
      have g1 := vrep_hold sta1.sub has1.rep
      have g1' := g1
      simp only [hold] at g1'
      obtain ⟨p, xs, rfl, t1, t2⟩ := g1'
      refine ⟨.inl ⟨rfl, xs, .of t1⟩, ?_⟩
      refine hb nb ks hnb pin W B1 H1 σ ρ1 F1 l _ hk2 sta1 ?_
      cases ev2 : evE C.Φ b ρ1 with
      | bad => rw [ev2] at h; exact h
      | exc c => rw [ev2] at h; exact fun H' x t => h H' (x.of st1) t
      | ok q =>
        obtain ⟨e, ρ2⟩ := q
        rw [ev2] at h
        simp only at h
        show Post C ks pin σ B1 H1 F1 ρ2 l e (pureE sg b) _
        intro u B2 H2 F2 f2 st2 sta2 has2 pu2
        have bp : k.borrowed = true → Up H1 H2 := fun z => (pu2 (by
          cases q : pureE sg b with
          | true => rfl
          | false => rw [z, q] at hp; simp at hp)).1
        obtain ⟨has1', _⟩ := has1.step st2 bp
        cases er : o.run (.lst ds) e with
        | bad => rw [er] at h; exact h.elim
        | exc c => exact absurd er run2_exc
        | ok x =>
          rw [er] at h
          have oc : o.cl = .sc := by
            have := hp.2
            cases o <;> simp_all [Op2.cl]
          obtain ⟨w, hw, q⟩ := op2_sc oc er (vrep_hold sta2.sub has1'.rep) (vrep_hold sta2.sub has2.rep)
          refine q Q (Post.sc h hw (st1.row st2) sta2 fun z => ?_)
          simp only [pureE, Bool.and_eq_true] at z
          obtain ⟨u1, e1⟩ := pu1 z.1
          obtain ⟨u2, e2⟩ := pu2 z.2
          exact ⟨u1.trans u2, e2.trans e1⟩
    | _ => exact h.elim
theorem slc3_exc {a b c : D} {n : Nat} : slc3 a b c ≠ .exc n := by
  intro h
  unfold slc3 at h
  split at h <;> simp only [reduceCtorEq] at h
theorem snd_slc {a b c : IE} (ha : SndE C sg a) (hb : SndE C sg b) (hc : SndE C sg c) : SndE C sg (.slc a b c) := by
  intro nb ks hnb pin W B H σ ρ F k' Q hk sta h
  simp only [kE] at hk
  split at hk <;> try (simp only [reduceCtorEq] at hk)
  rename_i k l m hk1 hk2 hk3
  split at hk <;> simp only [reduceCtorEq, Option.some.injEq] at hk
  rename_i hp
  subst hk
  rw [Bool.or_eq_true, not_or] at hp
  refine ha nb ks hnb pin W B H σ ρ F k _ hk1 sta ?_
  simp only [evE] at h
  cases ev : evE C.Φ a ρ with
  | bad => rw [ev] at h; exact h
  | exc c => rw [ev] at h; exact h
  | ok p =>
    obtain ⟨d, ρ1⟩ := p
    rw [ev] at h
    show Post C ks pin σ B H F ρ1 k d (pureE sg a) _
    intro v B1 H1 F1 f1 st1 sta1 has1 pu1
    simp only at h
    refine hb nb ks hnb pin W B1 H1 σ ρ1 F1 l _ hk2 sta1 ?_
    cases ev2 : evE C.Φ b ρ1 with
    | bad => rw [ev2] at h; exact h
    | exc c => rw [ev2] at h; exact fun H' x t => h H' (x.of st1) t
    | ok q =>
      obtain ⟨e, ρ2⟩ := q
      rw [ev2] at h
      show Post C ks pin σ B1 H1 F1 ρ2 l e (pureE sg b) _
      intro u B2 H2 F2 f2 st2 sta2 has2 pu2
      cases e with
      | int i =>
        simp only at h
        have gu := vrep_hold sta2.sub has2.rep
        simp only [hold] at gu
        subst gu
        refine ⟨i, rfl, ?_⟩
        refine hc nb ks hnb pin W B2 H2 σ ρ2 F2 m _ hk3 sta2 ?_
        cases ev3 : evE C.Φ c ρ2 with
        | bad => rw [ev3] at h; exact h
        | exc c => rw [ev3] at h; exact fun H' x t => h H' ((x.of st2).of st1) t
        | ok q =>
          obtain ⟨e, ρ3⟩ := q
          rw [ev3] at h
          show Post C ks pin σ B2 H2 F2 ρ3 m e (pureE sg c) _
          intro w B3 H3 F3 f3 st3 sta3 has3 pu3
          cases e with
          | int j =>
            simp only at h
            have gw := vrep_hold sta3.sub has3.rep
            simp only [hold] at gw
            subst gw
            refine ⟨j, rfl, ?_⟩
            have pp : k.borrowed = true → pureE sg b = true ∧ pureE sg c = true := fun z => by
              cases q : pureE sg b <;> cases q' : pureE sg c <;> rw [z, q, q'] at hp <;> simp at hp <;> exact ⟨rfl, rfl⟩
            obtain ⟨hA, _⟩ := has1.step (st2.row st3) fun z => (pu2 (pp z).1).1.trans (pu3 (pp z).2).1
            have st := st1.row (st2.row st3)
            have pu : pureE sg (.slc a b c) = true → Up H H3 ∧ F3 = F := fun z => by
              simp only [pureE, Bool.and_eq_true] at z
              obtain ⟨u1, e1⟩ := pu1 z.1.1
              obtain ⟨u2, e2⟩ := pu2 z.1.2
              obtain ⟨u3, e3⟩ := pu3 z.2
              exact ⟨(u1.trans u2).trans u3, (e3.trans e2).trans e1⟩
            cases er : slc3 d (.int i) (.int j) with
            | bad => rw [er] at h; exact h.elim
            | exc c => exact absurd er slc3_exc
            | ok x =>
              rw [er] at h
              have h : Post C ks pin σ B H F ρ3 k.mk x (pureE sg (.slc a b c)) Q := h
              have stA : Step B H (FP F) B3 H3 (fun a => FP F3 a ∨ a ∈ f1) := st.less fun a z => z.imp id fun m => List.mem_append_left _ m
              by_cases eb : k = .bo
              · subst eb
                obtain ⟨ds, xs, i', j', rfl, hx, ei, ej, q⟩ := slc3_new er (hold_1 vis_sub (vis_hold (vrep_hold sta3.sub hA.rep))) rfl rfl
                cases ei; cases ej
                exact q Q fun p hp => Post.newB h ⟨p, xs, rfl, upd_same, holdsB hp hx⟩ stA sta3 pu hp
              · rw [mk_ne eb] at h
                obtain ⟨ds, xs, i', j', rfl, hx, ei, ej, q⟩ := slc3_new er (hA.readW sta3.sub (fun _ m => m) hA.nB hA.at eb) rfl rfl
                cases ei; cases ej
                exact q Q fun p hp => Post.newT h (fun Hx e => ⟨xs, e, hx⟩) stA sta3 hA.dj hA.nB hA.at pu hp
          | _ => exact h.elim
      | _ => exact h.elim
theorem snd_not {a : IE} (ha : SndE C sg a) : SndE C sg (.not a) := by
  intro nb ks hnb pin W B H σ ρ F k' Q hk sta h
  simp only [kE, Option.map_eq_some_iff] at hk
  obtain ⟨k, hk1, rfl⟩ := hk
  refine ha nb ks hnb pin W B H σ ρ F k _ hk1 sta ?_
  simp only [evE] at h
  cases ev : evE C.Φ a ρ with
  | bad => rw [ev] at h; exact h
  | exc c => rw [ev] at h; exact h
  | ok p =>
    obtain ⟨d, ρ1⟩ := p
    rw [ev] at h
    show Post C ks pin σ B H F ρ1 k d (pureE sg a) _
    intro v B1 H1 F1 f1 st1 sta1 has1 pu1
    cases d with
    | bl b =>
      have g := vrep_hold sta1.sub has1.rep
      simp only [hold] at g
      exact ⟨b, g, Post.sc h rfl st1 sta1 pu1⟩
    | _ => exact h.elim
theorem snd_and {a b : IE} (ha : SndE C sg a) (hb : SndE C sg b) : SndE C sg (.and a b) := by
  intro nb ks hnb pin W B H σ ρ F k' Q hk sta h
  simp only [kE] at hk
  split at hk <;> try (simp only [reduceCtorEq] at hk)
  rename_i k l hk1 hk2
  split at hk <;> simp only [reduceCtorEq, Option.some.injEq] at hk
  rename_i hp
  subst hk
  refine ha nb ks hnb pin W B H σ ρ F k _ hk1 sta ?_
  simp only [evE] at h
  cases ev : evE C.Φ a ρ with
  | bad => rw [ev] at h; exact h
  | exc c => rw [ev] at h; exact h
  | ok p =>
    obtain ⟨d, ρ1⟩ := p
    rw [ev] at h
    show Post C ks pin σ B H F ρ1 k d (pureE sg a) _
    intro v B1 H1 F1 f1 st1 sta1 has1 pu1
    have g := vrep_hold sta1.sub has1.rep
    cases d with
    | bl b0 =>
      simp only [hold] at g
      refine ⟨b0, g, ?_⟩
      have ps : pureE sg (.and a b) = true → pureE sg b = true ∧ Up H H1 ∧ F1 = F := fun z => by
        simp only [pureE, Bool.and_eq_true] at z
        exact ⟨z.2, pu1 z.1⟩
      cases b0 with
      | true =>
        rw [if_pos rfl]
        exact hb nb ks hnb pin W B1 H1 σ ρ1 F1 l _ hk2 sta1 (Fin.le (Fin.shift h st1 ps) hp)
      | false =>
        rw [if_neg (by simp)]
        have h : Post C ks pin σ B H F ρ1 .sh (.bl false) _ Q := h
        exact Post.sc (Post.le h (k := .im) rfl) rfl st1 sta1 fun z => (ps z).2
    | _ => exact h.elim
theorem snd_or {a b : IE} (ha : SndE C sg a) (hb : SndE C sg b) : SndE C sg (.or a b) := by
  intro nb ks hnb pin W B H σ ρ F k' Q hk sta h
  simp only [kE] at hk
  split at hk <;> try (simp only [reduceCtorEq] at hk)
  rename_i k l hk1 hk2
  split at hk <;> simp only [reduceCtorEq, Option.some.injEq] at hk
  rename_i hp
  subst hk
  refine ha nb ks hnb pin W B H σ ρ F k _ hk1 sta ?_
  simp only [evE] at h
  cases ev : evE C.Φ a ρ with
  | bad => rw [ev] at h; exact h
  | exc c => rw [ev] at h; exact h
  | ok p =>
    obtain ⟨d, ρ1⟩ := p
    rw [ev] at h
    show Post C ks pin σ B H F ρ1 k d (pureE sg a) _
    intro v B1 H1 F1 f1 st1 sta1 has1 pu1
    have g := vrep_hold sta1.sub has1.rep
    cases d with
    | bl b0 =>
      simp only [hold] at g
      refine ⟨b0, g, ?_⟩
      have ps : pureE sg (.or a b) = true → pureE sg b = true ∧ Up H H1 ∧ F1 = F := fun z => by
        simp only [pureE, Bool.and_eq_true] at z
        exact ⟨z.2, pu1 z.1⟩
      cases b0 with
      | false =>
        rw [if_neg (by simp)]
        exact hb nb ks hnb pin W B1 H1 σ ρ1 F1 l _ hk2 sta1 (Fin.le (Fin.shift h st1 ps) hp)
      | true =>
        rw [if_pos rfl]
        have h : Post C ks pin σ B H F ρ1 .sh (.bl true) _ Q := h
        exact Post.sc (Post.le h (k := .im) rfl) rfl st1 sta1 fun z => (ps z).2
    | _ => exact h.elim
theorem snd_dic0 : SndE C sg .dic0 := by
  intro nb ks hnb pin W B H σ ρ F k' Q hk sta h
  simp only [kE, Option.some.injEq] at hk
  subst hk
  intro p hp
  exact Post.newT h (fun Hx e => ⟨[], e, rfl⟩) (Step.id (f := []) rfl) sta nomem nomem nomem (fun _ => ⟨Up.refl H, rfl⟩) hp
theorem snd_dct0 : SndE C sg .dct0 := by
  intro nb ks hnb pin W B H σ ρ F k' Q hk sta h
  simp only [kE, Option.some.injEq] at hk
  subst hk
  intro p hp
  exact Post.newT h (fun Hx e => ⟨[], e, rfl⟩) (Step.id (f := []) rfl) sta nomem nomem nomem (fun _ => ⟨Up.refl H, rfl⟩) hp
end
end TW

namespace TW
open PySem L2
section
variable {C : Ctx} {sg : Nat → Sig}
/-- the frame with slot i's own things told anew -/
def setF (F : Nat → List Addr) (i : Nat) (g : List Addr) : Nat → List Addr := fun j => if j = i then g else F j
theorem setF_same {F : Nat → List Addr} {i : Nat} {g : List Addr} : setF F i g i = g := by unfold setF; rw [if_pos rfl]
theorem setF_ne {F : Nat → List Addr} {i j : Nat} {g : List Addr} (h : j ≠ i) : setF F i g j = F j := by unfold setF; rw [if_neg h]
theorem setF_fp {F : Nat → List Addr} {i : Nat} {g : List Addr} {a : Addr} (h : FP (setF F i g) a) : FP F a ∨ a ∈ g := by
  obtain ⟨j, m⟩ := h
  by_cases e : j = i
  · subst e; rw [setF_same] at m; exact .inr m
  · rw [setF_ne e] at m; exact .inl ⟨j, m⟩
theorem put_up {H : Hp} {p : Addr} {o : HO} {a : Addr} {u : HO} (e : H a = some u) (n : a ≠ p) : upd H p o a = some u := by rw [upd_ne n]; exact e
/-- a name's own thing is written: what stands in its top, and what is its own behind it -/
theorem Sta.put {ks : Nat → Kind} {pin : Nat → Option V} {B H : Hp} {σ : L2.St} {ρ : Env} {F : Nat → List Addr} (sta : Sta C ks pin B H σ ρ F) (hnb : ∀ j, (ks j).borrowed = false) {i : Nat} {d0 d : D} {p : Addr} {o : HO} {g : List Addr} {v : V}
    (e0 : gt ρ i = some d0) (hp : p ∈ F i) (hv : σ[i]? = some (some v)) (hr : vrep C.K (ks i) B (upd H p o) d v g) (hg : ∀ a ∈ g, ¬ FP F a ∨ a ∈ F i) (nB : ∀ a ∈ g, B a = none) (ho : NoTab o) :
    Sta C ks pin B (upd H p o) σ (st ρ i (some d)) (setF F i g) where
  len := by rw [st_length]; exact sta.len
  sub := fun a u e => by
    obtain ⟨h1, h2⟩ := sta.sub a u e
    refine ⟨put_up h1 fun z => ?_, h2⟩
    rw [z, sta.nB i p hp] at e; cases e
  tab := by
    obtain ⟨ob, h1, h2⟩ := sta.at hp
    intro q hq
    obtain ⟨ps, e1, e2, e3⟩ := sta.tab q hq
    have ne : ∀ b ps, H b = some (.tbl ps) → b ≠ p := fun b ps e z => by
      rw [z, h1] at e
      cases e
      exact h2.nt ps rfl
    refine ⟨ps, put_up e1 (ne _ _ e1), e2, fun pos cv hc => ?_⟩
    obtain ⟨c, e4, e5⟩ := e3 pos cv hc
    refine ⟨c, e4, put_up e5 fun z => ?_⟩
    rw [z, h1] at e5
    cases e5
    rcases h2 with ⟨_, e⟩ | ⟨_, e⟩ | ⟨_, e⟩ | ⟨_, e⟩ <;> cases e
  rep := fun j e ej => by
    by_cases n : j = i
    · subst n
      rw [gt_st] at ej
      rw [if_pos ⟨rfl, gt_lt e0⟩] at ej
      cases ej
      rw [setF_same]
      exact ⟨v, hv, hr⟩
    · rw [gt_st, if_neg (fun z => n z.1)] at ej
      obtain ⟨w, h1, h2⟩ := sta.rep j e ej
      rw [setF_ne n]
      refine ⟨w, h1, ?_⟩
      have np : ∀ a ∈ F j, a ≠ p := fun a m z => n (sta.dj j i p (z ▸ m) hp)
      have nbj := hnb j
      cases q : ks j <;> rw [q] at h2 nbj <;> simp only [vrep] at h2 ⊢
      · exact h2
      · exact h2
      · rcases h2 with h2 | ⟨r, r1, r2, r3⟩
        · exact .inl h2
        · exact .inr ⟨r, r1, r2, topAt_keep r3 (.of fun _ _ e _ => e) fun u e _ => put_up e (np r (by rw [r2]; exact List.mem_singleton.mpr rfl))⟩
      · exact own_keep e w (F j) h2 fun a m u e _ => put_up e (np a m)
      · cases nbj
      · cases nbj
  nf := fun j ej => by
    by_cases n : j = i
    · subst n
      rw [gt_st, if_pos ⟨rfl, gt_lt e0⟩] at ej; cases ej
    · rw [gt_st, if_neg (fun z => n z.1)] at ej
      rw [setF_ne n]; exact sta.nf j ej
  dj := fun j k a m m2 => by
    by_cases n : j = i <;> by_cases n2 : k = i
    · rw [n, n2]
    · subst n
      rw [setF_same] at m
      rw [setF_ne n2] at m2
      rcases hg a m with z | z
      · exact absurd ⟨k, m2⟩ z
      · exact sta.dj j k a z m2
    · subst n2
      rw [setF_same] at m2
      rw [setF_ne n] at m
      rcases hg a m2 with z | z
      · exact absurd ⟨j, m⟩ z
      · exact sta.dj j k a m z
    · rw [setF_ne n] at m
      rw [setF_ne n2] at m2
      exact sta.dj j k a m m2
  nB := fun j a m => by
    by_cases n : j = i
    · subst n; rw [setF_same] at m; exact nB a m
    · rw [setF_ne n] at m; exact sta.nB j a m
  pin := sta.pin
theorem Step.put {B H : Hp} {F : Nat → List Addr} {p : Addr} {o : HO} {i : Nat} {P' : Addr → Prop} (hp : p ∈ F i) (h : ∀ a, P' a → FP F a ∨ H a = none) : Step B H (FP F) B (upd H p o) P' where
  ex := fun _ _ e => e
  up := fun a u e n _ => put_up e fun z => n (by rw [z]; exact ⟨i, hp⟩)
  th := fun a h => by
    by_cases e : a = p
    · rw [e, upd_same]; simp
    · rw [upd_ne e]; exact h
  new := h
  newB := fun _ h => .inl h
/-- own lists, an item taken out -/
theorem owns_split {H : Hp} : ∀ {ds : List D} {xs : List V} {f : List Addr} (n : Nat) {d : D}, owns H ds xs f → ds[n]? = some d → ∃ x g1 g2, xs[n]? = some x ∧ own H d x g1 ∧ owns H (ds.eraseIdx n) (xs.eraseIdx n) g2 ∧ (∀ a ∈ g1, a ∈ f) ∧ (∀ a ∈ g2, a ∈ f) ∧ ∀ a ∈ g1, a ∉ g2
  | [], _, _, _, _, _, e => by simp at e
  | d :: ds, _, _, 0, d', h, e => by
    obtain ⟨x, r, g1, g2, rfl, rfl, h1, h2, dj⟩ := h
    simp at e; subst e
    exact ⟨x, g1, g2, rfl, h1, h2, fun a m => List.mem_append_left _ m, fun a m => List.mem_append_right _ m, dj⟩
  | d :: ds, _, _, n + 1, d', h, e => by
    obtain ⟨x, r, g1, g2, rfl, rfl, h1, h2, dj⟩ := h
    obtain ⟨y, f1, f2, e1, e2, e3, e4, e5, e6⟩ := owns_split n h2 (by simpa using e)
    refine ⟨y, f1, g1 ++ f2, by simpa using e1, e2, ⟨x, r.eraseIdx n, g1, f2, rfl, rfl, h1, e3, fun a m m2 => dj a m (e5 a m2)⟩, fun a m => List.mem_append_right _ (e4 a m), fun a m => ?_, fun a m m2 => ?_⟩
    · rcases List.mem_append.mp m with m | m
      · exact List.mem_append_left _ m
      · exact List.mem_append_right _ (e5 a m)
    · rcases List.mem_append.mp m2 with m2 | m2
      · exact dj a m2 (e4 a m)
      · exact e6 a m m2
theorem erase_last {α : Type} (l : List α) : l.eraseIdx (l.length - 1) = l.dropLast := by
  rw [List.dropLast_eq_take]
  cases l with
  | nil => rfl
  | cons x r => rw [List.eraseIdx_eq_take_drop_succ]; simp
theorem getLast_ix {α : Type} (l : List α) : l.getLast? = l[l.length - 1]? := List.getLast?_eq_getElem?
/-- an item taken out of a name's own list -/
theorem pop_core {ks : Nat → Kind} {pin : Nat → Option V} {B H : Hp} {σ : L2.St} {ρ : Env} {F : Nat → List Addr} {k : Kind} {Q : VK} (sta : Sta C ks pin B H σ ρ F) (hnb : ∀ j, (ks j).borrowed = false) {i n : Nat} {ds : List D} {d : D}
    (hk : (ks i = .top ∧ k = .sh) ∨ (ks i = .deep ∧ k = .deep)) (e0 : gt ρ i = some (.lst ds)) (en : ds[n]? = some d) (h : Post C ks pin σ B H F (st ρ i (some (.lst (ds.eraseIdx n)))) k d false Q) :
    ∃ p xs y, σ[i]? = some (some (.ref p)) ∧ H p = some (.lst xs) ∧ ds.length = xs.length ∧ xs[n]? = some y ∧ Q y (upd H p (.lst (xs.eraseIdx n))) := by
  obtain ⟨v, hv, r⟩ := sta.rep i _ e0
  rcases hk with ⟨hk, rfl⟩ | ⟨hk, rfl⟩ <;> rw [hk] at r
  · rcases r with r | ⟨p, rfl, ef, xs, t1, t2⟩
    · simp [scV] at r
    · obtain ⟨y, y1, y2⟩ := holds_get t2 en
      have mp : p ∈ F i := by rw [ef]; exact List.mem_singleton.mpr rfl
      have st := sta.put hnb (o := .lst (xs.eraseIdx n)) (d := .lst (ds.eraseIdx n)) (g := [p]) e0 mp hv (by rw [hk]; exact .inr ⟨p, rfl, rfl, _, upd_same, holds_eraseIdx n t2⟩) (fun a m => .inr (by rw [ef]; exact m)) (fun a m => by rw [List.mem_singleton.mp m]; exact sta.nB i p mp) nt_lst
      refine ⟨p, xs, y, hv, t1, holds_length t2, y1, h y B _ (setF F i [p]) [] (Step.put mp fun a z => z.elim (fun q => .inl ((setF_fp q).elim id fun m => by rw [List.mem_singleton.mp m]; exact ⟨i, mp⟩)) fun m => by cases m) st ⟨⟨y2, rfl⟩, nomem, nomem⟩ fun z => by cases z⟩
  · obtain ⟨p, xs, g, rfl, ef, t1, t2, t3⟩ := r
    obtain ⟨y, g1, g2, y1, y2, y3, y4, y5, y6⟩ := owns_split n t3 en
    have mp : p ∈ F i := by rw [ef]; exact List.mem_cons_self
    have mg : ∀ a ∈ g, a ∈ F i := fun a m => by rw [ef]; exact List.mem_cons_of_mem _ m
    have keep : ∀ a, a ∈ g → ∀ o, H a = some o → Lay o → upd H p (.lst (xs.eraseIdx n)) a = some o := fun a m o e _ => put_up e fun z => t2 (z ▸ m)
    have st := sta.put hnb (o := .lst (xs.eraseIdx n)) (d := .lst (ds.eraseIdx n)) (g := p :: g2) e0 mp hv (by rw [hk]; exact ⟨p, _, g2, rfl, rfl, upd_same, fun m => t2 (y5 p m), owns_keep _ _ _ y3 fun a m => keep a (y5 a m)⟩)
      (fun a m => .inr ((List.mem_cons.mp m).elim (fun e => by rw [e]; exact mp) fun m => mg a (y5 a m))) (fun a m => sta.nB i a ((List.mem_cons.mp m).elim (fun e => by rw [e]; exact mp) fun m => mg a (y5 a m))) nt_lst
    refine ⟨p, xs, y, hv, t1, owns_length t3, y1, h y B _ (setF F i (p :: g2)) g1 (Step.put mp fun a z => ?_) st ⟨own_keep _ _ _ y2 fun a m => keep a (y4 a m), fun a m z => ?_, fun a m => sta.nB i a (mg a (y4 a m))⟩ fun z => by cases z⟩
    · rcases z with z | m
      · rcases setF_fp z with q | m
        · exact .inl q
        · exact .inl ⟨i, (List.mem_cons.mp m).elim (fun e => by rw [e]; exact mp) fun m => mg a (y5 a m)⟩
      · exact .inl ⟨i, mg a (y4 a m)⟩
    · obtain ⟨j, mj⟩ := z
      by_cases n' : j = i
      · subst n'
        rw [setF_same] at mj
        rcases List.mem_cons.mp mj with e | mj
        · exact t2 (e ▸ y4 a m)
        · exact y6 a m mj
      · rw [setF_ne n'] at mj
        exact n' (sta.dj j i a mj (mg a (y4 a m)))
theorem snd_pop (i : Nat) : SndE C sg (.pop i) := by
  intro nb ks hnb pin W B H σ ρ F k Q hk sta h
  simp only [kE] at hk
  split at hk <;> try (simp only [reduceCtorEq] at hk)
  rename_i hb
  have hb' : nb = true := by cases nb <;> simp_all
  have hkk : (ks i = .top ∧ k = .sh) ∨ (ks i = .deep ∧ k = .deep) := by
    split at hk <;> simp only [reduceCtorEq, Option.some.injEq] at hk
    · rename_i e; exact .inl ⟨e, hk.symm⟩
    · rename_i e; exact .inr ⟨e, hk.symm⟩
  simp only [evE] at h
  split at h
  · rename_i ds e0
    split at h
    · rename_i d e1
      rw [getLast_ix] at e1
      rw [← erase_last] at h
      obtain ⟨p, xs, y, c1, c2, c3, c4, c5⟩ := pop_core sta (hnb hb') hkk e0 e1 h
      refine ⟨_, c1, .inl ⟨rfl, xs, .of c2⟩, p, xs, y, rfl, rfl, c2, by rw [← c3]; exact c4, ?_⟩
      rw [← erase_last, ← c3]; exact c5
    · exact h.elim
  · exact h.elim
end
end TW

namespace TW
open PySem L2
/-- the defs' reckonings are of their signatures -/
def SigOk (C : Ctx) (sg : Nat → Sig) : Prop := ∀ f, (∀ ds, (C.Φ f).run ds = .bad) ∨ ((C.Φ f).np = (sg f).np ∧ (C.Φ f).pk = (sg f).pk ∧ (C.Φ f).rk = (sg f).rk)
section
variable {C : Ctx} {sg : Nat → Sig}
theorem gt_map : ∀ (ds : List D) (i : Nat), gt (ds.map some) i = ds[i]?
  | [], _ => by simp [gt]
  | d :: r, 0 => rfl
  | d :: r, i + 1 => by simp only [List.map_cons, gt, gt_map r i, List.getElem?_cons_succ]
theorem HasL.opensA {B H : Hp} {F : Nat → List Addr} {g : List Addr} (nB : ∀ a ∈ g, B a = none) : ∀ {l : List Kind} {ds : List D} {vs : List V} {f : List Addr}, HasL C B H F l ds vs f → (∀ a ∈ f, a ∈ g) → (l.all fun k => !k.borrowed) = true → holds C.K (join B H g) ds vs
  | [], _, _, _, h, _, _ => by obtain ⟨rfl, rfl, rfl⟩ := h; rfl
  | k :: l, _, _, _, h, hg, j => by
    obtain ⟨d, r, v, s, f1, f2, rfl, rfl, rfl, h1, h2, _⟩ := h
    rw [List.all_cons, Bool.and_eq_true] at j
    have hk : k.le .sh = true := by
      have := j.1
      cases k <;> simp_all [Kind.le, Kind.borrowed]
    exact ⟨v, s, rfl, h1.openW (fun a m => hg a (List.mem_append_left _ m)) nB hk, HasL.opensA nB h2 (fun a m => hg a (List.mem_append_right _ m)) j.2⟩
theorem okP_at {s : Sig} {j i : Nat} (h : okP s j = true) (hi : i < s.np) (hj : j ≤ i) : s.pk i = .sh := by
  have := List.all_eq_true.mp h i (List.mem_range.mpr hi)
  rw [Bool.or_eq_true, decide_eq_true_iff] at this
  rcases this with t | t
  · omega
  · simpa using t
/-- a callee's state, all its parameters shared -/
theorem Sta.args {B H : Hp} {vs : List V} {ds : List D} {pk : Nat → Kind} (sub : Sub B H) (tab : NdefX.TabsN C.T H) (h : holds C.K B ds vs) (hp : ∀ i, i < ds.length → pk i = .sh) : Sta C pk (fun _ => none) B H (vs.map some) (ds.map some) (fun _ => []) where
  len := by rw [List.length_map, List.length_map, holds_length h]; exact Nat.le_refl _
  sub := sub
  tab := tab
  rep := fun i d e => by
    rw [gt_map] at e
    obtain ⟨v, h1, h2⟩ := holds_get h e
    refine ⟨v, by rw [List.getElem?_map, h1]; rfl, ?_⟩
    rw [hp i (List.getElem?_eq_some_iff.mp e).1]
    exact ⟨h2, rfl⟩
  nf := fun _ _ => rfl
  dj := fun _ _ _ m => by cases m
  nB := fun _ _ m => by cases m
  pin := fun _ _ z => by cases z
theorem noFP {a : Addr} (h : FP (fun _ => []) a) : False := by obtain ⟨_, m⟩ := h; cases m
theorem snd_call (so : SigOk C sg) {f : Nat} {es : IEs} (hes : SndEs C sg es) : SndE C sg (.call f es) := by
  intro nb ks hnb pin W B H σ ρ F k' Q hk sta h
  simp only [kE] at hk
  split at hk <;> try (simp only [reduceCtorEq] at hk)
  rename_i l hk1
  split at hk <;> simp only [reduceCtorEq, Option.some.injEq] at hk
  rename_i hl
  subst hk
  obtain ⟨hl1, hl2, hl3⟩ := hl
  refine hes nb ks hnb pin W B H σ ρ F l _ hk1 sta ?_
  simp only [evE, pureE] at h
  cases ev : evEs C.Φ es ρ with
  | bad => rw [ev] at h; exact h
  | exc c => rw [ev] at h; exact h
  | ok p =>
    obtain ⟨ds, ρ1⟩ := p
    rw [ev] at h
    simp only at h
    intro vs B1 H1 F1 fp st1 sta1 has1 pu1
    obtain ⟨a1, a2, a3, a4, a5⟩ := has1.all
    show spF C (C.Φ f) vs H1 Q (WE W σ)
    rcases so f with hb | ⟨s1, s2, s3⟩
    · rw [hb ds] at h; exact h.elim
    have hpk : ∀ i, i < ds.length → (C.Φ f).pk i = .sh := fun i hi => by rw [s2]; exact okP_at hl2 (by omega) (Nat.zero_le _)
    by_cases hA : (l.all fun k => !k.borrowed) = true
    · -- nothing borrowed: what is told may be of what was handed in
      refine ⟨ds, join B1 H1 fp, fun _ => [], by rw [s1]; omega, by rw [s1]; omega, Sta.args (join_sub sta1.sub a3) sta1.tab (has1.opensA a2 (fun _ m => m) hA) hpk, fun _ _ => rfl, ?_⟩
      cases er : (C.Φ f).run ds with
      | bad => rw [er] at h; exact h
      | exc c => rw [er] at h; exact fun H' x t => h H' (Xup.of st1 ⟨fun a o e n z => x.1 a o e (fun q => noFP q) z, x.2⟩) t
      | ok q =>
        obtain ⟨d, ms⟩ := q
        rw [er] at h
        simp only at h ⊢
        intro v B2 H2 F2 g st2 sta2 has2
        have stJ := st1.join a2 fun _ m => m
        have staJ := sta1.absorb a3 a1 a2
        have st2' : Step (join B1 H1 fp) H1 Nil B2 H2 (fun a => a ∈ g) := ⟨st2.ex, fun a o e _ z => st2.up a o e (fun q => noFP q) z, st2.th, fun a m => (st2.new a (.inr m)).imp (fun q => noFP q) id, fun a m => (st2.newB a m).imp id fun q => q.imp (fun q => noFP q) id⟩
        have sta3 := staJ.step st2' sta2.sub sta2.tab
        have gn : ∀ a ∈ g, H1 a = none := fun a m => (st2'.new a m).elim (fun z => z.elim) id
        rw [s3] at has2
        refine h v B2 H2 F1 g (Step.row (f := []) (stJ.less fun a z => z.elim id fun m => by cases m) ⟨st2'.ex, fun a o e _ z => st2'.up a o e (fun q => q) z, st2'.th, fun a z => z.elim .inl fun m => .inr (gn a m), fun a m => (st2'.newB a m).imp id fun q => .inr (q.elim (fun z => z.elim) id)⟩) sta3 ⟨has2.rep, fun a m z => ?_, has2.nB⟩ fun pu => ?_
        · obtain ⟨o, e, _⟩ := staJ.atF z
          rw [gn a m] at e; cases e
        · obtain ⟨u1, e1⟩ := pu1 pu
          exact ⟨u1.trans fun a o e n => st2'.up a o e (fun z => z) n, e1⟩
    · -- something borrowed: what is told is new, or a scalar
      have rk : (sg f).rk = .im ∨ (sg f).rk = .deep := hl3.resolve_left hA
      refine ⟨ds, vis H1 Nil, fun _ => [], by rw [s1]; omega, by rw [s1]; omega, Sta.args vis_sub sta1.tab (holds_mono vis_ext _ _ (has1.hold sta1.sub)) hpk, fun _ _ => rfl, ?_⟩
      cases er : (C.Φ f).run ds with
      | bad => rw [er] at h; exact h
      | exc c => rw [er] at h; exact fun H' x t => h H' (Xup.of st1 ⟨fun a o e n z => x.1 a o e (fun q => noFP q) z, x.2⟩) t
      | ok q =>
        obtain ⟨d, ms⟩ := q
        rw [er] at h
        simp only at h ⊢
        intro v B2 H2 F2 g st2 sta2 has2
        have up : Up H1 H2 := fun a o e z => st2.up a o e (fun q => noFP q) z
        have gn : ∀ a ∈ g, H1 a = none := fun a m => (st2.new a (.inr m)).elim (fun q => (noFP q).elim) id
        have st2' : Step B1 H1 Nil B1 H2 (fun a => a ∈ g) := ⟨fun _ _ e => e, fun a o e _ z => up a o e z, st2.th, fun a m => .inr (gn a m), fun a m => .inl m⟩
        have sta3 := sta1.step st2' (fun a o e => ⟨up a o (sta1.sub a o e).1 (sta1.sub a o e).2, (sta1.sub a o e).2⟩) sta2.tab
        rw [s3] at has2
        have hrep : vrep C.K (sg f).rk B1 H2 d v g := by
          have r := has2.rep
          rcases rk with e | e <;> rw [e] at r ⊢ <;> exact r
        refine h v B1 H2 F1 g (Step.row (f := []) (st1.less fun a z => z.elim .inl fun m => by cases m) ⟨st2'.ex, fun a o e _ z => up a o e z, st2'.th, fun a z => z.elim .inl fun m => .inr (gn a m), fun a m => .inl m⟩) sta3 ⟨hrep, fun a m z => ?_, fun a m => sta1.freeB (gn a m)⟩ fun pu => ?_
        · obtain ⟨o, e, _⟩ := sta1.atF z
          rw [gn a m] at e; cases e
        · obtain ⟨u1, e1⟩ := pu1 pu
          exact ⟨u1.trans up, e1⟩
end
end TW

namespace TW
open PySem L2
section
variable {C : Ctx} {sg : Nat → Sig}
def at0 (f : List Addr) : Nat → List Addr := fun j => if j = 0 then f else []
theorem at0_0 {f : List Addr} : at0 f 0 = f := rfl
theorem at0_n {f : List Addr} {j : Nat} (h : j ≠ 0) : at0 f j = [] := if_neg h
theorem snd_callM (so : SigOk C sg) {f i : Nat} {es : IEs} (hes : SndEs C sg es) : SndE C sg (.callM f i es) := by
  intro nb ks hnb pin W B H σ ρ F k' Q hk sta h
  simp only [kE] at hk
  split at hk <;> try (simp only [reduceCtorEq] at hk)
  rename_i l hk1
  split at hk <;> simp only [reduceCtorEq, Option.some.injEq] at hk
  rename_i hl
  subst hk
  obtain ⟨hn, ho, hl1, hp0, hl2, hA⟩ := hl
  have hnb := hnb hn
  simp only [evE] at h
  cases e0 : gt ρ i with
  | none => rw [e0] at h; exact h.elim
  | some dd =>
  rw [e0] at h
  simp only at h
  obtain ⟨x, hx, _⟩ := sta.rep i dd e0
  refine ⟨x, hx, ?_⟩
  refine hes nb ks (fun _ => hnb) pin W B H σ ρ F l _ hk1 sta ?_
  cases ev : evEs C.Φ es ρ with
  | bad => rw [ev] at h; exact h
  | exc c => rw [ev] at h; exact h
  | ok p =>
    obtain ⟨ds, ρ1⟩ := p
    rw [ev] at h
    simp only at h
    intro vs B1 H1 F1 fp st1 sta1 has1 pu1
    obtain ⟨a1, a2, a3, a4, a5⟩ := has1.all
    show spF C (C.Φ f) (x :: vs) H1 Q (WE W σ)
    cases e1 : gt ρ1 i with
    | none => rw [e1] at h; exact h.elim
    | some d0 =>
    rw [e1] at h
    simp only at h
    rcases so f with hb | ⟨s1, s2, s3⟩
    · rw [hb _] at h; exact h.elim
    obtain ⟨x', hx', rx⟩ := sta1.rep i d0 e1
    have ex : x' = x := by rw [hx] at hx'; simpa using hx'.symm
    subst ex
    have hpk : ∀ j, j < ds.length → (C.Φ f).pk (j + 1) = .sh := fun j hj => by rw [s2]; exact okP_at hl2 (by omega) (by omega)
    have stJ := st1.join a2 fun _ m => m
    have staJ := sta1.absorb a3 a1 a2
    have hs := has1.opensA a2 (fun _ m => m) hA
    refine ⟨d0 :: ds, join B1 H1 fp, at0 (F1 i), by rw [s1, List.length_cons]; omega, by rw [s1, List.length_cons]; omega, ⟨?_, staJ.sub, sta1.tab, ?_, ?_, ?_, ?_, fun _ _ z => by cases z⟩, ?_, ?_⟩
    · simp only [List.length_map, List.length_cons, holds_length hs, Nat.le_refl]
    · intro j d e
      cases j with
      | zero =>
        simp only [List.map_cons, gt, Option.some.injEq] at e
        subst e
        refine ⟨x', rfl, ?_⟩
        rw [at0_0, s2, hp0]
        exact vrep_B rx (join_ext a2)
      | succ j =>
        simp only [List.map_cons, gt] at e
        rw [gt_map] at e
        obtain ⟨v, v1, v2⟩ := holds_get hs e
        refine ⟨v, by simp only [List.map_cons, List.getElem?_cons_succ, List.getElem?_map, v1]; rfl, ?_⟩
        rw [at0_n (by omega), hpk j (List.getElem?_eq_some_iff.mp e).1]
        exact ⟨v2, rfl⟩
    · intro j e
      by_cases z : j = 0
      · subst z; simp [gt] at e
      · rw [at0_n z]
    · intro j k a m m2
      by_cases z : j = 0 <;> by_cases z2 : k = 0
      · rw [z, z2]
      · rw [at0_n z2] at m2; cases m2
      · rw [at0_n z] at m; cases m
      · rw [at0_n z] at m; cases m
    · intro j a m
      by_cases z : j = 0
      · subst z; exact staJ.nB i a m
      · rw [at0_n z] at m; cases m
    · intro j hj
      by_cases z : j = 0
      · subst z; rw [s2, hp0] at hj; exact absurd ho hj
      · rw [at0_n z]
    · cases er : (C.Φ f).run (d0 :: ds) with
      | bad => rw [er] at h; exact h.elim
      | exc c => rw [er] at h; exact h.elim
      | ok q =>
        obtain ⟨d, ms⟩ := q
        rw [er] at h
        have h : Post C ks pin σ B H F (st ρ1 i (gt ms 0)) (sg f).rk d false Q := h
        simp only
        intro v B2 H2 F2 g st2 sta2 has2
        have f0 : ∀ a, FP (at0 (F1 i)) a → a ∈ F1 i := fun a ⟨j, m⟩ => by
          by_cases z : j = 0
          · subst z; exact m
          · rw [at0_n z] at m; cases m
        have hi : i < ρ1.length := gt_lt e1
        have n2 : ∀ a, a ∈ F2 0 → a ∈ F1 i ∨ H1 a = none := fun a m => (st2.new a (.inl ⟨0, m⟩)).imp (f0 a) id
        have ng : ∀ a, a ∈ g → a ∈ F1 i ∨ H1 a = none := fun a m => (st2.new a (.inr m)).imp (f0 a) id
        have off : ∀ j a, j ≠ i → a ∈ F1 j → a ∉ F1 i ∧ ∃ o, H1 a = some o ∧ Lay o := fun j a n m => ⟨fun z => n (sta1.dj j i a m z), sta1.at m⟩
        refine h v B2 H2 (setF F1 i (F2 0)) g (Step.row (f := []) (stJ.less fun a z => z.elim id fun m => by cases m) ⟨st2.ex, fun a o e n z => st2.up a o e (fun q => n ⟨i, f0 a q⟩) z, st2.th, fun a z => ?_, fun a z => (st2.newB a z).imp id fun q => q.imp (fun q => ⟨i, f0 a q⟩) id⟩) ⟨?_, sta2.sub, sta2.tab, ?_, ?_, ?_, ?_, sta1.pin⟩ ⟨?_, ?_, has2.nB⟩ fun z => by cases z
        · rcases z with z | m
          · rcases setF_fp z with q | m
            · exact .inl q
            · exact (n2 a m).imp (fun m => ⟨i, m⟩) id
          · exact (ng a m).imp (fun m => ⟨i, m⟩) id
        · rw [st_length]; exact sta1.len
        · intro j e ej
          by_cases n : j = i
          · subst n
            rw [gt_st, if_pos ⟨rfl, hi⟩] at ej
            obtain ⟨w, w1, w2⟩ := sta2.rep 0 e ej
            simp only [List.map_cons, List.getElem?_cons_zero, Option.some.injEq] at w1
            subst w1
            rw [s2, hp0] at w2
            rw [setF_same]
            exact ⟨x', hx', w2⟩
          · rw [gt_st, if_neg (fun z => n z.1)] at ej
            obtain ⟨w, w1, w2⟩ := staJ.rep j e ej
            rw [setF_ne n]
            exact ⟨w, w1, vrep_step w2 st2 (fun a m q => (off j a n m).1 (f0 a q)) fun z => by rw [hnb j] at z; cases z⟩
        · intro j ej
          by_cases n : j = i
          · subst n
            rw [gt_st, if_pos ⟨rfl, hi⟩] at ej
            rw [setF_same]; exact sta2.nf 0 ej
          · rw [gt_st, if_neg (fun z => n z.1)] at ej
            rw [setF_ne n]; exact sta1.nf j ej
        · intro j k a m m2
          by_cases n : j = i <;> by_cases n' : k = i
          · rw [n, n']
          · subst n
            rw [setF_same] at m
            rw [setF_ne n'] at m2
            obtain ⟨q1, o, q2, _⟩ := off k a n' m2
            rcases n2 a m with z | z
            · exact absurd z q1
            · rw [q2] at z; cases z
          · subst n'
            rw [setF_same] at m2
            rw [setF_ne n] at m
            obtain ⟨q1, o, q2, _⟩ := off j a n m
            rcases n2 a m2 with z | z
            · exact absurd z q1
            · rw [q2] at z; cases z
          · rw [setF_ne n] at m
            rw [setF_ne n'] at m2
            exact sta1.dj j k a m m2
        · intro j a m
          by_cases n : j = i
          · subst n; rw [setF_same] at m; exact sta2.nB 0 a m
          · rw [setF_ne n] at m
            obtain ⟨q1, o, q2, _⟩ := off j a n m
            cases eb : B2 a with
            | none => rfl
            | some ob =>
              rcases st2.newB a (by rw [eb]; simp) with z | z | z
              · exact absurd (staJ.nB j a m) z
              · exact absurd (f0 a z) q1
              · rw [q2] at z; cases z
        · rw [← s3]; exact has2.rep
        · rintro a m ⟨j, mj⟩
          by_cases n : j = i
          · subst n; rw [setF_same] at mj; exact has2.dj a m ⟨0, mj⟩
          · rw [setF_ne n] at mj
            obtain ⟨q1, o, q2, _⟩ := off j a n mj
            rcases ng a m with z | z
            · exact absurd z q1
            · rw [q2] at z; cases z
theorem snd_popAt {i : Nat} {a : IE} (ha : SndE C sg a) : SndE C sg (.popAt i a) := by
  intro nb ks hnb pin W B H σ ρ F k Q hk sta h
  simp only [kE] at hk
  split at hk <;> try (simp only [reduceCtorEq] at hk)
  rename_i hb
  have hb' : nb = true := by cases nb <;> simp_all
  have hkk : ∃ k1, kE sg nb ks a = some k1 ∧ ((ks i = .top ∧ k = .sh) ∨ (ks i = .deep ∧ k = .deep)) := by
    split at hk <;> simp only [reduceCtorEq, Option.some.injEq] at hk
    · rename_i e1 e2; exact ⟨_, e2, .inl ⟨e1, hk.symm⟩⟩
    · rename_i e1 e2; exact ⟨_, e2, .inr ⟨e1, hk.symm⟩⟩
  obtain ⟨k1, hk1, hkk⟩ := hkk
  simp only [evE] at h
  cases e0 : gt ρ i with
  | none => rw [e0] at h; exact h.elim
  | some dd =>
  rw [e0] at h
  cases dd with
  | lst ds0 =>
    simp only at h
    obtain ⟨x, hx, rx⟩ := sta.rep i _ e0
    have hh := vrep_hold sta.sub rx
    simp only [hold] at hh
    obtain ⟨p0, xs0, rfl, t1, _⟩ := hh
    refine ⟨_, hx, .inl ⟨rfl, xs0, .of t1⟩, ?_⟩
    refine ha nb ks hnb pin W B H σ ρ F k1 _ hk1 sta ?_
    cases ev : evE C.Φ a ρ with
    | bad => rw [ev] at h; exact h
    | exc c => rw [ev] at h; exact h
    | ok q =>
      obtain ⟨e, ρ1⟩ := q
      rw [ev] at h
      show Post C ks pin σ B H F ρ1 k1 e (pureE sg a) _
      intro u B1 H1 F1 f1 st1 sta1 has1 pu1
      cases e with
      | int kk =>
        simp only at h
        have gu := vrep_hold sta1.sub has1.rep
        simp only [hold] at gu
        subst gu
        split at h
        · rename_i hb2
          split at h
          · rename_i ds e1
            split at h
            · rename_i n en
              split at h
              · rename_i d ed
                have h : Post C ks pin σ B H F _ k d _ Q := h
                have hps := Post.shift (pb := false) h st1 fun z => by simp [pureE] at z
                obtain ⟨p, xs, y, c1, c2, c3, c4, c5⟩ := pop_core sta1 (hnb hb') hkk e1 ed hps
                have : p = p0 := by rw [hx] at c1; simpa using c1.symm
                subst this
                obtain ⟨s1, s2, s3, s4⟩ := ixN_seq (show ixN ds.length kk = some n from en)
                exact ⟨p, xs, kk, n, y, rfl, rfl, c2, by omega, by omega, by rw [← c3]; exact s1, c4, c5⟩
              · exact h.elim
            · exact h.elim
          · exact h.elim
        · exact h.elim
      | _ => exact h.elim
  | _ => exact h.elim
end
end TW

namespace TW
open PySem L2
section
variable {C : Ctx} {sg : Nat → Sig}
theorem set_get {σ : L2.St} {i j : Nat} {x : Option V} : (σ.set i x)[j]? = if j = i ∧ i < σ.length then some x else σ[j]? := by
  by_cases e : j = i
  · subst e
    by_cases l : j < σ.length
    · rw [if_pos ⟨rfl, l⟩, List.getElem?_set_self l]
    · rw [if_neg (fun z => l z.2), List.getElem?_eq_none (by rw [List.length_set]; omega), List.getElem?_eq_none (by omega)]
  · rw [if_neg (fun z => e z.1), List.getElem?_set_ne (Ne.symm e)]
/-- a name is given -/
theorem Sta.bind {ks : Nat → Kind} {pin : Nat → Option V} {B H : Hp} {σ : L2.St} {ρ : Env} {F : Nat → List Addr} (sta : Sta C ks pin B H σ ρ F) {i : Nat} {d : D} {v : V} {g : List Addr}
    (hr : vrep C.K (ks i) B H d v g) (hg : ∀ a ∈ g, ¬ FP F a) (nB : ∀ a ∈ g, B a = none) (hp : pin i = none) :
    ∃ F', Sta C ks pin B H (σ.set i (some v)) (st ρ i (some d)) F' ∧ ∀ a, FP F' a → FP F a ∨ a ∈ g := by
  have pn : ∀ j w, pin j = some w → (σ.set i (some v))[j]? = some (some w) := fun j w e => by
    have n : j ≠ i := fun z => by rw [z, hp] at e; cases e
    rw [set_get, if_neg fun z => n z.1]; exact sta.pin j w e
  by_cases li : i < ρ.length
  · refine ⟨setF F i g, ⟨by rw [st_length, List.length_set]; exact sta.len, sta.sub, sta.tab, fun j e ej => ?_, fun j ej => ?_, fun j k a m m2 => ?_, fun j a m => ?_, pn⟩, fun a z => setF_fp z⟩
    · by_cases n : j = i
      · subst n
        rw [gt_st, if_pos ⟨rfl, li⟩] at ej
        cases ej
        rw [setF_same]
        exact ⟨v, by rw [set_get, if_pos ⟨rfl, Nat.lt_of_lt_of_le li sta.len⟩], hr⟩
      · rw [gt_st, if_neg (fun z => n z.1)] at ej
        rw [setF_ne n, set_get, if_neg (fun z => n z.1)]
        exact sta.rep j e ej
    · by_cases n : j = i
      · subst n
        rw [gt_st, if_pos ⟨rfl, li⟩] at ej; cases ej
      · rw [gt_st, if_neg (fun z => n z.1)] at ej
        rw [setF_ne n]; exact sta.nf j ej
    · by_cases n : j = i <;> by_cases n2 : k = i
      · rw [n, n2]
      · subst n
        rw [setF_same] at m
        rw [setF_ne n2] at m2
        exact absurd ⟨k, m2⟩ (hg a m)
      · subst n2
        rw [setF_same] at m2
        rw [setF_ne n] at m
        exact absurd ⟨j, m⟩ (hg a m2)
      · rw [setF_ne n] at m
        rw [setF_ne n2] at m2
        exact sta.dj j k a m m2
    · by_cases n : j = i
      · subst n; rw [setF_same] at m; exact nB a m
      · rw [setF_ne n] at m; exact sta.nB j a m
  · have es : st ρ i (some d) = ρ := by
      have : ∀ (ρ : Env) (i : Nat), ¬ i < ρ.length → st ρ i (some d) = ρ := fun ρ => by
        induction ρ with
        | nil => intro i _; rfl
        | cons x r ih =>
          intro i h
          cases i with
          | zero => exact absurd (Nat.succ_pos _) h
          | succ i =>
            have := ih i (by simp only [List.length_cons] at h; omega)
            simp only [st, this]
      exact this ρ i li
    rw [es]
    refine ⟨F, ⟨by rw [List.length_set]; exact sta.len, sta.sub, sta.tab, fun j e ej => ?_, sta.nf, sta.dj, sta.nB, pn⟩, fun a z => .inl z⟩
    have n : j ≠ i := fun z => li (z ▸ gt_lt ej)
    rw [set_get, if_neg (fun z => n z.1)]
    exact sta.rep j e ej
/-- where the items of such a thing are known -/
def hB (s : Kind) (B H : Hp) : Hp := if s = .bo then H else B
theorem vrep_hB {s : Kind} (hs : s = .sh ∨ s = .bo) {K : PySem.W.Frag} {B H : Hp} {d : D} {v : V} (h : hold K (hB s B H) d v) : vrep K s B H d v [] := by
  rcases hs with rfl | rfl
  · exact ⟨h, rfl⟩
  · exact ⟨h, rfl⟩
theorem hB_ext {s : Kind} {B H : Hp} (sub : Sub B H) : Ext (hB s B H) H := by
  unfold hB
  split
  · exact .of fun _ _ e _ => e
  · exact sub.ext
theorem hB_one {s : Kind} {B H : Hp} : (s = .bo ∧ hB s B H = H) ∨ hB s B H = B := by
  unfold hB
  split
  · rename_i e; exact .inl ⟨e, rfl⟩
  · exact .inr rfl
/-- several names are given -/
theorem tgs_ok {s : Kind} (hs : s = .sh ∨ s = .bo) {ks : Nat → Kind} {pin : Nat → Option V} {B H : Hp} : ∀ (is : List Nat) {ds : List D} {xs : List V} {σ : L2.St} {ρ ρ' : Env} {F : Nat → List Addr} {Q : L2.St → Hp → Prop}, Sta C ks pin B H σ ρ F →
    holds C.K (hB s B H) ds xs → (∀ i ∈ is, ks i = s) → (∀ i ∈ is, pin i = none) → sts ρ is ds = some ρ' →
    (∀ σ' F', Sta C ks pin B H σ' ρ' F' → (∀ a, FP F' a → FP F a) → σ'.length = σ.length → (∀ j, j ∉ is → σ'[j]? = σ[j]?) → Q σ' H) → gNs is xs σ H Q
  | [], ds, xs, σ, ρ, ρ', F, Q, sta, h, _, _, e, q => by
    cases ds with
    | nil =>
      simp only [sts, Option.some.injEq] at e
      subst e
      exact ⟨h, q σ F sta (fun _ z => z) rfl fun _ _ => rfl⟩
    | cons => simp [sts] at e
  | i :: is, ds, xs, σ, ρ, ρ', F, Q, sta, h, hk, hp, e, q => by
    cases ds with
    | nil => simp [sts] at e
    | cons d ds =>
      simp only [sts] at e
      obtain ⟨x, r, rfl, h1, h2⟩ := h
      obtain ⟨F1, sta1, f1⟩ := sta.bind (i := i) (d := d) (v := x) (g := []) (by rw [hk i List.mem_cons_self]; exact vrep_hB hs h1) nomem nomem (hp i List.mem_cons_self)
      refine ⟨x, r, rfl, tgs_ok hs is sta1 h2 (fun j m => hk j (List.mem_cons_of_mem _ m)) (fun j m => hp j (List.mem_cons_of_mem _ m)) e fun σ' F' st' f' l' g' => q σ' F' st' (fun a z => (f1 a (f' a z)).elim id fun m => by cases m) (by rw [l', List.length_set]) fun j n => ?_⟩
      rw [g' j (fun m => n (List.mem_cons_of_mem _ m)), set_get, if_neg (fun z => n (by rw [z.1]; exact List.mem_cons_self))]
/-- a target is given, its data shared or borrowed -/
theorem tg_ok {s : Kind} (hs : s = .sh ∨ s = .bo) {ks : Nat → Kind} {pin : Nat → Option V} {B H : Hp} {t : Tg} {d : D} {v : V} {σ : L2.St} {ρ ρ' : Env} {F : Nat → List Addr} {Q : L2.St → Hp → Prop} (sta : Sta C ks pin B H σ ρ F)
    (h : hold C.K (hB s B H) d v) (hk : ∀ i ∈ t.names, ks i = s) (hp : ∀ i ∈ t.names, pin i = none) (e : t.put d ρ = some ρ')
    (q : ∀ σ' F', Sta C ks pin B H σ' ρ' F' → (∀ a, FP F' a → FP F a) → σ'.length = σ.length → (∀ j, j ∉ t.names → σ'[j]? = σ[j]?) → Q σ' H) : rdTg C.K t v σ H Q := by
  cases t with
  | nm i =>
    simp only [Tg.put, Option.some.injEq] at e
    subst e
    obtain ⟨F1, sta1, f1⟩ := sta.bind (i := i) (d := d) (v := v) (g := []) (by rw [hk i (List.mem_singleton.mpr rfl)]; exact vrep_hB hs h) nomem nomem (hp i (List.mem_singleton.mpr rfl))
    refine q _ F1 sta1 (fun a z => (f1 a z).elim id fun m => by cases m) (by rw [List.length_set]) fun j n => ?_
    rw [set_get, if_neg (fun z => n (List.mem_singleton.mpr z.1))]
  | tup is =>
    cases d <;> simp only [Tg.put, reduceCtorEq] at e
    obtain ⟨p, xs, rfl, e2, e3⟩ := h
    rcases hB_ext sta.sub p _ e2 nt_tup with e4 | ⟨_, _, z, _⟩
    · have : ∀ (is : List Nat) (ρ : Env) (ds : List D), sts ρ is ds = some ρ' → ds.length = is.length := fun is => by
        induction is with
        | nil => intro ρ ds e; cases ds <;> simp [sts] at e; rfl
        | cons i is ih => intro ρ ds e; cases ds <;> simp [sts] at e; simp [ih _ _ e]
      exact ⟨p, xs, rfl, .of e4, by rw [← holds_length e3]; exact this _ _ _ e, tgs_ok hs is sta e3 hk hp e q⟩
    · cases z
  | lsp is =>
    cases d <;> simp only [Tg.put, reduceCtorEq] at e
    obtain ⟨p, xs, rfl, e2, e3⟩ := h
    rcases hB_ext sta.sub p _ e2 nt_lst with e4 | ⟨_, _, z, _⟩
    · have : ∀ (is : List Nat) (ρ : Env) (ds : List D), sts ρ is ds = some ρ' → ds.length = is.length := fun is => by
        induction is with
        | nil => intro ρ ds e; cases ds <;> simp [sts] at e; rfl
        | cons i is ih => intro ρ ds e; cases ds <;> simp [sts] at e; simp [ih _ _ e]
      exact ⟨p, xs, rfl, .of e4, by rw [← holds_length e3]; exact this _ _ _ e, tgs_ok hs is sta e3 hk hp e q⟩
    · cases z
end
end TW

namespace TW
open PySem L2
section
variable {C : Ctx} {sg : Nat → Sig}
/-- a walk over the data ds -/
structure SrcOk (C : Ctx) (s : Kind) (B H : Hp) (ds : List D) (J : It) (G : Hp → Prop) (Y : Nat → Hp → V → Hp → Prop) (b : Bool) : Prop where
  w : Walk J ds.length G Y
  g1 : ∀ Hx, Up H Hx → G Hx
  g2 : b = true → ∀ Hx, Sub B Hx → G Hx
  it : ∀ i Hx x H', i < ds.length → Y i Hx x H' → H' = Hx ∧ ∃ d, ds[i]? = some d ∧ hold C.K (hB s B H) d x
def FinSrc (C : Ctx) (k : Sk) (ks : Nat → Kind) (pin : Nat → Option V) (σ : L2.St) (B H : Hp) (F : Nat → List Addr) (W : WX) (ka : Kind) (pu : Bool) (r : Res (List D × Env)) (R : It → Hp → Prop) : Prop := match r with
  | .ok (ds, ρ') => ∀ J G Y B' H' F', Step B H (FP F) B' H' (FP F') → Sta C ks pin B' H' σ ρ' F' → (pu = true → Up H H' ∧ F' = F) → SrcOk C (k.src ka) B' H' ds J G Y (k.okS ka) → R J H'
  | .exc c => ∀ H', Xup F H H' → NdefX.TabsN C.T H' → W (.ref (C.cls c)) none σ H'
  | .bad => False
theorem rng_len (a b : Int) : (rng a b 1).length = (b - a).toNat := by
  unfold rng
  rw [if_pos (by decide), List.length_map, List.length_range, Int.ediv_one]
  congr 1; omega
theorem rng_get {a b : Int} {i : Nat} (h : i < (b - a).toNat) : (rng a b 1)[i]? = some (a + i) := by
  unfold rng
  rw [if_pos (by decide), List.getElem?_map, List.getElem?_range (by rw [Int.ediv_one]; omega)]
  simp
theorem isC_of {e : IE} (h : e.isC = true) : ∃ d, e = .cst d := by
  cases e <;> simp only [IE.isC, Bool.false_eq_true] at h
  exact ⟨_, rfl⟩
theorem rng_ok {s : Kind} {B H : Hp} {a b : Int} {ba : Bool} : SrcOk C s B H ((rng a b 1).map .int) (Itr a (b - a).toNat) (fun _ => True) (YFn fun i => .int (a + (i : Nat))) ba where
  w := by
    rw [List.length_map, rng_len]
    exact walk_range
  g1 := fun _ _ => trivial
  g2 := fun _ _ _ => trivial
  it := fun i Hx x H' hi y => by
    rw [List.length_map, rng_len] at hi
    refine ⟨y.1, .int (a + i), by rw [List.getElem?_map, rng_get hi]; rfl, ?_⟩
    rw [y.2]; rfl
theorem ints_get {ns : List Int} {i : Nat} {x : V} (h : (ns.map V.int)[i]? = some x) : ∃ n, (ns.map D.int)[i]? = some (.int n) ∧ x = .int n := by
  rw [List.getElem?_map] at h ⊢
  cases e : ns[i]? with
  | none => rw [e] at h; cases h
  | some n => rw [e] at h; cases h; exact ⟨n, rfl, rfl⟩
theorem okS_le {k : Kind} (h : Sk.okS .lst k = true) : k.le .sh = true := by
  cases k <;> simp_all [Sk.okS, Kind.le]
theorem snd_src {k : Sk} {a b c : IE} (ha : SndE C sg a) (hb : SndE C sg b) (hc : SndE C sg c) {nb : Bool} {ks : Nat → Kind} (hnb : nb = true → ∀ j, (ks j).borrowed = false) {pin : Nat → Option V} {W : WX} {B H : Hp} {σ : L2.St} {ρ : Env} {F : Nat → List Addr} {ka kb kc : Kind} {R : It → Hp → Prop}
    (e1 : kE sg nb ks a = some ka) (e2 : kE sg nb ks b = some kb) (e3 : kE sg nb ks c = some kc) (hd : k.dum a b c = true) (np : k.pure = true) (sta : Sta C ks pin B H σ ρ F)
    (h : FinSrc C k ks pin σ B H F W ka (pureE sg a && pureE sg b && pureE sg c) (srcRes k (evE C.Φ a ρ) (evE C.Φ b) (evE C.Φ c)) R) : iSrc C.K k (rdE C a W) (rdE C b W) (rdE C c W) σ H R := by
  cases k with
  | dic i => simp [Sk.pure] at np
  | r3 =>
    refine ha nb ks hnb pin W B H σ ρ F ka _ e1 sta ?_
    cases ev : evE C.Φ a ρ with
    | bad => rw [ev] at h; exact h
    | exc c => rw [ev] at h; exact h
    | ok q =>
      obtain ⟨x, ρ1⟩ := q
      rw [ev] at h
      simp only [srcRes] at h
      intro v B1 H1 F1 f1 st1 sta1 has1 pu1
      refine hb nb ks hnb pin W B1 H1 σ ρ1 F1 kb _ e2 sta1 ?_
      cases ev2 : evE C.Φ b ρ1 with
      | bad => rw [ev2] at h; exact h
      | exc c => rw [ev2] at h; exact fun H' x t => h H' (x.of st1) t
      | ok q =>
        obtain ⟨y, ρ2⟩ := q
        rw [ev2] at h
        simp only at h
        intro v2 B2 H2 F2 f2 st2 sta2 has2 pu2
        refine hc nb ks hnb pin W B2 H2 σ ρ2 F2 kc _ e3 sta2 ?_
        cases ev3 : evE C.Φ c ρ2 with
        | bad => rw [ev3] at h; exact h
        | exc c => rw [ev3] at h; exact fun H' x t => h H' ((x.of st2).of st1) t
        | ok q =>
          obtain ⟨z, ρ3⟩ := q
          rw [ev3] at h
          simp only [srcOf] at h
          exact h.elim
  | r2 =>
    obtain ⟨d3, rfl⟩ := isC_of hd
    refine ha nb ks hnb pin W B H σ ρ F ka _ e1 sta ?_
    cases ev : evE C.Φ a ρ with
    | bad => rw [ev] at h; exact h
    | exc c => rw [ev] at h; exact h
    | ok q =>
      obtain ⟨x, ρ1⟩ := q
      rw [ev] at h
      simp only [srcRes] at h
      intro v B1 H1 F1 f1 st1 sta1 has1 pu1
      refine hb nb ks hnb pin W B1 H1 σ ρ1 F1 kb _ e2 sta1 ?_
      cases ev2 : evE C.Φ b ρ1 with
      | bad => rw [ev2] at h; exact h
      | exc c => rw [ev2] at h; exact fun H' x t => h H' (x.of st1) t
      | ok q =>
        obtain ⟨y, ρ2⟩ := q
        rw [ev2] at h
        simp only [evE] at h
        intro v2 B2 H2 F2 f2 st2 sta2 has2 pu2
        cases x <;> try exact h.elim
        cases y <;> try exact h.elim
        rename_i m n
        simp only [srcOf] at h
        split at h
        · rename_i hz
          split at hz <;> simp only [reduceCtorEq, Option.some.injEq] at hz
          rename_i bd
          subst hz
          have g1 := vrep_hold sta1.sub has1.rep
          have g2 := vrep_hold sta2.sub has2.rep
          simp only [hold] at g1 g2
          subst g1; subst g2
          unfold big lim at bd
          refine ⟨m, n, rfl, ⟨by omega, by omega, by omega, by omega⟩, ?_⟩
          exact h _ _ _ B2 H2 F2 ((st1.row st2).less fun a z => .inl z) sta2 (fun z => by
            simp only [Bool.and_eq_true] at z
            obtain ⟨u1, w1⟩ := pu1 z.1.1
            obtain ⟨u2, w2⟩ := pu2 z.1.2
            exact ⟨u1.trans u2, w2.trans w1⟩) rng_ok
        · exact h.elim
  | r1 =>
    obtain ⟨hd1, hd2⟩ := Bool.and_eq_true_iff.mp hd
    obtain ⟨d2, rfl⟩ := isC_of hd1
    obtain ⟨d3, rfl⟩ := isC_of hd2
    refine ha nb ks hnb pin W B H σ ρ F ka _ e1 sta ?_
    cases ev : evE C.Φ a ρ with
    | bad => rw [ev] at h; exact h
    | exc c => rw [ev] at h; exact h
    | ok q =>
      obtain ⟨x, ρ1⟩ := q
      rw [ev] at h
      simp only [srcRes, evE] at h
      intro v B1 H1 F1 f1 st1 sta1 has1 pu1
      cases x <;> try exact h.elim
      rename_i n
      simp only [srcOf] at h
      split at h
      · rename_i hz
        split at hz <;> simp only [reduceCtorEq, Option.some.injEq] at hz
        rename_i bd
        subst hz
        have g1 := vrep_hold sta1.sub has1.rep
        simp only [hold] at g1
        subst g1
        unfold big lim at bd
        refine ⟨n, rfl, by omega, by omega, ?_⟩
        have e : n.toNat = (n - 0).toNat := by rw [Int.sub_zero]
        rw [e]
        exact h _ _ _ B1 H1 F1 (st1.less fun a z => .inl z) sta1 (fun z => by
          simp only [Bool.and_eq_true] at z
          exact pu1 z.1.1) rng_ok
      · exact h.elim
  | lst =>
    obtain ⟨hd1, hd2⟩ := Bool.and_eq_true_iff.mp hd
    obtain ⟨d2, rfl⟩ := isC_of hd1
    obtain ⟨d3, rfl⟩ := isC_of hd2
    refine ha nb ks hnb pin W B H σ ρ F ka _ e1 sta ?_
    cases ev : evE C.Φ a ρ with
    | bad => rw [ev] at h; exact h
    | exc c => rw [ev] at h; exact h
    | ok q =>
      obtain ⟨x, ρ1⟩ := q
      rw [ev] at h
      simp only [srcRes, evE] at h
      intro v B1 H1 F1 f1 st1 sta1 has1 pu1
      have stJ := st1.join (g := f1) has1.nB fun _ m => m
      have staJ := sta1.absorb has1.at has1.dj has1.nB
      obtain ⟨rb, rn⟩ := has1.read sta1.sub
      have hB_join : ∀ {s : Kind}, s ≠ .bo → hB s (join B1 H1 f1) H1 = join B1 H1 f1 := fun n => by unfold hB; rw [if_neg n]
      have pu : (pureE sg a && pureE sg (.cst d2) && pureE sg (.cst d3)) = true → Up H H1 ∧ F1 = F := fun z => by
        simp only [Bool.and_eq_true] at z
        exact pu1 z.1.1
      cases x with
      | lst ds =>
        simp only [srcOf] at h
        have key : ∃ p xs, v = .ref p ∧ H1 p = some (.lst xs) ∧ holds C.K (hB (Sk.src .lst ka) (join B1 H1 f1) H1) ds xs := by
          by_cases eb : ka = .bo
          · subst eb
            obtain ⟨p, xs, w1, w2, w3⟩ := rb rfl
            exact ⟨p, xs, w1, w2, holds_mono (.of fun a o e _ => (vis_some e).2.1) _ _ w3⟩
          · obtain ⟨p, xs, w1, w2, w3⟩ := rn eb
            have : Sk.src .lst ka ≠ .bo := by cases ka <;> simp_all [Sk.src, Kind.kid]
            exact ⟨p, xs, w1, w2, by rw [hB_join this]; exact w3⟩
        obtain ⟨p, xs, rfl, t1, t2⟩ := key
        refine ⟨p, rfl, ⟨xs, .of t1⟩, h _ _ _ _ H1 F1 stJ staJ pu ⟨by rw [holds_length t2]; exact walk_list (K := C.K) (a := p) (xs := xs), fun Hx e => e.ext.sq (.of t1), fun l Hx e => ?_, fun i Hx x H' hi y => ?_⟩⟩
        · have o := has1.open_ (okS_le l)
          obtain ⟨p', xs', w1, w2, _⟩ := o
          cases w1
          have w4 := (staJ.sub _ _ w2).1
          rw [t1] at w4; cases w4
          exact .of (e _ _ w2).1
        · obtain ⟨d, z1, z2⟩ := holds_get' t2 y.2
          exact ⟨y.1, d, z1, z2⟩
      | scr ns =>
        simp only [srcOf] at h
        have key : ∃ p, v = .ref p ∧ SqL C.K H1 p (ns.map V.int) := by
          by_cases eb : ka = .bo
          · exact rb eb
          · exact rn eb
        obtain ⟨p, rfl, t1⟩ := key
        refine ⟨p, rfl, ⟨_, t1⟩, h _ _ (YAt (ns.map V.int)) _ H1 F1 stJ staJ pu ⟨?_, fun Hx e => e.ext.sq t1, fun l Hx e => ?_, fun i Hx x H' hi y => ?_⟩⟩
        · have := walk_list (K := C.K) (a := p) (xs := ns.map V.int)
          rw [List.length_map] at this ⊢
          exact this
        · have o := has1.open_ (okS_le l)
          obtain ⟨p', w1, w2⟩ := o
          cases w1
          exact e.ext.sq w2
        · obtain ⟨n, z1, rfl⟩ := ints_get y.2
          exact ⟨y.1, _, z1, rfl⟩
      | _ => exact h.elim
end
end TW

namespace TW
open PySem L2
section
variable {C : Ctx} {sg : Nat → Sig}
/-- the frame without some slots' own things -/
def outF (F : Nat → List Addr) (is : List Nat) : Nat → List Addr := fun j => if j ∈ is then [] else F j
theorem outF_in {F : Nat → List Addr} {is : List Nat} {j : Nat} (h : j ∈ is) : outF F is j = [] := if_pos h
theorem outF_out {F : Nat → List Addr} {is : List Nat} {j : Nat} (h : j ∉ is) : outF F is j = F j := if_neg h
theorem outF_fp {F : Nat → List Addr} {is : List Nat} {a : Addr} (h : FP (outF F is) a) : FP F a := by
  obtain ⟨j, m⟩ := h
  by_cases e : j ∈ is
  · rw [outF_in e] at m; cases m
  · rw [outF_out e] at m; exact ⟨j, m⟩
theorem wipeE_length (ρ : Env) : ∀ is, (wipeE ρ is).length = ρ.length
  | [] => rfl
  | i :: is => by simp only [wipeE, st_length, wipeE_length ρ is]
theorem wipeE_in {ρ : Env} {j : Nat} : ∀ {is : List Nat}, j ∈ is → gt (wipeE ρ is) j = none
  | [], h => by cases h
  | i :: is, h => by
    simp only [wipeE, gt_st]
    by_cases e : j = i
    · by_cases l : i < (wipeE ρ is).length
      · rw [if_pos ⟨e, l⟩]
      · rw [if_neg (fun z => l z.2)]
        cases q : gt (wipeE ρ is) j with
        | none => rfl
        | some d => exact absurd (e ▸ gt_lt q) l
    · rw [if_neg (fun z => e z.1)]
      exact wipeE_in ((List.mem_cons.mp h).resolve_left e)
theorem wipeE_out {ρ : Env} {j : Nat} : ∀ {is : List Nat}, j ∉ is → gt (wipeE ρ is) j = gt ρ j
  | [], _ => rfl
  | i :: is, h => by
    have e : j ≠ i := fun z => h (by rw [z]; exact List.mem_cons_self)
    simp only [wipeE, gt_st]
    rw [if_neg (fun z => e z.1)]
    exact wipeE_out fun m => h (List.mem_cons_of_mem _ m)
theorem wipe_in {σ : L2.St} {j : Nat} : ∀ {is : List Nat}, j ∈ is → (wipe σ is)[j]? = (σ[j]?).map fun _ => none
  | [], h => by cases h
  | i :: is, h => by
    unfold wipe
    rw [set_get]
    by_cases e : j = i
    · by_cases l : i < (wipe σ is).length
      · rw [if_pos ⟨e, l⟩]
        rw [wipe_length] at l
        rw [List.getElem?_eq_getElem (by omega)]; rfl
      · rw [if_neg (fun z => l z.2), List.getElem?_eq_none (by omega)]
        rw [wipe_length] at l
        rw [List.getElem?_eq_none (by omega)]; rfl
    · rw [if_neg (fun z => e z.1)]
      exact wipe_in ((List.mem_cons.mp h).resolve_left e)
/-- only the block's names were touched -/
theorem wipe_back {σ σ' : L2.St} {is : List Nat} (hl : σ'.length = (wipe σ is).length) (h : ∀ j, j ∉ is → σ'[j]? = (wipe σ is)[j]?) : wipe σ' is = wipe σ is := by
  apply List.ext_getElem?
  intro j
  by_cases m : j ∈ is
  · rw [wipe_in m, wipe_in m]
    rw [wipe_length] at hl
    by_cases l : j < σ.length
    · rw [List.getElem?_eq_getElem l, List.getElem?_eq_getElem (by omega)]; rfl
    · rw [List.getElem?_eq_none (by omega), List.getElem?_eq_none (by omega)]
  · rw [L2.wipe_out m, h j m]
theorem Sta.wiped {ks : Nat → Kind} {pin : Nat → Option V} {B H : Hp} {σ : L2.St} {ρ : Env} {F : Nat → List Addr} (sta : Sta C ks pin B H σ ρ F) (is : List Nat) (s : Kind) : Sta C (setK ks is s) (fun _ => none) B H (wipe σ is) (wipeE ρ is) (outF F is) where
  len := by rw [wipeE_length, wipe_length]; exact sta.len
  sub := sta.sub
  tab := sta.tab
  rep := fun j d e => by
    by_cases m : j ∈ is
    · rw [wipeE_in m] at e; cases e
    · rw [wipeE_out m] at e
      rw [L2.wipe_out m, outF_out m]
      unfold setK
      rw [if_neg m]
      exact sta.rep j d e
  nf := fun j e => by
    by_cases m : j ∈ is
    · exact outF_in m
    · rw [wipeE_out m] at e; rw [outF_out m]; exact sta.nf j e
  dj := fun j k a m m2 => by
    by_cases n : j ∈ is
    · rw [outF_in n] at m; cases m
    · by_cases n2 : k ∈ is
      · rw [outF_in n2] at m2; cases m2
      · rw [outF_out n] at m; rw [outF_out n2] at m2; exact sta.dj j k a m m2
  nB := fun j a m => by
    by_cases n : j ∈ is
    · rw [outF_in n] at m; cases m
    · rw [outF_out n] at m; exact sta.nB j a m
  pin := fun _ _ z => by cases z
theorem Step.row0 {B H B1 H1 B2 H2 : Hp} {P1 P2 : Addr → Prop} (s : Step B H Nil B1 H1 P1) (t : Step B1 H1 Nil B2 H2 P2) : Step B H Nil B2 H2 (fun a => P1 a ∨ P2 a) where
  ex := fun a o e => t.ex a o (s.ex a o e)
  up := fun a o e n z => t.up a o (s.up a o e n z) (fun q => q) z
  th := fun a h => t.th a (s.th a h)
  new := fun a h => h.elim (s.new a) fun q => (t.new a q).imp (fun z => z) fun r => by
    cases e : H a with
    | none => rfl
    | some o => exact absurd r (s.th a (by rw [e]; simp))
  newB := fun a h => by
    rcases t.newB a h with q | q | q
    · exact s.newB a q
    · exact q.elim
    · refine .inr (.inr ?_)
      cases r : H a with
      | none => rfl
      | some o => exact absurd q (s.th a (by rw [r]; simp))
/-- what a pure reckoning does to the heap -/
theorem Step.pure_ {ks : Nat → Kind} {pin : Nat → Option V} {B H B1 H1 : Hp} {σ : L2.St} {ρ1 : Env} {F F1 : Nat → List Addr} {f : List Addr} {k : Kind} {d : D} {v : V} (st : Step B H (FP F) B1 H1 (fun a => FP F1 a ∨ a ∈ f)) (sta1 : Sta C ks pin B1 H1 σ ρ1 F1)
    (has : Has C B1 H1 F1 k d v f) (up : Up H H1 ∧ F1 = F) : Step B H Nil B1 H1 (fun a => a ∈ f) where
  ex := st.ex
  up := fun a o e _ z => up.1 a o e z
  th := st.th
  new := fun a m => (st.new a (.inr m)).elim (fun z => absurd (up.2 ▸ z) (has.dj a m)) .inr
  newB := fun a h => by
    rcases st.newB a h with q | q | q
    · exact .inl q
    · rw [← up.2] at q
      obtain ⟨j, m⟩ := q
      exact absurd (sta1.nB j a m) h
    · exact .inr (.inr q)
theorem tabs_upd {H : Hp} {p : Addr} {o ob : HO} (t : NdefX.TabsN C.T H) (h1 : H p = some ob) (h2 : Lay ob ∨ ∃ u w, ob = .frz u w) : NdefX.TabsN C.T (upd H p o) := by
  intro q hq
  obtain ⟨ps, e1, e2, e3⟩ := t q hq
  have ne : ∀ b ps, H b = some (.tbl ps) → b ≠ p := fun b ps e z => by
    rw [z, h1] at e
    cases e
    rcases h2 with h2 | ⟨_, _, h2⟩
    · exact h2.nt ps rfl
    · cases h2
  refine ⟨ps, put_up e1 (ne _ _ e1), e2, fun pos cv hc => ?_⟩
  obtain ⟨c, e4, e5⟩ := e3 pos cv hc
  refine ⟨c, e4, put_up e5 fun z => ?_⟩
  rw [z, h1] at e5
  cases e5
  rcases h2 with (⟨_, e⟩ | ⟨_, e⟩ | ⟨_, e⟩ | ⟨_, e⟩) | ⟨_, _, e⟩ <;> cases e
/-- what is gathered so far -/
def Acc (C : Ctx) (rk : Kind) (B H : Hp) (ds : List D) (acc : List V) (g : List Addr) : Prop := match rk with
  | .deep => owns H ds acc g
  | _ => holds C.K B ds acc ∧ g = []
theorem Acc.step {rk : Kind} {B H B1 H1 : Hp} {ds : List D} {acc : List V} {g : List Addr} {P : Addr → Prop} (h : Acc C rk B H ds acc g) (s : Step B H Nil B1 H1 P) : Acc C rk B1 H1 ds acc g := by
  have e : Ext B B1 := .of fun a o q _ => s.ex a o q
  cases rk <;> simp only [Acc] at h ⊢
  case deep => exact owns_keep _ _ _ h fun a m o q l => s.up a o q (fun z => z) l.nt
  all_goals exact ⟨holds_mono e _ _ h.1, h.2⟩
theorem Acc.at {rk : Kind} {B H : Hp} {ds : List D} {acc : List V} {g : List Addr} (h : Acc C rk B H ds acc g) : ∀ a ∈ g, ∃ o, H a = some o ∧ Lay o := by
  cases rk <;> simp only [Acc] at h
  case deep => exact owns_at _ _ _ h
  all_goals (intro a m; rw [h.2] at m; cases m)
theorem Acc.length {rk : Kind} {B H : Hp} {ds : List D} {acc : List V} {g : List Addr} (h : Acc C rk B H ds acc g) : ds.length = acc.length := by
  cases rk <;> simp only [Acc] at h
  case deep => exact owns_length h
  all_goals exact holds_length h.1
theorem owns_append {H : Hp} : ∀ {ds es : List D} {xs ys : List V} {f g : List Addr}, owns H ds xs f → owns H es ys g → (∀ a ∈ f, a ∉ g) → owns H (ds ++ es) (xs ++ ys) (f ++ g)
  | [], _, _, _, _, _, h, k, _ => by obtain ⟨rfl, rfl⟩ := h; exact k
  | d :: ds, es, _, ys, _, g, h, k, n => by
    obtain ⟨x, r, g1, g2, rfl, rfl, h1, h2, h3⟩ := h
    refine ⟨x, r ++ ys, g1, g2 ++ g, rfl, by rw [List.append_assoc], h1, owns_append h2 k fun a m => n a (List.mem_append_right _ m), fun a m z => ?_⟩
    rcases List.mem_append.mp z with z | z
    · exact h3 a m z
    · exact n a (List.mem_append_left _ m) z
theorem owns_one {H : Hp} {d : D} {v : V} {f : List Addr} (h : own H d v f) : owns H [d] [v] f := ⟨v, [], f, [], rfl, by simp, h, ⟨rfl, rfl⟩, fun _ _ z => by cases z⟩
/-- one more -/
theorem Acc.snoc {rk k' : Kind} {B H : Hp} {ds : List D} {acc : List V} {g f : List Addr} {d : D} {v : V} (hk : (rk = .deep ∧ k' = .deep) ∨ (rk = .top ∧ k' = .sh)) (h : Acc C rk B H ds acc g) (hv : vrep C.K k' B H d v f) (n : ∀ a ∈ g, a ∉ f) : Acc C rk B H (ds ++ [d]) (acc ++ [v]) (g ++ f) := by
  rcases hk with ⟨rfl, rfl⟩ | ⟨rfl, rfl⟩
  · exact owns_append h (owns_one hv) n
  · obtain ⟨h1, rfl⟩ := h
    obtain ⟨h2, rfl⟩ := hv
    exact ⟨holds_append h1 (holds_one h2), rfl⟩
theorem Acc.put {rk : Kind} {B H : Hp} {ds : List D} {acc : List V} {g : List Addr} {p : Addr} {o : HO} (h : Acc C rk B H ds acc g) (n : p ∉ g) : Acc C rk B (upd H p o) ds acc g := by
  cases rk <;> simp only [Acc] at h ⊢
  case deep => exact owns_keep _ _ _ h fun a m u q l => put_up q fun z => n (z ▸ m)
  all_goals exact h
/-- between a comprehension's turns -/
structure Turn (C : Ctx) (rk : Kind) (B0 H0 : Hp) (p : Addr) (n : Nat) (H : Hp) (B : Hp) (ds : List D) (acc : List V) (g : List Addr) : Prop where
  st : Step B0 H0 Nil B H (fun a => a ∈ g ∨ a = p)
  sub : Sub B H
  tab : NdefX.TabsN C.T H
  bp : B p = none
  hp : H p = some (.lst acc)
  le : acc.length ≤ n
  acc : Acc C rk B H ds acc g
  g : ∀ a ∈ g, a ≠ p ∧ B a = none
theorem Turn.step {rk : Kind} {B0 H0 B1 H1 : Hp} {p : Addr} {n : Nat} {H : Hp} {B : Hp} {ds : List D} {acc : List V} {g f : List Addr} (t : Turn C rk B0 H0 p n H B ds acc g) (s : Step B H Nil B1 H1 (fun a => a ∈ f)) (sub : Sub B1 H1) (tab : NdefX.TabsN C.T H1) : Turn C rk B0 H0 p n H1 B1 ds acc g where
  st := (t.st.row0 s).less fun a z => .inl z
  sub := sub
  tab := tab
  bp := by
    cases e : B1 p with
    | none => rfl
    | some o =>
      rcases s.newB p (by rw [e]; simp) with q | q | q
      · exact absurd t.bp q
      · exact q.elim
      · rw [t.hp] at q; cases q
  hp := s.up p _ t.hp (fun z => z) nt_lst
  le := t.le
  acc := t.acc.step s
  g := fun a m => ⟨(t.g a m).1, by
    cases e : B1 a with
    | none => rfl
    | some o =>
      obtain ⟨o', h', _⟩ := t.acc.at a m
      rcases s.newB a (by rw [e]; simp) with q | q | q
      · exact absurd (t.g a m).2 q
      · exact q.elim
      · rw [h'] at q; cases q⟩
theorem Turn.more {rk : Kind} {B0 H0 : Hp} {p : Addr} {n : Nat} {H : Hp} {B : Hp} {ds : List D} {acc : List V} {g : List Addr} (t : Turn C rk B0 H0 p n H B ds acc g) : Turn C rk B0 H0 p (n + 1) H B ds acc g :=
  ⟨t.st, t.sub, t.tab, t.bp, t.hp, Nat.le_succ_of_le t.le, t.acc, t.g⟩
/-- an item behind the others -/
theorem Turn.snoc {rk k' : Kind} {B0 H0 : Hp} {p : Addr} {n : Nat} {H : Hp} {B B1 H1 : Hp} {ds : List D} {acc : List V} {g f : List Addr} {d : D} {v : V} (hk : (rk = .deep ∧ k' = .deep) ∨ (rk = .top ∧ k' = .sh)) (hp0 : H0 p = none)
    (t : Turn C rk B0 H0 p n H B ds acc g) (s : Step B H Nil B1 H1 (fun a => a ∈ f)) (sub : Sub B1 H1) (tab : NdefX.TabsN C.T H1) (hv : vrep C.K k' B1 H1 d v f) (nB : ∀ a ∈ f, B1 a = none) :
    Turn C rk B0 H0 p (n + 1) (upd H1 p (.lst (acc ++ [v]))) B1 (ds ++ [d]) (acc ++ [v]) (g ++ f) := by
  have t1 := t.step s sub tab
  have nf : ∀ a ∈ f, H a = none := fun a m => (s.new a m).elim (fun z => z.elim) fun z => z
  have pf : p ∉ f := fun m => by
    have := nf p m
    rw [t.hp] at this; cases this
  have pg : p ∉ g := fun m => (t.g p m).1 rfl
  have gf : ∀ a ∈ g, a ∉ f := fun a m z => by
    obtain ⟨o, e, _⟩ := t.acc.at a m
    rw [nf a z] at e; cases e
  refine ⟨⟨t1.st.ex, fun a o e n z => ?_, fun a h => ?_, fun a h => ?_, t1.st.newB⟩, fun a o e => ?_, tabs_upd tab t1.hp (.inl (.inl ⟨_, rfl⟩)), t1.bp, upd_same, ?_, ?_, fun a m => ?_⟩
  · exact put_up (t1.st.up a o e n z) fun q => by rw [q, hp0] at e; cases e
  · by_cases e : a = p
    · rw [e, upd_same]; simp
    · rw [upd_ne e]; exact t1.st.th a h
  · rcases h with h | h
    · rcases List.mem_append.mp h with h | h
      · exact t.st.new a (.inl h)
      · refine .inr ?_
        cases e : H0 a with
        | none => rfl
        | some o => exact absurd (nf a h) (t.st.th a (by rw [e]; simp))
    · exact t.st.new a (.inr h)
  · obtain ⟨h1, h2⟩ := sub a o e
    exact ⟨put_up h1 (fun q => by rw [q, t1.bp] at e; cases e), h2⟩
  · rw [List.length_append]; have := t.le; simp; omega
  · exact (t1.acc.snoc hk hv gf).put fun m => (List.mem_append.mp m).elim pg pf
  · rcases List.mem_append.mp m with m | m
    · exact t1.g a m
    · exact ⟨fun z => pf (z ▸ m), nB a m⟩
end
end TW

namespace TW
open PySem L2
section
variable {C : Ctx} {sg : Nat → Sig}
theorem lcK_of {ke rk : Kind} (h : lcK ke = some rk) : ∃ k2, ke.le k2 = true ∧ ((rk = .deep ∧ k2 = .deep) ∨ (rk = .top ∧ k2 = .sh)) := by
  cases ke <;> simp only [lcK, reduceCtorEq, Option.some.injEq] at h <;> subst h
  · exact ⟨.deep, rfl, .inl ⟨rfl, rfl⟩⟩
  · exact ⟨.sh, rfl, .inr ⟨rfl, rfl⟩⟩
  · exact ⟨.sh, rfl, .inr ⟨rfl, rfl⟩⟩
  · exact ⟨.deep, rfl, .inl ⟨rfl, rfl⟩⟩
/-- a comprehension's loop -/
theorem lc_loop {t : Tg} {test elt : IE} (ht : SndE C sg test) (he : SndE C sg elt) {ks : Nat → Kind} {pin : Nat → Option V} {B H : Hp} {σ : L2.St} {ρ : Env} {F : Nat → List Addr} {s kt ke rk : Kind} {ds rs : List D} {J : It} {G : Hp → Prop} {Y : Nat → Hp → V → Hp → Prop} {ba : Bool} {p : Addr} {Qd : Hp → Prop}
    (hs : s = .sh ∨ s = .bo) (hkt : kE sg false (setK ks t.names s) test = some kt) (hke : kE sg false (setK ks t.names s) elt = some ke) (pt : pureE sg test = true) (pe : pureE sg elt = true) (sta : Sta C ks pin B H σ ρ F)
    (so : SrcOk C s B H ds J G Y ba) (hlim : ds.length ≤ lim) (hl : lcGo t.put (evE C.Φ test) (evE C.Φ elt) ds (wipeE ρ t.names) = .ok rs) (hrk : lcK ke = some rk) (hp : H p = none)
    (hq : ∀ B' H' acc g, Turn C rk B H p ds.length H' B' rs acc g → Qd H') :
    ∃ W : Nat → Nat → Hp → Prop, (∃ m, W 0 m (upd H p (.lst []))) ∧ ∀ i m H, W i m H →
      (J.stop i H ∧ Qd H) ∨ (J.go i H ∧ ∃ Nx : Hp → Prop, (∀ H', Nx H' → ∃ m', m' < m ∧ W (i + 1) m' H') ∧ ∀ x H', J.yld i H x H' → rdTg C.K t x (wipe σ t.names) H' fun σ2 H2 => wipe σ2 t.names = wipe σ t.names ∧ tB (rdE C test Wno) σ2 H2 fun b H3 =>
        if b = true then rdE C elt Wno σ2 H3 fun y H4 => ∃ acc, H4 p = some (.lst acc) ∧ acc.length < sizeLine ∧ Nx (upd H4 p (.lst (acc ++ [y]))) else Nx H3) := by
  obtain ⟨k2, kl, kk⟩ := lcK_of hrk
  refine lc_it so.w (fun i H' => ∃ B' done acc g rest, lcGo t.put (evE C.Φ test) (evE C.Φ elt) (ds.drop i) (wipeE ρ t.names) = .ok rest ∧ rs = done ++ rest ∧ Turn C rk B H p i H' B' done acc g) ?_ ?_ ?_ ?_
  · refine ⟨B, [], [], [], rs, hl, rfl, ⟨⟨fun _ _ e => e, fun a o e _ _ => upd_up hp a o e, fun a h => ?_, fun a z => z.elim (fun m => by cases m) fun e => .inr (by rw [e]; exact hp), fun _ h => .inl h⟩, fun a o e => ⟨upd_up hp a o (sta.sub a o e).1, (sta.sub a o e).2⟩, sta.tab.ext (upd_up hp), sta.freeB hp, upd_same, Nat.le_refl _, ?_, nomem⟩⟩
    · by_cases e : a = p
      · rw [e, upd_same]; simp
      · rw [upd_ne e]; exact h
    · rcases kk with ⟨rfl, _⟩ | ⟨rfl, _⟩ <;> exact ⟨rfl, rfl⟩
  · rintro i H' hi ⟨B', done, acc, g, rest, _, _, t'⟩
    exact so.g1 H' fun a o e n => t'.st.up a o e (fun z => z) n
  · rintro i x H1 H1' hi ⟨B1, done, acc, g, rest, hr, ers, t1⟩ y
    obtain ⟨rfl, d, hd, hx⟩ := so.it i _ x _ hi y
    have up1 : Up H H1' := fun a o e n => t1.st.up a o e (fun z => z) n
    have hx1 : hold C.K (hB s B1 H1') d x := by
      refine hold_mono ?_ _ _ hx
      rcases hs with rfl | rfl
      · exact .of fun a o e _ => t1.st.ex a o e
      · exact up1.ext
    have edr : ds.drop i = d :: ds.drop (i + 1) := by
      rw [List.drop_eq_getElem_cons hi]
      rw [List.getElem?_eq_getElem hi] at hd
      rw [Option.some.inj hd]
    rw [edr] at hr
    simp only [lcGo] at hr
    cases ep : t.put d (wipeE ρ t.names) with
    | none => rw [ep] at hr; cases hr
    | some ρ1 =>
    rw [ep] at hr
    simp only at hr
    have sta1 := (sta.wiped t.names s).step t1.st t1.sub t1.tab
    refine tg_ok hs sta1 hx1 (fun j m => by unfold setK; rw [if_pos m]) (fun _ _ => rfl) ep fun σ2 F2 sta2 f2 l2 g2 => ⟨wipe_back l2 g2, ?_⟩
    refine ht false _ (fun z => by cases z) _ Wno B1 H1' σ2 ρ1 F2 kt _ hkt sta2 ?_
    cases et : evE C.Φ test ρ1 with
    | bad => rw [et] at hr; cases hr
    | exc c => rw [et] at hr; cases hr
    | ok q =>
    obtain ⟨b, ρ2⟩ := q
    rw [et] at hr
    intro v3 B3 H3 F3 f3 st3 sta3 has3 pu3
    have t3 := t1.step (st3.pure_ sta3 has3 (pu3 pt)) sta3.sub sta3.tab
    have gb := vrep_hold sta3.sub has3.rep
    cases b with
    | bl b =>
      simp only [hold] at gb
      refine ⟨b, gb, ?_⟩
      cases b with
      | false =>
        rw [if_neg (by simp)]
        simp only at hr
        exact ⟨B3, done, acc, g, rest, hr, ers, t3.more⟩
      | true =>
        rw [if_pos rfl]
        simp only at hr
        refine he false _ (fun z => by cases z) _ Wno B3 H3 σ2 ρ2 F3 ke _ hke sta3 ?_
        cases ee : evE C.Φ elt ρ2 with
        | bad => rw [ee] at hr; cases hr
        | exc c => rw [ee] at hr; cases hr
        | ok q =>
        obtain ⟨w, ρ3⟩ := q
        rw [ee] at hr
        simp only at hr
        cases el : lcGo t.put (evE C.Φ test) (evE C.Φ elt) (ds.drop (i + 1)) (wipeE ρ t.names) with
        | bad => rw [el] at hr; cases hr
        | exc c => rw [el] at hr; cases hr
        | ok r =>
        rw [el] at hr
        simp only [Res.ok.injEq] at hr
        subst hr
        refine Post.le (k' := k2) ?_ kl
        intro v4 B4 H4 F4 f4 st4 sta4 has4 pu4
        have t4 := t3.snoc kk hp (st4.pure_ sta4 has4 (pu4 pe)) sta4.sub sta4.tab has4.rep has4.nB
        have t34 := t3.step (st4.pure_ sta4 has4 (pu4 pe)) sta4.sub sta4.tab
        refine ⟨acc, t34.hp, Nat.lt_of_le_of_lt t3.le (Nat.lt_of_lt_of_le hi (Nat.le_trans hlim (by decide))), B4, done ++ [w], acc ++ [v4], g ++ f4, r, rfl, by rw [ers, List.append_assoc]; rfl, t4⟩
    | _ => exact absurd hr (by simp)
  · rintro H' ⟨B', done, acc, g, rest, hr, ers, t'⟩
    rw [List.drop_length] at hr
    simp only [lcGo, Res.ok.injEq] at hr
    subst hr
    rw [List.append_nil] at ers
    subst ers
    exact hq B' H' acc g t'
/-- what a comprehension gives -/
theorem Turn.rep {rk : Kind} {B0 H0 : Hp} {p : Addr} {n : Nat} {H : Hp} {B : Hp} {ds : List D} {acc : List V} {g : List Addr} (hk : rk = .deep ∨ rk = .top) (t : Turn C rk B0 H0 p n H B ds acc g) : ∃ f, (∀ a, a ∈ f → a ∈ g ∨ a = p) ∧ (∀ a ∈ f, B a = none) ∧ vrep C.K rk B H (.lst ds) (.ref p) f := by
  rcases hk with rfl | rfl
  · refine ⟨p :: g, fun a m => (List.mem_cons.mp m).symm, fun a m => (List.mem_cons.mp m).elim (fun e => by rw [e]; exact t.bp) fun m => (t.g a m).2, p, acc, g, rfl, rfl, t.hp, fun m => (t.g p m).1 rfl, t.acc⟩
  · exact ⟨[p], fun a m => .inr (List.mem_singleton.mp m), fun a m => by rw [List.mem_singleton.mp m]; exact t.bp, .inr ⟨p, rfl, rfl, acc, t.hp, t.acc.1⟩⟩
/-! ### a dict is walked: it is locked -/
theorem Sta.lock {ks : Nat → Kind} {pin : Nat → Option V} {B H : Hp} {σ : L2.St} {ρ : Env} {F : Nat → List Addr} (sta : Sta C ks pin B H σ ρ F) (hnb : ∀ j, (ks j).borrowed = false) {i : Nat} {kd : List (Int × D)} (hk : ks i = .top) (e0 : gt ρ i = some (.dic kd)) :
    ∃ p kvs, σ[i]? = some (some (.ref p)) ∧ H p = some (.dK kvs) ∧ holdK C.K B kd kvs ∧ p ∈ F i ∧ B p = none ∧ ∀ od, Sta C (setK ks [i] .sh) pin (upd B p (.frz od (.dK kvs))) (upd H p (.frz od (.dK kvs))) σ ρ (outF F [i]) := by
  obtain ⟨v, hv, r⟩ := sta.rep i _ e0
  rw [hk] at r
  rcases r with r | ⟨p, rfl, ef, kvs, t1, t2⟩
  · simp [scV] at r
  have mp : p ∈ F i := by rw [ef]; exact List.mem_singleton.mpr rfl
  have bp := sta.nB i p mp
  have eB : ∀ {o : HO} (a : Addr) (u : HO), B a = some u → upd B p o a = some u := fun a u e => by rw [upd_ne (fun z => by rw [z, bp] at e; cases e)]; exact e
  refine ⟨p, kvs, hv, t1, t2, mp, bp, fun od => ⟨sta.len, fun a o e => ?_, tabs_upd sta.tab t1 (.inl (.inr (.inr (.inl ⟨_, rfl⟩)))), fun j d ej => ?_, fun j ej => ?_, fun j k a m m2 => ?_, fun j a m => ?_, sta.pin⟩⟩
  · by_cases n : a = p
    · subst n
      rw [upd_same] at e ⊢
      cases e
      exact ⟨rfl, nt_frz⟩
    · rw [upd_ne n] at e ⊢
      exact sta.sub a o e
  · obtain ⟨w, w1, w2⟩ := sta.rep j d ej
    refine ⟨w, w1, ?_⟩
    by_cases n : j = i
    · subst n
      have : setK ks [j] .sh j = .sh := if_pos (List.mem_singleton.mpr rfl)
      rw [this, outF_in (List.mem_singleton.mpr rfl)]
      rw [e0] at ej
      cases ej
      rw [hv] at w1
      cases w1
      exact ⟨⟨p, kvs, rfl, .inr ⟨od, upd_same⟩, holdK_mono (.of fun a o e _ => eB a o e) _ _ t2⟩, rfl⟩
    · have nm : j ∉ [i] := fun m => n (List.mem_singleton.mp m)
      have : setK ks [i] .sh j = ks j := if_neg nm
      rw [this, outF_out nm]
      have np : ∀ a ∈ F j, a ≠ p := fun a m z => n (sta.dj j i p (z ▸ m) mp)
      have nbj := hnb j
      cases q : ks j <;> rw [q] at w2 nbj <;> simp only [vrep] at w2 ⊢
      · exact w2
      · exact ⟨hold_mono (.of fun a o e _ => eB a o e) _ _ w2.1, w2.2⟩
      · rcases w2 with w2 | ⟨r, r1, r2, r3⟩
        · exact .inl w2
        · exact .inr ⟨r, r1, r2, topAt_keep r3 (.of fun a o e _ => eB a o e) fun u e _ => put_up e (np r (by rw [r2]; exact List.mem_singleton.mpr rfl))⟩
      · exact own_keep d w (F j) w2 fun a m u e _ => put_up e (np a m)
      · cases nbj
      · cases nbj
  · by_cases n : j ∈ [i]
    · exact outF_in n
    · rw [outF_out n]; exact sta.nf j ej
  · by_cases n : j ∈ [i]
    · rw [outF_in n] at m; cases m
    · by_cases n2 : k ∈ [i]
      · rw [outF_in n2] at m2; cases m2
      · rw [outF_out n] at m; rw [outF_out n2] at m2; exact sta.dj j k a m m2
  · by_cases n : j ∈ [i]
    · rw [outF_in n] at m; cases m
    · rw [outF_out n] at m
      rw [upd_ne (fun z => n (List.mem_singleton.mpr (sta.dj j i a m (by rw [z]; exact mp))))]
      exact sta.nB j a m
theorem unlock_ext {B : Hp} {p : Addr} {od : Obj} {kvs : List (Key × V)} (h : B p = some (.frz od (.dK kvs))) : Ext B (upd B p (.dK kvs)) := fun a o e n => by
  by_cases z : a = p
  · subst z
    rw [h] at e
    cases e
    exact .inr ⟨od, kvs, rfl, upd_same⟩
  · exact .inl (put_up e z)
theorem Sta.unlock {ks : Nat → Kind} {pin : Nat → Option V} {B H : Hp} {σ : L2.St} {ρ : Env} {F : Nat → List Addr} {i : Nat} {p : Addr} {od : Obj} {kvs : List (Key × V)} (sta : Sta C (setK ks [i] .sh) pin B H σ ρ F) (hnb : ∀ j, (ks j).borrowed = false)
    (hb : B p = some (.frz od (.dK kvs))) : Sta C ks pin (upd B p (.dK kvs)) (upd H p (.dK kvs)) σ (st ρ i none) (outF F [i]) := by
  have hh := (sta.sub _ _ hb).1
  have np : ∀ j a, a ∈ F j → a ≠ p := fun j a m z => by
    have := sta.nB j a m
    rw [z, hb] at this; cases this
  refine ⟨by rw [st_length]; exact sta.len, fun a o e => ?_, tabs_upd sta.tab hh (.inr ⟨_, _, rfl⟩), fun j d ej => ?_, fun j ej => ?_, fun j k a m m2 => ?_, fun j a m => ?_, sta.pin⟩
  · by_cases n : a = p
    · subst n
      rw [upd_same] at e ⊢
      cases e
      exact ⟨rfl, nt_dK⟩
    · rw [upd_ne n] at e ⊢
      exact sta.sub a o e
  · rw [gt_st] at ej
    split at ej
    · cases ej
    · rename_i n
      have nj : j ∉ [i] := fun m => n ⟨List.mem_singleton.mp m, by rw [← List.mem_singleton.mp m]; exact gt_lt ej⟩
      obtain ⟨w, w1, w2⟩ := sta.rep j d ej
      have : setK ks [i] .sh j = ks j := if_neg nj
      rw [this] at w2
      refine ⟨w, w1, ?_⟩
      rw [outF_out nj]
      have nbj := hnb j
      cases q : ks j <;> rw [q] at w2 nbj <;> simp only [vrep] at w2 ⊢
      · exact w2
      · exact ⟨hold_mono (unlock_ext hb) _ _ w2.1, w2.2⟩
      · rcases w2 with w2 | ⟨r, r1, r2, r3⟩
        · exact .inl w2
        · exact .inr ⟨r, r1, r2, topAt_keep r3 (unlock_ext hb) fun u e _ => put_up e (np j r (by rw [r2]; exact List.mem_singleton.mpr rfl))⟩
      · exact own_keep d w (F j) w2 fun a m u e _ => put_up e (np j a m)
      · cases nbj
      · cases nbj
  · by_cases n : j ∈ [i]
    · exact outF_in n
    · rw [outF_out n]
      rw [gt_st, if_neg (fun z => n (List.mem_singleton.mpr z.1))] at ej
      exact sta.nf j ej
  · by_cases n : j ∈ [i]
    · rw [outF_in n] at m; cases m
    · by_cases n2 : k ∈ [i]
      · rw [outF_in n2] at m2; cases m2
      · rw [outF_out n] at m; rw [outF_out n2] at m2; exact sta.dj j k a m m2
  · by_cases n : j ∈ [i]
    · rw [outF_in n] at m; cases m
    · rw [outF_out n] at m
      rw [upd_ne (np j a m)]; exact sta.nB j a m
theorem keys_get : ∀ {kd : List (Int × D)} {kvs : List (Key × V)} {B : Hp} {i : Nat} {kk : Key} {v : V}, holdK C.K B kd kvs → kvs[i]? = some (kk, v) → ∃ n, (kd.map fun k => D.int k.1)[i]? = some (.int n) ∧ kV kk = .int n
  | [], _, _, _, _, _, h, e => by simp only [holdK] at h; subst h; simp at e
  | (n, d) :: r, _, _, 0, _, _, h, e => by
    simp only [holdK] at h
    obtain ⟨x, r', rfl, h1, h2⟩ := h
    simp at e
    exact ⟨n, rfl, by rw [← e.1]; rfl⟩
  | (n, d) :: r, _, _, i + 1, _, _, h, e => by
    simp only [holdK] at h
    obtain ⟨x, r', rfl, h1, h2⟩ := h
    exact keys_get (i := i) h2 (by simpa using e)
theorem keys_ok {B H : Hp} {p : Addr} {od : Obj} {kd : List (Int × D)} {kvs : List (Key × V)} (hh : H p = some (.frz od (.dK kvs))) (hb : B p = some (.frz od (.dK kvs))) (h : holdK C.K B kd kvs) {ba : Bool} :
    SrcOk C .sh B H (kd.map fun k => .int k.1) (Itk p od kvs) (fun Hx => Hx p = some (.frz od (.dK kvs))) (fun i H x H' => H' = H ∧ ∃ k v, kvs[i]? = some (k, v) ∧ x = kV k) ba where
  w := by
    rw [List.length_map, holdK_length h]
    exact walk_keys
  g1 := fun Hx e => e _ _ hh nt_frz
  g2 := fun _ Hx e => (e _ _ hb).1
  it := fun i Hx x H' _ y => by
    obtain ⟨e, kk, v, e1, e2⟩ := y
    obtain ⟨n, z1, z2⟩ := keys_get h e1
    exact ⟨e, _, z1, by rw [e2, z2]; rfl⟩
/-- from behind the lock -/
theorem Step.unlock {B H B1 H1 : Hp} {F F1 : Nat → List Addr} {i : Nat} {p : Addr} {od : Obj} {kvs : List (Key × V)} {f : List Addr} (mp : p ∈ F i) (bp : B p = none) (hp : H p = some (.dK kvs))
    (st : Step (upd B p (.frz od (.dK kvs))) (upd H p (.frz od (.dK kvs))) (FP (outF F [i])) B1 H1 (fun a => FP F1 a ∨ a ∈ f)) : Step B H (FP F) (upd B1 p (.dK kvs)) (upd H1 p (.dK kvs)) (fun a => FP (outF F1 [i]) a ∨ a ∈ f) where
  ex := fun a o e => by
    have n : a ≠ p := fun z => by rw [z, bp] at e; cases e
    exact put_up (st.ex a o (put_up e n)) n
  up := fun a o e n z => by
    have n' : a ≠ p := fun z => n ⟨i, z ▸ mp⟩
    exact put_up (st.up a o (put_up e n') (fun q => n (outF_fp q)) z) n'
  th := fun a h => by
    by_cases n : a = p
    · rw [n, upd_same]; simp
    · rw [upd_ne n]; exact st.th a (by rw [upd_ne n]; exact h)
  new := fun a z => by
    have z' : FP F1 a ∨ a ∈ f := z.imp outF_fp fun m => m
    rcases st.new a z' with q | q
    · exact .inl (outF_fp q)
    · by_cases n : a = p
      · rw [n, upd_same] at q; cases q
      · rw [upd_ne n] at q; exact .inr q
  newB := fun a h => by
    by_cases n : a = p
    · exact .inr (.inl ⟨i, n ▸ mp⟩)
    · rw [upd_ne n] at h
      rcases st.newB a h with q | q | q
      · rw [upd_ne n] at q; exact .inl q
      · exact .inr (.inl (outF_fp q))
      · rw [upd_ne n] at q; exact .inr (.inr q)
end
end TW

namespace TW
open PySem L2
section
variable {C : Ctx} {sg : Nat → Sig}
theorem lcK_top {ke rk : Kind} (h : lcK ke = some rk) : rk = .deep ∨ rk = .top := by
  obtain ⟨_, _, h | h⟩ := lcK_of h
  · exact .inl h.1
  · exact .inr h.1
theorem src_two {k : Sk} {ka : Kind} : k.src ka = .sh ∨ k.src ka = .bo := by
  cases k <;> cases ka <;> simp [Sk.src, Kind.kid]
theorem snd_lc {k : Sk} {a b c test elt : IE} {t : Tg} (ha : SndE C sg a) (hb : SndE C sg b) (hc : SndE C sg c) (ht : SndE C sg test) (he : SndE C sg elt) : SndE C sg (.lc k a b c t test elt) := by
  intro nb ks hnb pin W B H σ ρ F k' Q hk sta h
  simp only [kE] at hk
  split at hk <;> try (simp only [reduceCtorEq] at hk)
  rename_i ka kb kc e1 e2 e3
  split at hk <;> try (simp only [reduceCtorEq] at hk)
  rename_i cond
  simp only [Bool.and_eq_true] at cond
  obtain ⟨⟨⟨⟨⟨⟨c1, c2⟩, c3⟩, c4⟩, c5⟩, c6⟩, c7⟩ := cond
  split at hk <;> try (simp only [reduceCtorEq] at hk)
  rename_i kt ke e4 e5
  simp only [evE] at h
  by_cases np : k.pure = true
  · have el : ∀ u : TE, lockIf k u = u := fun u => by cases k <;> simp_all [lockIf, Sk.pure]
    have ek : k.ks ks = ks := by cases k <;> simp_all [Sk.ks, Sk.pure]
    have eo : ∀ ρ, k.out ρ = ρ := fun ρ => by cases k <;> simp_all [Sk.out, Sk.pure]
    rw [ek] at e4 e5
    simp only [rdE]
    rw [el]
    refine snd_src (W := W) ha hb hc hnb e1 e2 e3 c1 np sta ?_
    cases er : srcRes k (evE C.Φ a ρ) (evE C.Φ b) (evE C.Φ c) with
    | bad => rw [er] at h; exact h
    | exc c => rw [er] at h; exact h
    | ok q =>
    obtain ⟨ds, ρ3⟩ := q
    rw [er] at h
    simp only at h
    split at h
    · rename_i hlim
      cases eg : lcGo t.put (evE C.Φ test) (evE C.Φ elt) ds (wipeE ρ3 t.names) with
      | bad => rw [eg] at h; exact h.elim
      | exc c => rw [eg] at h; exact h.elim
      | ok rs =>
      rw [eg, eo] at h
      intro J G Y B3 H3 F3 st3 sta3 pu3 so p hp
      refine lc_loop ht he src_two e4 e5 c6 c7 sta3 so hlim eg hk hp fun B' H' acc g tn => ?_
      obtain ⟨f, f1, f2, f3⟩ := tn.rep (lcK_top hk)
      have fn : ∀ a ∈ f, H3 a = none := fun a m => (tn.st.new a (f1 a m)).elim (fun z => z.elim) fun z => z
      have stT : Step B3 H3 (FP F3) B' H' (fun a => FP F3 a ∨ a ∈ f) := ⟨tn.st.ex, fun a o e _ z => tn.st.up a o e (fun q => q) z, tn.st.th, fun a z => z.imp (fun q => q) fun m => fn a m, fun a z => (tn.st.newB a z).imp (fun q => q) fun q => .inr (q.elim (fun z => z.elim) fun z => z)⟩
      refine h (.ref p) B' H' F3 f (Step.row (f := []) (st3.less fun a z => z.elim (fun q => q) fun m => by cases m) stT) (sta3.step tn.st tn.sub tn.tab) ⟨f3, fun a m z => ?_, f2⟩ fun pu => ?_
      · obtain ⟨o, e, _⟩ := sta3.atF z
        rw [fn a m] at e; cases e
      · simp only [pureE, Bool.and_eq_true] at pu
        obtain ⟨⟨⟨⟨⟨_, p1⟩, p2⟩, p3⟩, _⟩, _⟩ := pu
        obtain ⟨u1, u2⟩ := pu3 (by rw [p1, p2, p3]; rfl)
        exact ⟨u1.trans fun a o e n => tn.st.up a o e (fun z => z) n, u2⟩
    · exact h.elim
  · cases k with
    | dic i =>
      have nbt : nb = true := by cases nb <;> simp_all [Sk.pure]
      have hnb := hnb nbt
      simp only [Sk.dum, Bool.and_eq_true] at c1
      obtain ⟨⟨k1, k2⟩, k3⟩ := c1
      obtain ⟨da, rfl⟩ := isC_of k1
      obtain ⟨db, rfl⟩ := isC_of k2
      obtain ⟨dc, rfl⟩ := isC_of k3
      simp only [Sk.okD, Bool.and_eq_true, beq_iff_eq, Bool.not_eq_true'] at c2
      obtain ⟨d1, d2⟩ := c2
      simp only [evE, srcRes, srcOf, Sk.out] at h
      split at h
      · rename_i hsr
        split at hsr <;> simp only [reduceCtorEq, Res.ok.injEq, Prod.mk.injEq] at hsr
        rename_i hs2
        split at hs2 <;> simp only [reduceCtorEq, Option.some.injEq] at hs2
        rename_i kd e0
        obtain ⟨z1, z2⟩ := hsr
        subst z2
        subst hs2
        subst z1
        split at h
        · rename_i hlim
          split at h
          · rename_i rs eg
            obtain ⟨p0, kvs, w1, w2, w3, w4, w5, w6⟩ := sta.lock hnb d1 e0
            refine ⟨p0, .dK kvs, w2, by trivial, fun od => ?_⟩
            have staL := w6 od
            refine ⟨.ref p0, w1, p0, od, rfl, .inl ⟨kvs, upd_same, fun p hp => ?_⟩⟩
            have hB : holdK C.K (upd B p0 (.frz od (.dK kvs))) kd kvs := holdK_mono (.of fun a o e _ => put_up e fun z => by rw [z, w5] at e; cases e) _ _ w3
            refine lc_loop ht he (.inl rfl) e4 e5 c6 c7 staL (keys_ok (ba := true) upd_same upd_same hB) hlim eg hk hp fun B' H' acc g tn => ?_
            have hf : H' p0 = some (.frz od (.dK kvs)) := tn.st.up _ _ upd_same (fun z => z) nt_frz
            have hb' : B' p0 = some (.frz od (.dK kvs)) := tn.st.ex _ _ upd_same
            refine ⟨hf, ?_⟩
            obtain ⟨f, f1, f2, f3⟩ := tn.rep (lcK_top hk)
            have fn : ∀ a ∈ f, upd H p0 (.frz od (.dK kvs)) a = none := fun a m => (tn.st.new a (f1 a m)).elim (fun z => z.elim) fun z => z
            have fp0 : ∀ a ∈ f, a ≠ p0 := fun a m z => by
              have := fn a m
              rw [z, upd_same] at this; cases this
            have stT : Step (upd B p0 (.frz od (.dK kvs))) (upd H p0 (.frz od (.dK kvs))) (FP (outF F [i])) B' H' (fun a => FP (outF F [i]) a ∨ a ∈ f) := ⟨tn.st.ex, fun a o e _ z => tn.st.up a o e (fun q => q) z, tn.st.th, fun a z => z.imp (fun q => q) fun m => fn a m, fun a z => (tn.st.newB a z).imp (fun q => q) fun q => .inr (q.elim (fun z => z.elim) fun z => z)⟩
            have staT := (staL.step tn.st tn.sub tn.tab).unlock hnb hb'
            have eoo : outF (outF F [i]) [i] = outF F [i] := funext fun j => by
              by_cases m : j ∈ [i]
              · rw [outF_in m, outF_in m]
              · rw [outF_out m]
            rw [eoo] at staT
            have stU := Step.unlock (i := i) w4 w5 w2 stT
            rw [eoo] at stU
            refine h (.ref p) _ _ (outF F [i]) f stU staT ⟨?_, fun a m z => ?_, fun a m => by rw [upd_ne (fp0 a m)]; exact f2 a m⟩ fun pu => by simp [pureE, Sk.pure] at pu
            · rcases lcK_top hk with rfl | rfl
              · exact own_keep _ _ _ f3 fun a m o e _ => put_up e (fp0 a m)
              · rcases f3 with f3 | ⟨q, r1, r2, r3⟩
                · simp [scV] at f3
                · exact .inr ⟨q, r1, r2, topAt_keep r3 (unlock_ext hb') fun o e _ => put_up e (fp0 q (by rw [r2]; exact List.mem_singleton.mpr rfl))⟩
            · obtain ⟨o, e, _⟩ := staL.atF z
              rw [fn a m] at e; cases e
          · exact h.elim
        · exact h.elim
      · rename_i hsr
        split at hsr <;> simp only [reduceCtorEq] at hsr
      · exact h.elim
    | _ => simp [Sk.pure] at np
end
end TW

namespace TW
open PySem L2
section
variable {C : Ctx} {sg : Nat → Sig}
/-- a thing that no name and nothing known tells of is written -/
theorem Sta.off {ks : Nat → Kind} {pin : Nat → Option V} {B H : Hp} {σ : L2.St} {ρ : Env} {F : Nat → List Addr} {p : Addr} {o ob : HO} (sta : Sta C ks pin B H σ ρ F) (hnb : ∀ j, (ks j).borrowed = false) (nf : ¬ FP F p) (bp : B p = none) (h1 : H p = some ob) (h2 : Lay ob) : Sta C ks pin B (upd H p o) σ ρ F where
  len := sta.len
  sub := fun a u e => by
    obtain ⟨h1, h2⟩ := sta.sub a u e
    exact ⟨put_up h1 (fun z => by rw [z, bp] at e; cases e), h2⟩
  tab := tabs_upd sta.tab h1 (.inl h2)
  rep := fun j d e => by
    obtain ⟨w, w1, w2⟩ := sta.rep j d e
    refine ⟨w, w1, ?_⟩
    have np : ∀ a ∈ F j, a ≠ p := fun a m z => nf ⟨j, z ▸ m⟩
    have nbj := hnb j
    cases q : ks j <;> rw [q] at w2 nbj <;> simp only [vrep] at w2 ⊢
    · exact w2
    · exact w2
    · rcases w2 with w2 | ⟨r, r1, r2, r3⟩
      · exact .inl w2
      · exact .inr ⟨r, r1, r2, topAt_keep r3 (.of fun _ _ e _ => e) fun u e _ => put_up e (np r (by rw [r2]; exact List.mem_singleton.mpr rfl))⟩
    · exact own_keep d w (F j) w2 fun a m u e _ => put_up e (np a m)
    · cases nbj
    · cases nbj
  nf := sta.nf
  dj := sta.dj
  nB := sta.nB
  pin := sta.pin
theorem snd_dic1 {a b : IE} (ha : SndE C sg a) (hb : SndE C sg b) : SndE C sg (.dic1 a b) := by
  intro nb ks hnb pin W B H σ ρ F k' Q hk sta h
  simp only [kE] at hk
  split at hk <;> try (simp only [reduceCtorEq] at hk)
  rename_i k hk1 hk2
  split at hk <;> simp only [reduceCtorEq, Option.some.injEq] at hk
  rename_i hp
  subst hk
  rw [Bool.and_eq_true] at hp
  have hnb' := hnb hp.1
  intro p hp0
  have sta0 := sta.new_ (o := .dK []) hp0
  have nF : ¬ FP F p := sta.freeF hp0
  refine ha nb ks hnb pin W B _ σ ρ F _ _ hk1 sta0 ?_
  simp only [evE] at h
  cases ev : evE C.Φ a ρ with
  | bad => rw [ev] at h; exact h
  | exc c =>
    rw [ev] at h
    exact fun H' x t => h H' ⟨fun a o e n z => x.1 a o (upd_up hp0 a o e) n z, fun a e => x.2 a (by
      by_cases n : a = p
      · rw [n, upd_same]; simp
      · rw [upd_ne n]; exact e)⟩ t
  | ok q =>
    obtain ⟨d, ρ1⟩ := q
    rw [ev] at h
    intro v B1 H1 F1 f1 st1 sta1 has1 pu1
    have g := vrep_hold sta1.sub has1.rep
    cases d with
    | int i =>
      simp only at h
      simp only [hold] at g
      subst g
      have ef1 : f1 = [] := has1.rep.2
      subst ef1
      refine hb nb ks hnb pin W B1 H1 σ ρ1 F1 _ _ hk2 sta1 ?_
      cases ev2 : evE C.Φ b ρ1 with
      | bad => rw [ev2] at h; exact h
      | exc c =>
        rw [ev2] at h
        refine fun H' x t => h H' ?_ t
        have x1 := x.of st1
        exact ⟨fun a o e n z => x1.1 a o (upd_up hp0 a o e) n z, fun a e => x1.2 a (by
          by_cases n : a = p
          · rw [n, upd_same]; simp
          · rw [upd_ne n]; exact e)⟩
      | ok q =>
      obtain ⟨d2, ρ2⟩ := q
      rw [ev2] at h
      simp only at h
      have h : Post C ks pin σ B H F ρ2 .top (.dic [(i, d2)]) (pureE sg (.dic1 a b)) Q := h
      intro v2 B2 H2 F2 f2 st2 sta2 has2 pu2
      have st := st1.row st2
      rw [List.nil_append] at st
      have p2 : H2 p = some (.dK []) := st.up p _ upd_same nF nt_dK
      have pF : ¬ FP F2 p := fun z => (st.new p (.inl z)).elim nF fun q => by rw [upd_same] at q; cases q
      have pf : p ∉ f2 := fun z => (st.new p (.inr z)).elim nF fun q => by rw [upd_same] at q; cases q
      have pB : B2 p = none := by
        cases e : B2 p with
        | none => rfl
        | some o =>
          rcases st.newB p (by rw [e]; simp) with q | q | q
          · exact absurd (sta.freeB hp0) q
          · exact absurd q nF
          · rw [upd_same] at q; cases q
      refine ⟨p2, [(.inl i, v2)], rfl, by simp, ?_⟩
      have stJ := st.join (g := f2) has2.nB fun _ m => m
      have staJ := sta2.absorb has2.at has2.dj has2.nB
      have pJ : join B2 H2 f2 p = none := by rw [join_out pf]; exact pB
      have staF := staJ.off (o := .dK (mergeK [] [(.inl i, v2)])) hnb' pF pJ p2 (.inr (.inr (.inl ⟨_, rfl⟩)))
      refine h (.ref p) _ _ F2 [p] ⟨stJ.ex, fun a o e n z => put_up (stJ.up a o (upd_up hp0 a o e) n z) (fun q => by rw [q, hp0] at e; cases e), fun a e => ?_, fun a z => ?_, fun a z => ?_⟩ staF ⟨.inr ⟨p, rfl, rfl, _, upd_same, v2, [], rfl, has2.open_ hp.2, rfl⟩, fun a m => ?_, fun a m => ?_⟩ fun pu => ?_
      · by_cases n : a = p
        · rw [n, upd_same]; simp
        · rw [upd_ne n]; exact stJ.th a (by rw [upd_ne n]; exact e)
      · rcases z with z | m
        · rcases stJ.new a z with q | q
          · exact .inl q
          · by_cases n : a = p
            · rw [n, upd_same] at q; cases q
            · rw [upd_ne n] at q; exact .inr q
        · rw [List.mem_singleton.mp m]; exact .inr hp0
      · rcases stJ.newB a z with q | q | q
        · exact .inl q
        · exact .inr (.inl q)
        · by_cases n : a = p
          · rw [n, upd_same] at q; cases q
          · rw [upd_ne n] at q; exact .inr (.inr q)
      · rw [List.mem_singleton.mp m]; exact pF
      · rw [List.mem_singleton.mp m]; exact pJ
      · simp only [pureE, Bool.and_eq_true] at pu
        obtain ⟨u1, e1⟩ := pu1 pu.1
        obtain ⟨u2, e2⟩ := pu2 pu.2
        exact ⟨fun a o e n => put_up (u2 a o (u1 a o (upd_up hp0 a o e) n) n) (fun q => by rw [q, hp0] at e; cases e), e2.trans e1⟩
    | _ => exact h.elim
mutual
/-- every reckoning stands for its reading -/
theorem sndE (so : SigOk C sg) : ∀ e : IE, SndE C sg e
  | .var i => snd_var i
  | .mv i => snd_mv i
  | .cst d => snd_cst d
  | .op1 o a => snd_op1 (sndE so a)
  | .op2 o a b => snd_op2 (sndE so a) (sndE so b)
  | .mth o a b => snd_mth (sndE so a) (sndE so b)
  | .slc a b c => snd_slc (sndE so a) (sndE so b) (sndE so c)
  | .not a => snd_not (sndE so a)
  | .and a b => snd_and (sndE so a) (sndE so b)
  | .or a b => snd_or (sndE so a) (sndE so b)
  | .lst es => snd_lst (sndEs so es)
  | .tup es => snd_tup (sndEs so es)
  | .dic1 a b => snd_dic1 (sndE so a) (sndE so b)
  | .dic0 => snd_dic0
  | .dct0 => snd_dct0
  | .call f es => snd_call so (sndEs so es)
  | .callM f i es => snd_callM so (sndEs so es)
  | .lc k a b c t test elt => snd_lc (sndE so a) (sndE so b) (sndE so c) (sndE so test) (sndE so elt)
  | .pop i => snd_pop i
  | .popAt i e => snd_popAt (sndE so e)
  | .key _ _ _ _ => by
    intro nb ks hnb pin W B H σ ρ F k Q hk
    simp only [kE, reduceCtorEq] at hk
  | .keyP _ _ _ _ => by
    intro nb ks hnb pin W B H σ ρ F k Q hk
    simp only [kE, reduceCtorEq] at hk
theorem sndEs (so : SigOk C sg) : ∀ es : IEs, SndEs C sg es
  | .nil => snd_nil
  | .cons e es => snd_cons (sndE so e) (sndEs so es)
end
end
end TW

/-! ## statements -/
namespace TW
open PySem L2
def ipO : Op2 → TIp
  | .addI => ipI fun i j => i + j
  | .subI => ipI fun i j => i - j
  | _ => fun _ _ _ _ => False
def rInsert : V → List V → Hp → VK → Prop := fun x vs H Q => ∃ (l : Addr) (xs : List V) (i : Int) (y : V), x = .ref l ∧ vs = [.int i, y] ∧ H l = some (.lst xs) ∧ xs.length < sizeLine ∧ 0 ≤ i ∧ i < 2 ^ 63 ∧
  Q .non (upd H l (.lst (xs.take i.toNat ++ y :: xs.drop i.toNat)))
def lockIfS (k : Sk) (t : TS) : TS := match k with
  | .dic _ => tLock t
  | _ => t
mutual
def rdS (C : Ctx) : IS → WX → TS
  | .asg t e, W => tAsg (rdE C e W) (rdTg C.K t)
  | .aug i o e, W => tAug i (rdE C e W) (ipO o)
  | .exp e, W => tDrop (rdE C e W)
  | .app i e, W => tDrop (tBM C.K "list" rAppend (tVar i) (tCons (rdE C e W) tNil))
  | .ins i a e, W => tDrop (tBM C.K "list" rInsert (tVar i) (tCons (rdE C a W) (tCons (rdE C e W) tNil)))
  | .clr i, _ => tDrop (tBM0 C.K "list" rClear (tVar i))
  | .seti i a e, W => tAsg (rdE C e W) (gSub (tVar i) (rdE C a W) rSetL)
  | .set2 i a b e, W => tAsg (rdE C e W) (gSub (rdE C (.op2 .subL (.var i) a) W) (rdE C b W) rSetL)
  | .augi i a o e, W => tAugS (tVar i) (rdE C a W) (rdE C e W) (rIxL C.K) (ipO o) rSetL
  | .aug2 _ _ _ _ _, _ => fun _ _ _ => False
  | .setk i a e, W => sDPut (tVar i) (rdE C a W) (rdE C e W)
  | .setp i a e, W => sDPut (tVar i) (rdE C a W) (rdE C e W)
  | .ifs c a b, W => tIfS (tB (rdE C c W)) (rdSs C a W) (rdSs C b W)
  | .whl c b, W => tWhile (tB (rdE C c W)) (rdSs C b W)
  | .for k a b c t body, W => lockIfS k (tFor (iSrc C.K k (rdE C a W) (rdE C b W) (rdE C c W)) (rdTg C.K t) (rdSs C body W))
  | .ret e, W => tRet (rdE C e W)
  | .retN, _ => tRetN
  | .rai c, W => fun _ σ H => W (.ref (C.cls c)) none σ H
  | .frz _, _ => fun _ _ _ => False
  | .forC a t c d, W => tFor (iSrc C.K .lst (rdE C a W) (rdE C (.cst .non) W) (rdE C (.cst .non) W)) (rdTg C.K t) (tSeq (tIfS (tB (rdE C c W)) (tSeq (tRet (rdE C (.cst d) W)) tNext) tNext) tNext)
def rdSs (C : Ctx) : ISs → WX → TS
  | .nil, _ => tNext
  | .cons s r, W => tSeq (rdS C s W) (rdSs C r W)
end
def FinO (C : Ctx) (ks : Nat → Kind) (pin : Nat → Option V) (B H : Hp) (F : Nat → List Addr) (W : WX) (rk : Kind) (o : Out) (E : Ends) : Prop := match o with
  | .nx ρ' => ∀ σ' B' H' F', Step B H (FP F) B' H' (FP F') → Sta C ks pin B' H' σ' ρ' F' → E.nx σ' H'
  | .rt d ρ' => ∀ v σ' B' H' F' f, Step B H (FP F) B' H' (fun a => FP F' a ∨ a ∈ f) → Sta C ks pin B' H' σ' ρ' F' → Has C B' H' F' rk d v f → E.rt v H'
  | .exc c => ∀ σ' H', Xup F H H' → NdefX.TabsN C.T H' → W (.ref (C.cls c)) none σ' H'
  | .bad => False
def SndS (C : Ctx) (sg : Nat → Sig) (s : IS) : Prop := ∀ (ks : Nat → Kind) (_ : ∀ j, (ks j).borrowed = false) (pin : Nat → Option V) (pn : Nat → Bool) (_ : ∀ j, pn j = false → pin j = none) (rk : Kind) (W : WX) (B H : Hp) (σ : L2.St) (ρ : Env) (F : Nat → List Addr) (E : Ends),
  kS sg ks pn rk s = true → Sta C ks pin B H σ ρ F → FinO C ks pin B H F W rk (evS C.Φ s ρ) E → rdS C s W E σ H
def SndSs (C : Ctx) (sg : Nat → Sig) (s : ISs) : Prop := ∀ (ks : Nat → Kind) (_ : ∀ j, (ks j).borrowed = false) (pin : Nat → Option V) (pn : Nat → Bool) (_ : ∀ j, pn j = false → pin j = none) (rk : Kind) (W : WX) (B H : Hp) (σ : L2.St) (ρ : Env) (F : Nat → List Addr) (E : Ends),
  kSs sg ks pn rk s = true → Sta C ks pin B H σ ρ F → FinO C ks pin B H F W rk (evSs C.Φ s ρ) E → rdSs C s W E σ H
section
variable {C : Ctx} {sg : Nat → Sig}
theorem FinO.shift {ks : Nat → Kind} {pin : Nat → Option V} {B H B1 H1 : Hp} {F F1 : Nat → List Addr} {W : WX} {rk : Kind} {o : Out} {E : Ends} (h : FinO C ks pin B H F W rk o E) (st : Step B H (FP F) B1 H1 (FP F1)) : FinO C ks pin B1 H1 F1 W rk o E := by
  have st' : Step B H (FP F) B1 H1 (fun a => FP F1 a ∨ a ∈ []) := st.less fun a z => z.elim (fun q => q) fun m => by cases m
  cases o with
  | bad => exact h
  | exc c => exact fun σ' H' x t => h σ' H' (x.of st') t
  | nx ρ' => exact fun σ' B' H' F' s sta => h σ' B' H' F' (st.trans s) sta
  | rt d ρ' => exact fun v σ' B' H' F' f s sta has => h v σ' B' H' F' f (Step.row st' s) sta has
/-- a statement that first reckons e -/
theorem stm_e (so : SigOk C sg) {e : IE} {ks : Nat → Kind} (hnb : ∀ j, (ks j).borrowed = false) {pin : Nat → Option V} {B H : Hp} {F : Nat → List Addr} {W : WX} {k rk : Kind} {σ : L2.St} {ρ : Env} {E : Ends} {Q : VK} {g : D → Env → Out}
    (hk : kE sg true ks e = some k) (sta : Sta C ks pin B H σ ρ F)
    (h : FinO C ks pin B H F W rk (match evE C.Φ e ρ with | .ok (d, ρ1) => g d ρ1 | .exc c => .exc c | .bad => .bad) E)
    (q : ∀ d ρ1 v B1 H1 F1 f, evE C.Φ e ρ = .ok (d, ρ1) → Step B H (FP F) B1 H1 (fun a => FP F1 a ∨ a ∈ f) → Sta C ks pin B1 H1 σ ρ1 F1 → Has C B1 H1 F1 k d v f → (pureE sg e = true → Up H H1 ∧ F1 = F) → FinO C ks pin B H F W rk (g d ρ1) E → Q v H1) : rdE C e W σ H Q := by
  refine sndE so e true ks (fun _ => hnb) pin W B H σ ρ F k Q hk sta ?_
  cases ev : evE C.Φ e ρ with
  | bad => rw [ev] at h; exact h
  | exc c => rw [ev] at h; exact fun H' x t => h σ H' x t
  | ok p =>
    obtain ⟨d, ρ1⟩ := p
    rw [ev] at h
    exact fun v B1 H1 F1 f st1 sta1 has1 pu1 => q d ρ1 v B1 H1 F1 f ev st1 sta1 has1 pu1 h
/-- one may ask less -/
theorem Has.le {ks : Nat → Kind} {pin : Nat → Option V} {B H : Hp} {σ : L2.St} {ρ : Env} {F : Nat → List Addr} {k k' : Kind} {d : D} {v : V} {f : List Addr} (sta : Sta C ks pin B H σ ρ F) (has : Has C B H F k d v f) (l : k.le k' = true) :
    ∃ h g, (∀ a ∈ h, a ∈ f) ∧ (∀ a ∈ g, a ∈ f) ∧ Sta C ks pin (join B H h) H σ ρ F ∧ Has C (join B H h) H F k' d v g := by
  have j0 : join B H [] = B := funext fun a => join_out (by simp)
  have r := has.rep
  by_cases e : k = k'
  · subst e; exact ⟨[], f, nomem, fun _ m => m, by rw [j0]; exact sta, by rw [j0]; exact has⟩
  cases k <;> cases k' <;> simp only [Kind.le, Bool.false_eq_true] at l <;> try (exact absurd rfl e)
  case im.sh =>
    simp only [vrep] at r
    exact ⟨[], [], nomem, nomem, by rw [j0]; exact sta, by rw [j0]; exact ⟨⟨hold_sc r.1, rfl⟩, nomem, nomem⟩⟩
  case im.deep =>
    simp only [vrep] at r
    exact ⟨[], [], nomem, nomem, by rw [j0]; exact sta, by rw [j0]; exact ⟨own_sc r.1, nomem, nomem⟩⟩
  case im.top =>
    simp only [vrep] at r
    exact ⟨[], [], nomem, nomem, by rw [j0]; exact sta, by rw [j0]; exact ⟨.inl ⟨r.1, rfl⟩, nomem, nomem⟩⟩
  case top.sh => exact ⟨f, [], fun _ m => m, nomem, sta.absorb has.at has.dj has.nB, ⟨has.open_ rfl, rfl⟩, nomem, nomem⟩
  case deep.sh => exact ⟨f, [], fun _ m => m, nomem, sta.absorb has.at has.dj has.nB, ⟨has.open_ rfl, rfl⟩, nomem, nomem⟩
  case deep.top =>
    obtain ⟨g, p, hg, q⟩ := vrep_deep_top (C := C) (B := B) (show own H d v f from r) sta.sub
    have sta2 := sta.absorb (f := g) (fun a m => has.at a (hg a m)) (fun a m => has.dj a (hg a m)) fun a m => has.nB a (hg a m)
    rcases q with ⟨e1, e2, e3⟩ | ⟨e1, e2, e3, e4⟩
    · exact ⟨g, [], hg, nomem, sta2, ⟨.inl ⟨e3, rfl⟩, nomem, nomem⟩⟩
    · have mp : p ∈ f := by rw [e1]; exact List.mem_cons_self
      refine ⟨g, [p], hg, fun a m => by rw [List.mem_singleton.mp m]; exact mp, sta2, ⟨.inr ⟨p, e3, rfl, e4⟩, fun a m => ?_, fun a m => ?_⟩⟩
      · rw [List.mem_singleton.mp m]; exact has.dj p mp
      · rw [List.mem_singleton.mp m, join_out e2]; exact has.nB p mp
/-- a name is given something -/
theorem Sta.give {ks : Nat → Kind} {pin : Nat → Option V} {B H : Hp} {σ : L2.St} {ρ : Env} {F : Nat → List Addr} {k : Kind} {d : D} {v : V} {f : List Addr} (sta : Sta C ks pin B H σ ρ F) (has : Has C B H F k d v f) {i : Nat} (l : k.le (ks i) = true) (hp : pin i = none) :
    ∃ h F', (∀ a ∈ h, a ∈ f) ∧ Sta C ks pin (join B H h) H (σ.set i (some v)) (st ρ i (some d)) F' ∧ ∀ a, FP F' a → FP F a ∨ a ∈ f := by
  obtain ⟨h, g, h1, h2, h3, h4⟩ := has.le sta l
  obtain ⟨F', s1, s2⟩ := h3.bind h4.rep h4.dj h4.nB hp
  exact ⟨h, F', h1, s1, fun a z => (s2 a z).imp (fun q => q) (h2 a)⟩
/-- what was told of is let go, or known -/
theorem Step.give {B H : Hp} {F F' : Nat → List Addr} {f h : List Addr} (h1 : ∀ a ∈ h, a ∈ f) (h2 : ∀ a, FP F' a → FP F a ∨ a ∈ f) (nB : ∀ a ∈ f, B a = none) : Step B H (fun a => FP F a ∨ a ∈ f) (TW.join B H h) H (FP F') where
  ex := join_ext fun a m => nB a (h1 a m)
  up := fun _ _ e _ _ => e
  th := fun _ h => h
  new := fun a z => .inl (h2 a z)
  newB := fun a z => by
    by_cases m : a ∈ h
    · exact .inr (.inl (.inr (h1 a m)))
    · rw [join_out m] at z; exact .inl z
theorem tgs_deep {ks : Nat → Kind} {pin : Nat → Option V} {H : Hp} : ∀ (is : List Nat) {ds : List D} {xs : List V} {f : List Addr} {B : Hp} {σ : L2.St} {ρ ρ' : Env} {F : Nat → List Addr} {Q : L2.St → Hp → Prop}, Sta C ks pin B H σ ρ F →
    owns H ds xs f → (∀ a ∈ f, ¬ FP F a) → (∀ a ∈ f, B a = none) → (∀ i ∈ is, Kind.le .deep (ks i) = true) → (∀ i ∈ is, pin i = none) → sts ρ is ds = some ρ' →
    (∀ σ' B' F', Step B H (fun a => FP F a ∨ a ∈ f) B' H (FP F') → Sta C ks pin B' H σ' ρ' F' → Q σ' H) → gNs is xs σ H Q
  | [], ds, xs, f, B, σ, ρ, ρ', F, Q, sta, h, _, nB, _, _, e, q => by
    cases ds with
    | nil =>
      simp only [sts, Option.some.injEq] at e
      subst e
      exact ⟨h.1, q σ B F (Step.refl.less fun a z => .inl z) sta⟩
    | cons => simp [sts] at e
  | i :: is, ds, xs, f, B, σ, ρ, ρ', F, Q, sta, h, dj, nB, hk, hp, e, q => by
    cases ds with
    | nil => simp [sts] at e
    | cons d ds =>
      simp only [sts] at e
      obtain ⟨x, r, g1, g2, rfl, rfl, h1, h2, hd⟩ := h
      have m1 : ∀ a ∈ g1, a ∈ g1 ++ g2 := fun a m => List.mem_append_left _ m
      have m2 : ∀ a ∈ g2, a ∈ g1 ++ g2 := fun a m => List.mem_append_right _ m
      obtain ⟨hh, F1, z1, sta1, z2⟩ := sta.give (k := .deep) (d := d) (v := x) (f := g1) ⟨h1, fun a m => dj a (m1 a m), fun a m => nB a (m1 a m)⟩ (hk i List.mem_cons_self) (hp i List.mem_cons_self)
      have stg := Step.give (B := B) (H := H) z1 z2 fun a m => nB a (m1 a m)
      refine ⟨x, r, rfl, tgs_deep is sta1 h2 (fun a m z => (z2 a z).elim (dj a (m2 a m)) fun w => hd a w m) (fun a m => ?_) (fun j m => hk j (List.mem_cons_of_mem _ m)) (fun j m => hp j (List.mem_cons_of_mem _ m)) e fun σ' B' F' s' sta' => q σ' B' F' ?_ sta'⟩
      · rw [join_out fun w => hd a (z1 a w) m]; exact nB a (m2 a m)
      · have s1 : Step B H (fun a => FP F a ∨ a ∈ g1 ++ g2) (join B H hh) H (fun a => FP F1 a ∨ a ∈ g2) := ⟨stg.ex, fun _ _ e _ _ => e, fun _ h => h, fun a z => .inl (z.elim (fun w => (z2 a w).imp (fun q => q) (m1 a)) fun m => .inr (m2 a m)), fun a z => (stg.newB a z).imp (fun q => q) fun w => w.imp (fun w => w.imp (fun q => q) (m1 a)) fun q => q⟩
        exact s1.trans s'
end
end TW

namespace TW
open PySem L2
section
variable {C : Ctx} {sg : Nat → Sig}
theorem sts_len : ∀ {is : List Nat} {ρ ρ' : Env} {ds : List D}, sts ρ is ds = some ρ' → ds.length = is.length
  | [], _, _, ds, e => by cases ds <;> simp [sts] at e; rfl
  | i :: is, _, _, ds, e => by
    cases ds with
    | nil => simp [sts] at e
    | cons d ds => simp only [sts] at e; simp [sts_len e]
theorem Step.give2 {B H : Hp} {F : Nat → List Addr} {f h g : List Addr} (h1 : ∀ a ∈ h, a ∈ f) (h2 : ∀ a ∈ g, a ∈ f) (nB : ∀ a ∈ f, B a = none) : Step B H (fun a => FP F a ∨ a ∈ f) (TW.join B H h) H (fun a => FP F a ∨ a ∈ g) where
  ex := join_ext fun a m => nB a (h1 a m)
  up := fun _ _ e _ _ => e
  th := fun _ h => h
  new := fun a z => .inl (z.imp (fun q => q) (h2 a))
  newB := fun a z => by
    by_cases m : a ∈ h
    · exact .inr (.inl (.inr (h1 a m)))
    · rw [join_out m] at z; exact .inl z
theorem gNs_of {is : List Nat} {xs : List V} {σ : L2.St} {H : Hp} {Q : L2.St → Hp → Prop} (h : gNs is xs σ H Q) : gNs is xs σ H Q := h
theorem snd_asg (so : SigOk C sg) (t : Tg) (e : IE) : SndS C sg (.asg t e) := by
  intro ks hnb pin pn hpn rk W B H σ ρ F E hk sta h
  simp only [kS] at hk
  split at hk <;> try (simp only [Bool.false_eq_true] at hk)
  rename_i k hk1
  simp only [evS] at h
  refine stm_e (E := E) (rk := rk) so hnb (g := fun d ρ1 => match t.put d ρ1 with | some ρ2 => .nx ρ2 | none => .bad) hk1 sta h fun d ρ1 v B1 H1 F1 f ev st1 sta1 has1 pu1 h2 => ?_
  try simp only at h2
  cases ep : t.put d ρ1 with
  | none => rw [ep] at h2; exact h2.elim
  | some ρ2 =>
  rw [ep] at h2
  have h2 : ∀ σ' B' H' F', Step B H (FP F) B' H' (FP F') → Sta C ks pin B' H' σ' ρ2 F' → E.nx σ' H' := h2
  have pns : ∀ {i : Nat}, (!pn i) = true → pin i = none := fun {i} z => hpn i (by simpa using z)
  cases t with
  | nm i =>
    simp only [Tg.put, Option.some.injEq] at ep
    subst ep
    simp only [kTg, Bool.and_eq_true] at hk
    obtain ⟨hh, F', z1, z2, z3⟩ := sta1.give has1 hk.1 (pns hk.2)
    exact h2 _ _ _ _ (st1.trans (Step.give z1 z3 has1.nB)) z2
  | tup is =>
    cases d <;> simp only [Tg.put, reduceCtorEq] at ep
    rename_i ds
    simp only [kTg, List.all_eq_true, Bool.and_eq_true] at hk
    cases k with
    | deep =>
      obtain ⟨p, xs, g, rfl, rfl, t1, t2, t3⟩ := has1.rep
      refine ⟨p, xs, rfl, .of t1, by rw [← owns_length t3]; exact sts_len ep, tgs_deep is sta1 t3 (fun a m => has1.dj a (List.mem_cons_of_mem _ m)) (fun a m => has1.nB a (List.mem_cons_of_mem _ m)) (fun i m => (hk i m).1) (fun i m => pns (hk i m).2) ep fun σ' B' F' s' sta' => ?_⟩
      exact h2 _ _ _ _ ((st1.less fun a z => z.imp (fun q => q) (List.mem_cons_of_mem _)).trans s') sta'
    | sh =>
      refine tg_ok (t := .tup is) (.inl rfl) sta1 (show hold C.K (hB .sh B1 H1) (.tup ds) v from has1.rep.1) (fun i m => by simpa using (hk i m).1) (fun i m => pns (hk i m).2) ep fun σ' F' s' f' _ _ => h2 _ _ _ _ ((st1.less fun a z => .inl z).less fun a z => f' a z) s'
    | top =>
      obtain ⟨hh, g, z1, z2, sta2, has2⟩ := has1.le (k' := .sh) sta1 rfl
      refine tg_ok (t := .tup is) (.inl rfl) sta2 (show hold C.K (hB .sh _ H1) (.tup ds) v from has2.rep.1) (fun i m => by simpa using (hk i m).1) (fun i m => pns (hk i m).2) ep fun σ' F' s' f' _ _ => h2 _ _ _ _ (st1.trans ((Step.give (F' := F1) z1 (fun a z => .inl z) has1.nB).less f')) s'
    | _ =>
      cases is with
      | nil =>
        cases ds with
        | cons => simp [sts] at ep
        | nil =>
          have r := has1.rep
          simp only [sts, Option.some.injEq] at ep
          subst ep
          simp only [vrep, scV, reduceCtorEq, false_and, false_or] at r <;> first
            | exact r.elim
            | (obtain ⟨p, rfl, rfl, xs, t1, t2⟩ := r
               cases t2
               exact ⟨p, [], rfl, .of t1, rfl, rfl, h2 _ _ _ _ (st1.less fun a z => .inl z) sta1⟩)
            | (obtain ⟨⟨p, xs, rfl, t1, t2⟩, rfl⟩ := r
               cases t2
               exact ⟨p, [], rfl, .of t1, rfl, rfl, h2 _ _ _ _ (st1.less fun a z => .inl z) sta1⟩)
      | cons i is => exact absurd (hk i List.mem_cons_self).1 (by simp)
  | lsp is =>
    cases d <;> simp only [Tg.put, reduceCtorEq] at ep
    rename_i ds
    simp only [kTg, List.all_eq_true, Bool.and_eq_true] at hk
    cases k with
    | deep =>
      obtain ⟨p, xs, g, rfl, rfl, t1, t2, t3⟩ := has1.rep
      refine ⟨p, xs, rfl, .of t1, by rw [← owns_length t3]; exact sts_len ep, tgs_deep is sta1 t3 (fun a m => has1.dj a (List.mem_cons_of_mem _ m)) (fun a m => has1.nB a (List.mem_cons_of_mem _ m)) (fun i m => (hk i m).1) (fun i m => pns (hk i m).2) ep fun σ' B' F' s' sta' => ?_⟩
      exact h2 _ _ _ _ ((st1.less fun a z => z.imp (fun q => q) (List.mem_cons_of_mem _)).trans s') sta'
    | sh =>
      refine tg_ok (t := .lsp is) (.inl rfl) sta1 (show hold C.K (hB .sh B1 H1) (.lst ds) v from has1.rep.1) (fun i m => by simpa using (hk i m).1) (fun i m => pns (hk i m).2) ep fun σ' F' s' f' _ _ => h2 _ _ _ _ ((st1.less fun a z => .inl z).less fun a z => f' a z) s'
    | top =>
      obtain ⟨hh, g, z1, z2, sta2, has2⟩ := has1.le (k' := .sh) sta1 rfl
      refine tg_ok (t := .lsp is) (.inl rfl) sta2 (show hold C.K (hB .sh _ H1) (.lst ds) v from has2.rep.1) (fun i m => by simpa using (hk i m).1) (fun i m => pns (hk i m).2) ep fun σ' F' s' f' _ _ => h2 _ _ _ _ (st1.trans ((Step.give (F' := F1) z1 (fun a z => .inl z) has1.nB).less f')) s'
    | _ =>
      cases is with
      | nil =>
        cases ds with
        | cons => simp [sts] at ep
        | nil =>
          have r := has1.rep
          simp only [sts, Option.some.injEq] at ep
          subst ep
          simp only [vrep, scV, reduceCtorEq, false_and, false_or] at r <;> first
            | exact r.elim
            | (obtain ⟨p, rfl, rfl, xs, t1, t2⟩ := r
               cases t2
               exact ⟨p, [], rfl, .of t1, rfl, rfl, h2 _ _ _ _ (st1.less fun a z => .inl z) sta1⟩)
            | (obtain ⟨⟨p, xs, rfl, t1, t2⟩, rfl⟩ := r
               cases t2
               exact ⟨p, [], rfl, .of t1, rfl, rfl, h2 _ _ _ _ (st1.less fun a z => .inl z) sta1⟩)
      | cons i is => exact absurd (hk i List.mem_cons_self).1 (by simp)
theorem snd_exp (so : SigOk C sg) (e : IE) : SndS C sg (.exp e) := by
  intro ks hnb pin pn hpn rk W B H σ ρ F E hk sta h
  simp only [kS] at hk
  obtain ⟨k, hk1⟩ := Option.isSome_iff_exists.mp hk
  simp only [evS] at h
  refine stm_e (E := E) (rk := rk) so hnb (g := fun _ ρ1 => .nx ρ1) hk1 sta ?_ fun d ρ1 v B1 H1 F1 f ev st1 sta1 has1 pu1 h2 => ?_
  · cases ev : evE C.Φ e ρ with
    | ok p => obtain ⟨d, ρ1⟩ := p; rw [ev] at h; exact h
    | exc c => rw [ev] at h; exact h
    | bad => rw [ev] at h; exact h
  · exact h2 _ _ _ _ (st1.less fun a z => .inl z) sta1
theorem snd_ret (so : SigOk C sg) (e : IE) : SndS C sg (.ret e) := by
  intro ks hnb pin pn hpn rk W B H σ ρ F E hk sta h
  simp only [kS] at hk
  split at hk <;> try (simp only [Bool.false_eq_true] at hk)
  rename_i k hk1
  simp only [evS] at h
  refine stm_e (E := E) (rk := rk) so hnb (g := fun d ρ1 => .rt d ρ1) hk1 sta h fun d ρ1 v B1 H1 F1 f ev st1 sta1 has1 pu1 h2 => ?_
  obtain ⟨hh, g, z1, z2, sta2, has2⟩ := has1.le sta1 hk
  exact h2 v σ _ _ _ g (st1.trans (Step.give2 z1 z2 has1.nB)) sta2 has2
theorem snd_retN : SndS C sg .retN := by
  intro ks hnb pin pn hpn rk W B H σ ρ F E hk sta h
  refine h .non σ B H F [] (Step.id rfl) sta ⟨?_, nomem, nomem⟩
  cases rk
  · exact ⟨rfl, rfl⟩
  · exact ⟨rfl, rfl⟩
  · exact .inl ⟨rfl, rfl⟩
  · exact own_sc rfl
  · exact .inl ⟨rfl, rfl⟩
  · exact ⟨rfl, rfl⟩
theorem snd_rai (c : Nat) : SndS C sg (.rai c) := by
  intro ks hnb pin pn hpn rk W B H σ ρ F E hk sta h
  exact h σ H Xup.refl sta.tab
theorem snd_snil : SndSs C sg .nil := by
  intro ks hnb pin pn hpn rk W B H σ ρ F E hk sta h
  exact h σ B H F Step.refl sta
theorem snd_scons {s : IS} {r : ISs} (h1 : SndS C sg s) (h2 : SndSs C sg r) : SndSs C sg (.cons s r) := by
  intro ks hnb pin pn hpn rk W B H σ ρ F E hk sta h
  simp only [kSs, Bool.and_eq_true] at hk
  refine h1 ks hnb pin pn hpn rk W B H σ ρ F { E with nx := rdSs C r W E } hk.1 sta ?_
  simp only [evSs] at h
  cases ev : evS C.Φ s ρ with
  | bad => rw [ev] at h; exact h
  | exc c => rw [ev] at h; exact h
  | rt d ρ1 => rw [ev] at h; exact h
  | nx ρ1 =>
    rw [ev] at h
    intro σ' B' H' F' st' sta'
    exact h2 ks hnb pin pn hpn rk W B' H' σ' ρ1 F' E hk.2 sta' (FinO.shift h st')
theorem snd_ifs (so : SigOk C sg) {c : IE} {a b : ISs} (h1 : SndSs C sg a) (h2 : SndSs C sg b) : SndS C sg (.ifs c a b) := by
  intro ks hnb pin pn hpn rk W B H σ ρ F E hk sta h
  simp only [kS, Bool.and_eq_true] at hk
  obtain ⟨⟨k1, k2⟩, k3⟩ := hk
  obtain ⟨k, hk1⟩ := Option.isSome_iff_exists.mp k1
  simp only [evS] at h
  refine stm_e (E := E) (rk := rk) so hnb (g := fun d ρ1 => match d with | .bl true => evSs C.Φ a ρ1 | .bl false => evSs C.Φ b ρ1 | _ => .bad) hk1 sta ?_ fun d ρ1 v B1 H1 F1 f ev st1 sta1 has1 pu1 h3 => ?_
  · cases ev : evE C.Φ c ρ with
    | ok p =>
      obtain ⟨d, ρ1⟩ := p
      rw [ev] at h
      cases d with
      | bl x => cases x <;> exact h
      | _ => exact h
    | exc c => rw [ev] at h; exact h
    | bad => rw [ev] at h; exact h
  · have g := vrep_hold sta1.sub has1.rep
    cases d with
    | bl x =>
      simp only [hold] at g
      refine ⟨x, g, ?_⟩
      have stx := st1.less (P2 := FP F1) fun a z => .inl z
      cases x with
      | true => show rdSs C a W E σ H1; exact h1 ks hnb pin pn hpn rk W B1 H1 σ ρ1 F1 E k2 sta1 (FinO.shift h3 stx)
      | false => show rdSs C b W E σ H1; exact h2 ks hnb pin pn hpn rk W B1 H1 σ ρ1 F1 E k3 sta1 (FinO.shift h3 stx)
    | _ => exact h3.elim
theorem ip_run {o : Op2} (ho : o = .addI ∨ o = .subI) {x y z : D} (h : o.run x y = .ok z) : ∃ i j k, x = .int i ∧ y = .int j ∧ z = .int k ∧ ∀ H Q, Q (.int k) H → ipO o (.int i) (.int j) H Q := by
  rcases ho with rfl | rfl <;> cases x <;> cases y <;> first
    | exact nomatch (show (Res.bad : Res D) = .ok z from h)
    | exact ⟨_, _, _, rfl, rfl, (Res.ok.inj (show Res.ok _ = Res.ok z from h)).symm, fun H Q q => ⟨_, _, rfl, rfl, q⟩⟩
theorem ip_ops {o : Op2} (h : (o == .addI || o == .subI) = true) : o = .addI ∨ o = .subI := by
  rcases Bool.or_eq_true _ _ ▸ h with h | h
  · exact .inl (by simpa using h)
  · exact .inr (by simpa using h)
theorem ip_exc {o : Op2} {x y : D} {c : Nat} : o.run x y ≠ .exc c := run2_exc
theorem Has.int {B H : Hp} {F : Nat → List Addr} {i : Int} : Has C B H F .im (.int i) (.int i) [] := ⟨⟨rfl, rfl⟩, nomem, nomem⟩
theorem snd_aug (so : SigOk C sg) (i : Nat) (o : Op2) (e : IE) : SndS C sg (.aug i o e) := by
  intro ks hnb pin pn hpn rk W B H σ ρ F E hk sta h
  simp only [kS, Bool.and_eq_true] at hk
  obtain ⟨⟨⟨k1, k2⟩, k3⟩, k4⟩ := hk
  obtain ⟨k, hk1⟩ := Option.isSome_iff_exists.mp k4
  have k1 : ks i = .sh := by simpa using k1
  simp only [evS] at h
  cases e0 : gt ρ i with
  | none => rw [e0] at h; exact h.elim
  | some x =>
  rw [e0] at h
  simp only at h
  obtain ⟨v0, hv0, r0⟩ := sta.rep i x e0
  rw [k1] at r0
  refine ⟨v0, hv0, ?_⟩
  refine stm_e (E := E) (rk := rk) so hnb (g := fun y ρ1 => match o.run x y with | .ok z => .nx (st ρ1 i (some z)) | .exc c => .exc c | .bad => .bad) hk1 sta h fun d ρ1 v B1 H1 F1 f ev st1 sta1 has1 pu1 h3 => ?_
  try simp only at h3
  cases er : o.run x d with
  | bad => rw [er] at h3; exact h3.elim
  | exc c => exact absurd er ip_exc
  | ok z =>
  rw [er] at h3
  obtain ⟨m, n, l, rfl, rfl, rfl, q⟩ := ip_run (ip_ops k3) er
  have gx := r0.1
  have gy := vrep_hold sta1.sub has1.rep
  simp only [hold] at gx gy
  subst gx; subst gy
  refine q H1 _ ?_
  obtain ⟨hh, F', z1, z2, z3⟩ := sta1.give (Has.int (C := C) (B := B1) (H := H1) (F := F1) (i := l)) (i := i) (by rw [k1]; rfl) (hpn i (by simpa using k2))
  exact h3 _ _ _ _ ((st1.less fun a z => .inl z).trans ((Step.give z1 z3 nomem).more fun a z => z.elim (fun q => q) fun m => by cases m)) z2
end
end TW

namespace TW
open PySem L2
section
variable {C : Ctx} {sg : Nat → Sig}
/-- a list of things, one thing put in -/
structure Wr (ds ds' : List D) (xs xs' : List V) (d : D) (v : V) : Prop where
  hold : ∀ (K : PySem.W.Frag) (B : Hp), holds K B ds xs → TW.hold K B d v → holds K B ds' xs'
  own : ∀ (H : Hp) (g f : List Addr), owns H ds xs g → TW.own H d v f → (∀ a ∈ g, a ∉ f) → ∃ g', owns H ds' xs' g' ∧ ∀ a ∈ g', a ∈ g ∨ a ∈ f
theorem Wr.app {ds : List D} {xs : List V} {d : D} {v : V} : Wr ds (ds ++ [d]) xs (xs ++ [v]) d v where
  hold := fun _ _ h g => holds_append h (holds_one g)
  own := fun _ g f h k n => ⟨g ++ f, owns_append h (owns_one k) n, fun _ m => List.mem_append.mp m⟩
theorem owns_cut {H : Hp} : ∀ (n : Nat) {ds : List D} {xs : List V} {f : List Addr}, owns H ds xs f → ∃ g1 g2, owns H (ds.take n) (xs.take n) g1 ∧ owns H (ds.drop n) (xs.drop n) g2 ∧ f = g1 ++ g2 ∧ ∀ a ∈ g1, a ∉ g2
  | 0, _, _, f, h => ⟨[], f, ⟨rfl, rfl⟩, h, rfl, nomem⟩
  | n + 1, [], _, _, h => by
    obtain ⟨rfl, rfl⟩ := h
    exact ⟨[], [], ⟨rfl, rfl⟩, ⟨rfl, rfl⟩, rfl, nomem⟩
  | n + 1, d :: ds, _, _, h => by
    obtain ⟨x, r, g1, g2, rfl, rfl, h1, h2, dj⟩ := h
    obtain ⟨f1, f2, e1, e2, rfl, e4⟩ := owns_cut n h2
    refine ⟨g1 ++ f1, f2, ⟨x, _, g1, f1, rfl, rfl, h1, e1, fun a m z => dj a m (List.mem_append_left _ z)⟩, e2, by rw [List.append_assoc], fun a m z => ?_⟩
    rcases List.mem_append.mp m with m | m
    · exact dj a m (List.mem_append_right _ z)
    · exact e4 a m z
theorem Wr.ins {ds : List D} {xs : List V} {d : D} {v : V} (n : Nat) : Wr ds (ds.take n ++ d :: ds.drop n) xs (xs.take n ++ v :: xs.drop n) d v where
  hold := fun _ _ h g => holds_append (holds_take n h) ⟨v, _, rfl, g, holds_drop n h⟩
  own := fun H g f h k nn => by
    obtain ⟨g1, g2, e1, e2, rfl, e4⟩ := owns_cut n h
    refine ⟨g1 ++ (f ++ g2), owns_append e1 ⟨v, _, f, g2, rfl, rfl, k, e2, fun a m z => nn a (List.mem_append_right _ z) m⟩ fun a m z => ?_, fun a m => ?_⟩
    · rcases List.mem_append.mp z with z | z
      · exact nn a (List.mem_append_left _ m) z
      · exact e4 a m z
    · rcases List.mem_append.mp m with m | m
      · exact .inl (List.mem_append_left _ m)
      · rcases List.mem_append.mp m with m | m
        · exact .inr m
        · exact .inl (List.mem_append_right _ m)
theorem Wr.set {ds : List D} {xs : List V} {d : D} {v : V} (n : Nat) : Wr ds (ds.set n d) xs (xs.set n v) d v where
  hold := fun _ _ h g => holds_set g n h
  own := fun H g f h k nn => by
    have key : ∀ (n : Nat) (ds : List D) (xs : List V) (g : List Addr), owns H ds xs g → (∀ a ∈ g, a ∉ f) → ∃ g', owns H (ds.set n d) (xs.set n v) g' ∧ ∀ a ∈ g', a ∈ g ∨ a ∈ f := by
      intro n ds
      induction ds generalizing n with
      | nil =>
        intro xs g h nn
        obtain ⟨rfl, rfl⟩ := h
        exact ⟨[], ⟨rfl, rfl⟩, nomem⟩
      | cons e r ih =>
        intro xs g h nn
        obtain ⟨x, r', g1, g2, rfl, rfl, h1, h2, dj⟩ := h
        cases n with
        | zero =>
          refine ⟨f ++ g2, ⟨v, r', f, g2, rfl, rfl, k, h2, fun a m z => nn a (List.mem_append_right _ z) m⟩, fun a m => ?_⟩
          exact (List.mem_append.mp m).symm.imp (List.mem_append_right _) fun q => q
        | succ n =>
          obtain ⟨g', e1, e2⟩ := ih n r' g2 h2 fun a m => nn a (List.mem_append_right _ m)
          refine ⟨g1 ++ g', ⟨x, _, g1, g', rfl, rfl, h1, e1, fun a m z => (e2 a z).elim (dj a m) (nn a (List.mem_append_left _ m))⟩, fun a m => ?_⟩
          rcases List.mem_append.mp m with m | m
          · exact .inl (List.mem_append_left _ m)
          · exact (e2 a m).imp (List.mem_append_right _) fun q => q
    exact key n ds xs g h nn
/-- a name's own list is written -/
theorem write_core {ks : Nat → Kind} {pin : Nat → Option V} {B H : Hp} {σ : L2.St} {ρ : Env} {F : Nat → List Addr} {k : Kind} {d : D} {v : V} {f : List Addr} (sta : Sta C ks pin B H σ ρ F) (hnb : ∀ j, (ks j).borrowed = false) (has : Has C B H F k d v f) {i : Nat} {ds : List D}
    (hk : (ks i = .top ∧ k.le .sh = true) ∨ (ks i = .deep ∧ k.le .deep = true)) (e0 : gt ρ i = some (.lst ds)) :
    ∃ p xs, σ[i]? = some (some (.ref p)) ∧ H p = some (.lst xs) ∧ ds.length = xs.length ∧ ∀ ds' xs', Wr ds ds' xs xs' d v → ∃ B' F', Step B H (fun a => FP F a ∨ a ∈ f) B' (upd H p (.lst xs')) (FP F') ∧ Sta C ks pin B' (upd H p (.lst xs')) σ (st ρ i (some (.lst ds'))) F' := by
  obtain ⟨v0, hv, r⟩ := sta.rep i _ e0
  rcases hk with ⟨hk, hl⟩ | ⟨hk, hl⟩ <;> rw [hk] at r
  · rcases r with r | ⟨p, rfl, ef, xs, t1, t2⟩
    · simp [scV] at r
    have mp : p ∈ F i := by rw [ef]; exact List.mem_singleton.mpr rfl
    refine ⟨p, xs, hv, t1, holds_length t2, fun ds' xs' w => ?_⟩
    have staJ := sta.absorb has.at has.dj has.nB
    have h1 := w.hold C.K (join B H f) (holds_mono (.of fun a o e _ => join_ext has.nB a o e) _ _ t2) (has.open_ hl)
    have sp := staJ.put hnb (o := .lst xs') (d := .lst ds') (g := [p]) e0 mp hv (by rw [hk]; exact .inr ⟨p, rfl, rfl, _, upd_same, h1⟩) (fun a m => .inr (by rw [ef]; exact m)) (fun a m => by rw [List.mem_singleton.mp m]; exact staJ.nB i p mp) nt_lst
    refine ⟨_, _, ⟨join_ext has.nB, fun a o e n _ => put_up e fun z => n (.inl ⟨i, z ▸ mp⟩), fun a h => ?_, fun a z => .inl (.inl ((setF_fp z).elim (fun q => q) fun m => by rw [List.mem_singleton.mp m]; exact ⟨i, mp⟩)), fun a h => ?_⟩, sp⟩
    · by_cases e : a = p
      · rw [e, upd_same]; simp
      · rw [upd_ne e]; exact h
    · by_cases m : a ∈ f
      · exact .inr (.inl (.inr m))
      · rw [join_out m] at h; exact .inl h
  · obtain ⟨p, xs, g, rfl, ef, t1, t2, t3⟩ := r
    have mp : p ∈ F i := by rw [ef]; exact List.mem_cons_self
    have mg : ∀ a ∈ g, a ∈ F i := fun a m => by rw [ef]; exact List.mem_cons_of_mem _ m
    refine ⟨p, xs, hv, t1, owns_length t3, fun ds' xs' w => ?_⟩
    have hd : own H d v f := by
      have q := has.rep
      cases k <;> simp only [Kind.le, Bool.false_eq_true] at hl
      · rw [q.2]; exact own_sc q.1
      · exact q
    have pf : p ∉ f := fun m => has.dj p m ⟨i, mp⟩
    have gf : ∀ a ∈ g, a ∉ f := fun a m z => has.dj a z ⟨i, mg a m⟩
    obtain ⟨g', e1, e2⟩ := w.own (upd H p (.lst xs')) g f (owns_keep _ _ _ t3 fun a m o e _ => put_up e fun z => t2 (z ▸ m)) (own_keep _ _ _ hd fun a m o e _ => put_up e fun z => pf (z ▸ m)) gf
    have pg : p ∉ g' := fun m => (e2 p m).elim t2 pf
    have sp := sta.put hnb (o := .lst xs') (d := .lst ds') (g := p :: g') e0 mp hv (by rw [hk]; exact ⟨p, _, g', rfl, rfl, upd_same, pg, e1⟩)
      (fun a m => (List.mem_cons.mp m).elim (fun e => .inr (by rw [e]; exact mp)) fun m => (e2 a m).elim (fun m => .inr (mg a m)) fun m => .inl (has.dj a m))
      (fun a m => (List.mem_cons.mp m).elim (fun e => by rw [e]; exact sta.nB i p mp) fun m => (e2 a m).elim (fun m => sta.nB i a (mg a m)) fun m => has.nB a m) nt_lst
    refine ⟨_, _, ⟨fun _ _ e => e, fun a o e n _ => put_up e fun z => n (.inl ⟨i, z ▸ mp⟩), fun a h => ?_, fun a z => .inl ((setF_fp z).elim .inl fun m => ?_), fun a h => .inl h⟩, sp⟩
    · by_cases e : a = p
      · rw [e, upd_same]; simp
      · rw [upd_ne e]; exact h
    · exact (List.mem_cons.mp m).elim (fun e => .inl (by rw [e]; exact ⟨i, mp⟩)) fun m => (e2 a m).imp (fun m => ⟨i, mg a m⟩) fun m => m
theorem lst_ty {ks : Nat → Kind} {pin : Nat → Option V} {B H : Hp} {σ : L2.St} {ρ : Env} {F : Nat → List Addr} (sta : Sta C ks pin B H σ ρ F) {i : Nat} {ds : List D} (e0 : gt ρ i = some (.lst ds)) : ∃ p xs, σ[i]? = some (some (.ref p)) ∧ H p = some (.lst xs) ∧ tyV C.K "list" (.ref p) H := by
  obtain ⟨v, hv, r⟩ := sta.rep i _ e0
  have g := vrep_hold sta.sub r
  simp only [hold] at g
  obtain ⟨p, xs, rfl, t1, t2⟩ := g
  exact ⟨p, xs, hv, t1, .inl ⟨rfl, xs, .of t1⟩⟩
theorem limS {n : Nat} (h : n < lim) : n < sizeLine := Nat.lt_trans h (by decide)
theorem own_kind {ki k : Kind} (h : (match (some k, ki) with | (some k, .top) => k.le .sh | (some k, .deep) => k.le .deep | _ => false) = true) : (ki = .top ∧ k.le .sh = true) ∨ (ki = .deep ∧ k.le .deep = true) := by
  cases ki <;> simp at h
  · exact .inl ⟨rfl, h⟩
  · exact .inr ⟨rfl, h⟩
theorem snd_app (so : SigOk C sg) (i : Nat) (e : IE) : SndS C sg (.app i e) := by
  intro ks hnb pin pn hpn rk W B H σ ρ F E hk sta h
  have hkk : ∃ k, kE sg true ks e = some k ∧ ((ks i = .top ∧ k.le .sh = true) ∨ (ks i = .deep ∧ k.le .deep = true)) := by
    simp only [kS] at hk
    split at hk
    · rename_i k e1 e2; exact ⟨k, e1, .inl ⟨e2, hk⟩⟩
    · rename_i k e1 e2; exact ⟨k, e1, .inr ⟨e2, hk⟩⟩
    · cases hk
  obtain ⟨k, hk1, hk2⟩ := hkk
  simp only [evS] at h
  split at h
  · rename_i ds0 e0
    obtain ⟨p, xs, hv, t1, ty⟩ := lst_ty sta e0
    refine ⟨_, hv, ty, ?_⟩
    refine stm_e (E := E) (rk := rk) so hnb (g := fun d ρ1 => match gt ρ1 i with
      | some (.lst ds) => if ds.length < lim then .nx (st ρ1 i (some (.lst (ds ++ [d])))) else .bad
      | _ => .bad) hk1 sta h fun d ρ1 v B1 H1 F1 f ev st1 sta1 has1 pu1 h3 => ?_
    try simp only at h3
    split at h3
    · rename_i ds e1
      split at h3
      · rename_i hl
        obtain ⟨q, ys, w1, w2, w3, w4⟩ := write_core sta1 hnb has1 hk2 e1
        obtain ⟨B', F', s1, s2⟩ := w4 (ds ++ [d]) (ys ++ [v]) .app
        rw [hv] at w1
        cases w1
        exact ⟨p, ys, v, rfl, rfl, w2, limS (by rw [← w3]; exact hl), h3 _ _ _ _ (st1.trans s1) s2⟩
      · exact h3.elim
    · exact h3.elim
  · exact h.elim
theorem snd_ins (so : SigOk C sg) (i : Nat) (a e : IE) : SndS C sg (.ins i a e) := by
  intro ks hnb pin pn hpn rk W B H σ ρ F E hk sta h
  have hkk : ∃ ka k, kE sg true ks a = some ka ∧ kE sg true ks e = some k ∧ ((ks i = .top ∧ k.le .sh = true) ∨ (ks i = .deep ∧ k.le .deep = true)) := by
    simp only [kS] at hk
    split at hk
    · rename_i e0 e1 e2; exact ⟨_, _, e0, e1, .inl ⟨e2, hk⟩⟩
    · rename_i e0 e1 e2; exact ⟨_, _, e0, e1, .inr ⟨e2, hk⟩⟩
    · cases hk
  obtain ⟨ka, k, hk0, hk1, hk2⟩ := hkk
  simp only [evS] at h
  split at h
  · rename_i ds0 e0
    obtain ⟨p, xs, hv, t1, ty⟩ := lst_ty sta e0
    refine ⟨_, hv, ty, ?_⟩
    refine stm_e (E := E) (rk := rk) so hnb (g := fun d ρ1 => match d with
      | .int k => match evE C.Φ e ρ1 with
        | .ok (d, ρ2) => match gt ρ2 i with
          | some (.lst ds) => if ds.length < lim ∧ 0 ≤ k ∧ k ≤ ds.length then .nx (st ρ2 i (some (.lst (ds.take k.toNat ++ d :: ds.drop k.toNat)))) else .bad
          | _ => .bad
        | .exc c => .exc c | .bad => .bad
      | _ => .bad) hk0 sta ?_ fun d0 ρ1 v0 B1 H1 F1 f1 ev st1 sta1 has1 pu1 h2 => ?_
    · cases ev : evE C.Φ a ρ with
      | ok q => obtain ⟨d0, ρ1⟩ := q; rw [ev] at h; cases d0 <;> exact h
      | exc c => rw [ev] at h; exact h
      | bad => rw [ev] at h; exact h
    · cases d0 with
      | int k0 =>
        have g0 := vrep_hold sta1.sub has1.rep
        simp only [hold] at g0
        subst g0
        have st1' := st1.less (P2 := FP F1) fun a z => .inl z
        refine stm_e (E := E) (rk := rk) so hnb (g := fun d ρ2 => match gt ρ2 i with
          | some (.lst ds) => if ds.length < lim ∧ 0 ≤ k0 ∧ k0 ≤ ds.length then .nx (st ρ2 i (some (.lst (ds.take k0.toNat ++ d :: ds.drop k0.toNat)))) else .bad
          | _ => .bad) hk1 sta1 (FinO.shift h2 st1') fun d ρ2 v B2 H2 F2 f ev st2 sta2 has2 pu2 h3 => ?_
        try simp only at h3
        split at h3
        · rename_i ds e1
          split at h3
          · rename_i hl
            obtain ⟨q, ys, w1, w2, w3, w4⟩ := write_core sta2 hnb has2 hk2 e1
            obtain ⟨B', F', s1, s2⟩ := w4 _ _ (.ins k0.toNat)
            rw [hv] at w1
            cases w1
            refine ⟨p, ys, k0, v, rfl, rfl, w2, limS (by rw [← w3]; exact hl.1), hl.2.1, ?_, h3 _ _ _ _ (st2.trans s1) s2⟩
            have : (ds.length : Int) < 100000 := by have := hl.1; unfold lim at this; omega
            omega
          · exact h3.elim
        · exact h3.elim
      | _ => exact h2.elim
  · exact h.elim
theorem Wr.clr {ds : List D} {xs : List V} : Wr ds [] xs [] .non .non where
  hold := fun _ _ _ _ => rfl
  own := fun _ _ _ _ _ _ => ⟨[], ⟨rfl, rfl⟩, nomem⟩
theorem snd_clr (i : Nat) : SndS C sg (.clr i) := by
  intro ks hnb pin pn hpn rk W B H σ ρ F E hk sta h
  simp only [kS] at hk
  have hk2 : (ks i = .top ∧ Kind.le .im .sh = true) ∨ (ks i = .deep ∧ Kind.le .im .deep = true) := by
    cases q : ks i <;> rw [q] at hk <;> simp only [ownK, Bool.false_eq_true] at hk
    · exact .inl ⟨rfl, rfl⟩
    · exact .inr ⟨rfl, rfl⟩
  simp only [evS] at h
  split at h
  · rename_i ds0 e0
    obtain ⟨p, xs, hv, t1, ty⟩ := lst_ty sta e0
    refine ⟨_, hv, ty, ?_⟩
    obtain ⟨q, ys, w1, w2, w3, w4⟩ := write_core (k := .im) (f := []) (d := .non) (v := .non) sta hnb ⟨⟨rfl, rfl⟩, nomem, nomem⟩ hk2 e0
    obtain ⟨B', F', s1, s2⟩ := w4 _ _ .clr
    rw [hv] at w1
    cases w1
    exact ⟨p, ys, rfl, rfl, w2, h _ _ _ _ (s1.more fun a z => z.elim (fun q => q) fun m => by cases m) s2⟩
  · exact h.elim
theorem ixN_ixAt {n : Nat} {i : Int} : ixN n i = ixAt n i := rfl
theorem snd_seti (so : SigOk C sg) (i : Nat) (a e : IE) : SndS C sg (.seti i a e) := by
  intro ks hnb pin pn hpn rk W B H σ ρ F E hk sta h
  have hkk : ∃ ka k, kE sg true ks a = some ka ∧ kE sg true ks e = some k ∧ ((ks i = .top ∧ k.le .sh = true) ∨ (ks i = .deep ∧ k.le .deep = true)) := by
    simp only [kS] at hk
    split at hk
    · rename_i e0 e1 e2; exact ⟨_, _, e0, e1, .inl ⟨e2, hk⟩⟩
    · rename_i e0 e1 e2; exact ⟨_, _, e0, e1, .inr ⟨e2, hk⟩⟩
    · cases hk
  obtain ⟨ka, k, hk0, hk1, hk2⟩ := hkk
  have knb : k.borrowed = false := by
    rcases hk2 with ⟨_, l⟩ | ⟨_, l⟩ <;> cases k <;> simp_all [Kind.le, Kind.borrowed]
  simp only [evS] at h
  refine stm_e (E := E) (rk := rk) so hnb (g := fun d ρ1 => match gt ρ1 i with
     | some _ => match evE C.Φ a ρ1 with
      | .ok (.int k, ρ2) => match gt ρ2 i with
        | some (.lst ds) => match setAt ds k d with | some r => .nx (st ρ2 i (some (.lst r))) | none => .bad
        | _ => .bad
      | .ok _ => .bad | .exc c => .exc c | .bad => .bad
     | none => .bad) hk1 sta h fun d ρ1 v B1 H1 F1 f1 ev st1 sta1 has1 pu1 h2 => ?_
  have st1' := st1.less (P2 := FP F1) fun a z => .inl z
  try simp only at h2
  split at h2
  · rename_i dd0 ei
    obtain ⟨x, hx, _⟩ := sta1.rep i _ ei
    refine ⟨x, hx, ?_⟩
    refine stm_e (E := E) (rk := rk) so hnb (g := fun d0 ρ2 => match d0 with
        | .int k => match gt ρ2 i with
          | some (.lst ds) => match setAt ds k d with | some r => .nx (st ρ2 i (some (.lst r))) | none => .bad
          | _ => .bad
        | _ => .bad) hk0 sta1 (FinO.shift (F := F) (H := H) (B := B) ?_ st1') fun d0 ρ2 v0 B2 H2 F2 f2 ev2 st2 sta2 has2 pu2 h3 => ?_
    · cases ev2 : evE C.Φ a ρ1 with
      | ok q => obtain ⟨d0, ρ2⟩ := q; rw [ev2] at h2; cases d0 <;> exact h2
      | exc c => rw [ev2] at h2; exact h2
      | bad => rw [ev2] at h2; exact h2
    · obtain ⟨has1', _⟩ := has1.step st2 fun z => by rw [knb] at z; cases z
      cases d0 with
      | int k0 =>
        have g0 := vrep_hold sta2.sub has2.rep
        simp only [hold] at g0
        subst g0
        have h2' : FinO C ks pin B H F W rk (match gt ρ2 i with
          | some (.lst ds) => match setAt ds k0 d with | some r => .nx (st ρ2 i (some (.lst r))) | none => .bad
          | _ => .bad) E := by rw [ev2] at h2; exact h2
        split at h2'
        · rename_i ds e1
          split at h2'
          · rename_i r er
            unfold setAt at er
            rw [Option.map_eq_some_iff] at er
            obtain ⟨n, en, rfl⟩ := er
            obtain ⟨q, ys, w1, w2, w3, w4⟩ := write_core sta2 hnb has1' hk2 e1
            obtain ⟨B', F', s1, s2⟩ := w4 _ _ (.set n)
            rw [hx] at w1
            cases w1
            have tot : Step B H (FP F) B2 H2 (fun a => FP F2 a ∨ a ∈ f1) := (st1.row st2).less fun a z => z.imp (fun q => q) fun m => List.mem_append_left _ m
            exact ⟨q, ys, k0, n, rfl, rfl, w2, by rw [← w3]; exact en, h2' _ _ _ _ (tot.trans s1) s2⟩
          · exact h2'.elim
        · exact h2'.elim
      | _ => exact h3.elim
  · exact h2.elim
end
end TW

namespace TW
open PySem L2
section
variable {C : Ctx} {sg : Nat → Sig}
theorem put_hold {K : PySem.W.Frag} {B : Hp} {k : Int} {d : D} {v : V} (hv : hold K B d v) {kd : List (Int × D)} {kvs : List (Key × V)} (h : holdK K B kd kvs) : holdK K B (put kd k d) (putK kvs (.inl k) v) := by
  have any : ∀ {kd : List (Int × D)} {kvs : List (Key × V)}, holdK K B kd kvs → (kd.any fun e => decide (e.1 = k)) = kvs.any fun kv => decide (kv.1 = (.inl k : Key)) := by
    intro kd
    induction kd with
    | nil => intro kvs h; cases h; rfl
    | cons p r ih =>
      obtain ⟨i, d⟩ := p
      intro kvs h
      obtain ⟨x, r', rfl, h1, h2⟩ := h
      simp only [List.any_cons, ih h2]
      congr 1
      by_cases e : i = k
      · subst e; simp
      · have : ¬ (Sum.inl i : Key) = Sum.inl k := fun z => e (Sum.inl.inj z)
        simp [e, this]
  unfold put putK
  rw [any h]
  split
  · have mp : ∀ {kd : List (Int × D)} {kvs : List (Key × V)}, holdK K B kd kvs → holdK K B (kd.map fun e => if e.1 = k then (e.1, d) else e) (kvs.map fun kv => if kv.1 = (.inl k : Key) then (kv.1, v) else kv) := by
      intro kd
      induction kd with
      | nil => intro kvs h; cases h; rfl
      | cons p r ih =>
        obtain ⟨i, d0⟩ := p
        intro kvs h
        obtain ⟨x, r', rfl, h1, h2⟩ := h
        simp only [List.map_cons]
        by_cases e : i = k
        · subst e
          rw [if_pos rfl, if_pos rfl]
          exact ⟨v, _, rfl, hv, ih h2⟩
        · rw [if_neg e, if_neg (fun z => e (Sum.inl.inj z))]
          exact ⟨x, _, rfl, h1, ih h2⟩
    exact mp h
  · have ap : ∀ {kd : List (Int × D)} {kvs : List (Key × V)}, holdK K B kd kvs → holdK K B (kd ++ [(k, d)]) (kvs ++ [(.inl k, v)]) := by
      intro kd
      induction kd with
      | nil => intro kvs h; cases h; exact ⟨v, [], rfl, hv, rfl⟩
      | cons p r ih =>
        obtain ⟨i, d0⟩ := p
        intro kvs h
        obtain ⟨x, r', rfl, h1, h2⟩ := h
        exact ⟨x, _, rfl, h1, ih h2⟩
    exact ap h
theorem putT_hold {K : PySem.W.Frag} {B : Hp} {j k : Int} {d : D} {v : V} (hv : hold K B d v) {kd : List ((Int × Int) × D)} {kvs : List (List Key × V)} (h : holdT K B kd kvs) : holdT K B (put kd (j, k) d) (putK kvs [.inl j, .inl k] v) := by
  have eqk : ∀ i l : Int, ([Sum.inl i, Sum.inl l] : List Key) = [Sum.inl j, Sum.inl k] ↔ (i, l) = (j, k) := fun i l => by simp
  have any : ∀ {kd : List ((Int × Int) × D)} {kvs : List (List Key × V)}, holdT K B kd kvs → (kd.any fun e => decide (e.1 = (j, k))) = kvs.any fun kv => decide (kv.1 = ([.inl j, .inl k] : List Key)) := by
    intro kd
    induction kd with
    | nil => intro kvs h; cases h; rfl
    | cons p r ih =>
      obtain ⟨⟨i, l⟩, d⟩ := p
      intro kvs h
      obtain ⟨x, r', rfl, h1, h2⟩ := h
      simp only [List.any_cons, ih h2]
      congr 1
      exact decide_eq_decide.mpr (eqk i l).symm
  unfold put putK
  rw [any h]
  split
  · have mp : ∀ {kd : List ((Int × Int) × D)} {kvs : List (List Key × V)}, holdT K B kd kvs → holdT K B (kd.map fun e => if e.1 = (j, k) then (e.1, d) else e) (kvs.map fun kv => if kv.1 = ([.inl j, .inl k] : List Key) then (kv.1, v) else kv) := by
      intro kd
      induction kd with
      | nil => intro kvs h; cases h; rfl
      | cons p r ih =>
        obtain ⟨⟨i, l⟩, d0⟩ := p
        intro kvs h
        obtain ⟨x, r', rfl, h1, h2⟩ := h
        simp only [List.map_cons]
        by_cases e : (i, l) = (j, k)
        · rw [if_pos e, if_pos ((eqk i l).mpr e)]
          exact ⟨v, _, rfl, hv, ih h2⟩
        · rw [if_neg e, if_neg (fun z => e ((eqk i l).mp z))]
          exact ⟨x, _, rfl, h1, ih h2⟩
    exact mp h
  · have ap : ∀ {kd : List ((Int × Int) × D)} {kvs : List (List Key × V)}, holdT K B kd kvs → holdT K B (kd ++ [((j, k), d)]) (kvs ++ [([.inl j, .inl k], v)]) := by
      intro kd
      induction kd with
      | nil => intro kvs h; cases h; exact ⟨v, [], rfl, hv, rfl⟩
      | cons p r ih =>
        obtain ⟨⟨i, l⟩, d0⟩ := p
        intro kvs h
        obtain ⟨x, r', rfl, h1, h2⟩ := h
        exact ⟨x, _, rfl, h1, ih h2⟩
    exact ap h
/-- a name's own top is written, what is new in it known -/
theorem top_core {ks : Nat → Kind} {pin : Nat → Option V} {B H : Hp} {σ : L2.St} {ρ : Env} {F : Nat → List Addr} {k : Kind} {d : D} {v : V} {f : List Addr} (sta : Sta C ks pin B H σ ρ F) (hnb : ∀ j, (ks j).borrowed = false) (has : Has C B H F k d v f) {i : Nat} {d0 : D}
    (hk : ks i = .top) (hl : k.le .sh = true) (e0 : gt ρ i = some d0) (hd : scV d0 = none) :
    ∃ p, σ[i]? = some (some (.ref p)) ∧ topAt C.K (join B H f) H p d0 ∧ hold C.K (join B H f) d v ∧ ∀ d' o, NoTab o → (∀ Hx : Hp, Hx p = some o → topAt C.K (join B H f) Hx p d') → ∃ B' F', Step B H (fun a => FP F a ∨ a ∈ f) B' (upd H p o) (FP F') ∧ Sta C ks pin B' (upd H p o) σ (st ρ i (some d')) F' := by
  obtain ⟨v0, hv, r⟩ := sta.rep i _ e0
  rw [hk] at r
  rcases r with r | ⟨p, rfl, ef, t⟩
  · rw [hd] at r; cases r.1
  have mp : p ∈ F i := by rw [ef]; exact List.mem_singleton.mpr rfl
  have staJ := sta.absorb has.at has.dj has.nB
  refine ⟨p, hv, topAt_keep t (.of fun a o e _ => join_ext has.nB a o e) (fun _ e _ => e), has.open_ hl, fun d' o ho w => ?_⟩
  have sp := staJ.put hnb (o := o) (d := d') (g := [p]) e0 mp hv (by rw [hk]; exact .inr ⟨p, rfl, rfl, w _ upd_same⟩) (fun a m => .inr (by rw [ef]; exact m)) (fun a m => by rw [List.mem_singleton.mp m]; exact staJ.nB i p mp) ho
  refine ⟨_, _, ⟨join_ext has.nB, fun a o e n _ => put_up e fun z => n (.inl ⟨i, z ▸ mp⟩), fun a h => ?_, fun a z => .inl (.inl ((setF_fp z).elim (fun q => q) fun m => by rw [List.mem_singleton.mp m]; exact ⟨i, mp⟩)), fun a h => ?_⟩, sp⟩
  · by_cases e : a = p
    · rw [e, upd_same]; simp
    · rw [upd_ne e]; exact h
  · by_cases m : a ∈ f
    · exact .inr (.inl (.inr m))
    · rw [join_out m] at h; exact .inl h
theorem holdT_length {K : PySem.W.Frag} {B : Hp} : ∀ {ds : List ((Int × Int) × D)} {xs : List (List Key × V)}, holdT K B ds xs → ds.length = xs.length
  | [], _, h => by simp only [holdT] at h; subst h; rfl
  | ((i, j), d) :: ds, _, h => by
    simp only [holdT] at h
    obtain ⟨x, r, e1, _, e3⟩ := h
    subst e1
    simp only [List.length_cons, holdT_length e3]
theorem snd_setk (so : SigOk C sg) (i : Nat) (a e : IE) : SndS C sg (.setk i a e) := by
  intro ks hnb pin pn hpn rk W B H σ ρ F E hk sta h
  have hkk : ∃ ka k, kE sg true ks a = some ka ∧ kE sg true ks e = some k ∧ ks i = .top ∧ k.le .sh = true := by
    simp only [kS] at hk
    split at hk
    · rename_i e0 e1 e2; exact ⟨_, _, e0, e1, e2, hk⟩
    · cases hk
  obtain ⟨ka, k, hk0, hk1, hk2, hk3⟩ := hkk
  have knb : k.borrowed = false := by cases k <;> simp_all [Kind.le, Kind.borrowed]
  simp only [evS] at h
  refine stm_e (E := E) (rk := rk) so hnb (g := fun d ρ1 => match gt ρ1 i with
     | some _ => match evE C.Φ a ρ1 with
      | .ok (.int k, ρ2) => match gt ρ2 i with
        | some (.dic ks) => if ks.length < lim then .nx (st ρ2 i (some (.dic (put ks k d)))) else .bad
        | _ => .bad
      | .ok _ => .bad | .exc c => .exc c | .bad => .bad
     | none => .bad) hk1 sta h fun d ρ1 v B1 H1 F1 f1 ev st1 sta1 has1 pu1 h2 => ?_
  have st1' := st1.less (P2 := FP F1) fun a z => .inl z
  try simp only at h2
  split at h2
  · rename_i dd0 ei
    obtain ⟨x, hx, _⟩ := sta1.rep i _ ei
    refine ⟨x, hx, ?_⟩
    refine stm_e (E := E) (rk := rk) so hnb (g := fun d0 ρ2 => match d0 with
        | .int k => match gt ρ2 i with
          | some (.dic ks) => if ks.length < lim then .nx (st ρ2 i (some (.dic (put ks k d)))) else .bad
          | _ => .bad
        | _ => .bad) hk0 sta1 (FinO.shift (F := F) (H := H) (B := B) ?_ st1') fun d0 ρ2 v0 B2 H2 F2 f2 ev2 st2 sta2 has2 pu2 h3 => ?_
    · cases ev2 : evE C.Φ a ρ1 with
      | ok q => obtain ⟨d0, ρ2⟩ := q; rw [ev2] at h2; cases d0 <;> exact h2
      | exc c => rw [ev2] at h2; exact h2
      | bad => rw [ev2] at h2; exact h2
    · obtain ⟨has1', _⟩ := has1.step st2 fun z => by rw [knb] at z; cases z
      cases d0 with
      | int k0 =>
        have g0 := vrep_hold sta2.sub has2.rep
        simp only [hold] at g0
        subst g0
        have h2' : FinO C ks pin B H F W rk (match gt ρ2 i with
          | some (.dic ks) => if ks.length < lim then .nx (st ρ2 i (some (.dic (put ks k0 d)))) else .bad
          | _ => .bad) E := by rw [ev2] at h2; exact h2
        split at h2'
        · rename_i kd e1
          split at h2'
          · rename_i hl
            obtain ⟨p, w1, ⟨kvs, t1, t2⟩, w3, w4⟩ := top_core sta2 hnb has1' hk2 hk3 e1 rfl
            obtain ⟨B', F', s1, s2⟩ := w4 (.dic (put kd k0 d)) (.dK (putK kvs (.inl k0) v)) nt_dK fun Hx e => ⟨_, e, put_hold w3 t2⟩
            rw [hx] at w1
            cases w1
            have tot : Step B H (FP F) B2 H2 (fun a => FP F2 a ∨ a ∈ f1) := (st1.row st2).less fun a z => z.imp (fun q => q) fun m => List.mem_append_left _ m
            exact ⟨p, _, rfl, DPut.k (k := .inl k0) t1 (by rw [← holdK_length t2]; exact limS hl), h2' _ _ _ _ (tot.trans s1) s2⟩
          · exact h2'.elim
        · exact h2'.elim
      | _ => exact h3.elim
  · exact h2.elim
theorem snd_setp (so : SigOk C sg) (i : Nat) (a e : IE) : SndS C sg (.setp i a e) := by
  intro ks hnb pin pn hpn rk W B H σ ρ F E hk sta h
  have hkk : ∃ ka k, kE sg true ks a = some ka ∧ kE sg true ks e = some k ∧ ks i = .top ∧ k.le .sh = true := by
    simp only [kS] at hk
    split at hk
    · rename_i e0 e1 e2; exact ⟨_, _, e0, e1, e2, hk⟩
    · cases hk
  obtain ⟨ka, k, hk0, hk1, hk2, hk3⟩ := hkk
  have knb : k.borrowed = false := by cases k <;> simp_all [Kind.le, Kind.borrowed]
  simp only [evS] at h
  refine stm_e (E := E) (rk := rk) so hnb (g := fun d ρ1 => match gt ρ1 i with
     | some _ => match evE C.Φ a ρ1 with
      | .ok (.tup [.int j, .int k], ρ2) => match gt ρ2 i with
        | some (.dct ks) => if ks.length < lim then .nx (st ρ2 i (some (.dct (put ks (j, k) d)))) else .bad
        | _ => .bad
      | .ok _ => .bad | .exc c => .exc c | .bad => .bad
     | none => .bad) hk1 sta h fun d ρ1 v B1 H1 F1 f1 ev st1 sta1 has1 pu1 h2 => ?_
  have st1' := st1.less (P2 := FP F1) fun a z => .inl z
  try simp only at h2
  split at h2
  · rename_i dd0 ei
    obtain ⟨x, hx, _⟩ := sta1.rep i _ ei
    refine ⟨x, hx, ?_⟩
    refine stm_e (E := E) (rk := rk) so hnb (g := fun d0 ρ2 => match d0 with
        | .tup [.int j, .int k] => match gt ρ2 i with
          | some (.dct ks) => if ks.length < lim then .nx (st ρ2 i (some (.dct (put ks (j, k) d)))) else .bad
          | _ => .bad
        | _ => .bad) hk0 sta1 (FinO.shift (F := F) (H := H) (B := B) ?_ st1') fun d0 ρ2 v0 B2 H2 F2 f2 ev2 st2 sta2 has2 pu2 h3 => ?_
    · cases ev2 : evE C.Φ a ρ1 with
      | ok q =>
        obtain ⟨d0, ρ2⟩ := q
        rw [ev2] at h2
        simp only at h2 ⊢
        split at h2 <;> rename_i hq
        · cases hq; exact h2
        · exact h2.elim
        · cases hq
        · cases hq
      | exc c => rw [ev2] at h2; exact h2
      | bad => rw [ev2] at h2; exact h2
    · obtain ⟨has1', _⟩ := has1.step st2 fun z => by rw [knb] at z; cases z
      try simp only at h3
      split at h3
      · rename_i j0 k0
        have g0 := vrep_hold sta2.sub has2.rep
        obtain ⟨q, xs, rfl, g1, x1, r1, rfl, g2, x2, r2, rfl, g3, rfl⟩ := g0
        have g2 : x1 = .int j0 := g2
        have g3 : x2 = .int k0 := g3
        subst g2; subst g3
        have h2' : FinO C ks pin B H F W rk (match gt ρ2 i with
          | some (.dct ks) => if ks.length < lim then .nx (st ρ2 i (some (.dct (put ks (j0, k0) d)))) else .bad
          | _ => .bad) E := by rw [ev2] at h2; exact h2
        split at h2'
        · rename_i kd e1
          split at h2'
          · rename_i hl
            obtain ⟨p, w1, ⟨kvs, t1, t2⟩, w3, w4⟩ := top_core sta2 hnb has1' hk2 hk3 e1 rfl
            obtain ⟨B', F', s1, s2⟩ := w4 (.dct (put kd (j0, k0) d)) (.dT (putK kvs [.inl j0, .inl k0] v)) nt_dT fun Hx e => ⟨_, e, putT_hold w3 t2⟩
            rw [hx] at w1
            cases w1
            have tot : Step B H (FP F) B2 H2 (fun a => FP F2 a ∨ a ∈ f1) := (st1.row st2).less fun a z => z.imp (fun q => q) fun m => List.mem_append_left _ m
            exact ⟨p, _, rfl, DPut.t (k := [.inl j0, .inl k0]) t1 g1 (by rw [← holdT_length t2]; exact limS hl), h2' _ _ _ _ (tot.trans s1) s2⟩
          · exact h2'.elim
        · exact h2'.elim
      · exact h3.elim
  · exact h2.elim
end
end TW

namespace TW
open PySem L2
section
variable {C : Ctx} {sg : Nat → Sig}
theorem owns_item {H : Hp} : ∀ (n : Nat) {ds : List D} {xs : List V} {g : List Addr} {d0 : D}, owns H ds xs g → ds[n]? = some d0 → ∃ (x : V) (g1 g2 : List Addr), xs[n]? = some x ∧ own H d0 x g1 ∧ (∀ a ∈ g1, a ∈ g) ∧ (∀ a ∈ g2, a ∈ g) ∧ (∀ a ∈ g1, a ∉ g2) ∧
    ∀ (H' : Hp) (d' : D) (g' : List Addr), own H' d' x g' → (∀ a ∈ g2, ∀ o, H a = some o → Lay o → H' a = some o) → (∀ a ∈ g2, a ∉ g') → ∃ gn, owns H' (ds.set n d') xs gn ∧ ∀ a ∈ gn, a ∈ g' ∨ a ∈ g2
  | _, [], _, _, _, _, e => by simp at e
  | 0, d :: ds, _, _, d0, h, e => by
    obtain ⟨x, r, g1, g2, rfl, rfl, h1, h2, dj⟩ := h
    simp at e; subst e
    refine ⟨x, g1, g2, rfl, h1, fun a m => List.mem_append_left _ m, fun a m => List.mem_append_right _ m, dj, fun H' d' g' o k n => ⟨g' ++ g2, ⟨x, r, g', g2, rfl, rfl, o, owns_keep _ _ _ h2 k, fun a m z => n a z m⟩, fun a m => List.mem_append.mp m⟩⟩
  | n + 1, d :: ds, _, _, d0, h, e => by
    obtain ⟨x, r, g1, g2, rfl, rfl, h1, h2, dj⟩ := h
    obtain ⟨y, f1, f2, e1, e2, e3, e4, e5, e6⟩ := owns_item n h2 (by simpa using e)
    refine ⟨y, f1, g1 ++ f2, by simpa using e1, e2, fun a m => List.mem_append_right _ (e3 a m), fun a m => ?_, fun a m z => ?_, fun H' d' g' o k nn => ?_⟩
    · rcases List.mem_append.mp m with m | m
      · exact List.mem_append_left _ m
      · exact List.mem_append_right _ (e4 a m)
    · rcases List.mem_append.mp z with z | z
      · exact dj a z (e3 a m)
      · exact e5 a m z
    · obtain ⟨gn, k1, k2⟩ := e6 H' d' g' o (fun a m => k a (List.mem_append_right _ m)) fun a m => nn a (List.mem_append_right _ m)
      refine ⟨g1 ++ gn, ⟨x, r, g1, gn, rfl, rfl, own_keep _ _ _ h1 fun a m => k a (List.mem_append_left _ m), k1, fun a m z => ?_⟩, fun a m => ?_⟩
      · rcases k2 a z with z | z
        · exact nn a (List.mem_append_left _ m) z
        · exact dj a m (e4 a z)
      · rcases List.mem_append.mp m with m | m
        · exact .inr (List.mem_append_left _ m)
        · exact (k2 a m).imp (fun q => q) (List.mem_append_right _)
/-- an item of an item of a name's own list is written -/
theorem set2_core {ks : Nat → Kind} {pin : Nat → Option V} {B H : Hp} {σ : L2.St} {ρ : Env} {F : Nat → List Addr} {k : Kind} {d : D} {v : V} {f : List Addr} (sta : Sta C ks pin B H σ ρ F) (hnb : ∀ j, (ks j).borrowed = false) (has : Has C B H F k d v f) {i n : Nat} {ds es : List D}
    (hk : ks i = .deep) (hl : k.le .deep = true) (e0 : gt ρ i = some (.lst ds)) (en : ds[n]? = some (.lst es)) :
    ∃ p xs q ys, σ[i]? = some (some (.ref p)) ∧ H p = some (.lst xs) ∧ ds.length = xs.length ∧ xs[n]? = some (.ref q) ∧ H q = some (.lst ys) ∧ es.length = ys.length ∧
      ∀ m, ∃ B' F', Step B H (fun a => FP F a ∨ a ∈ f) B' (upd H q (.lst (ys.set m v))) (FP F') ∧ Sta C ks pin B' (upd H q (.lst (ys.set m v))) σ (st ρ i (some (.lst (ds.set n (.lst (es.set m d)))))) F' := by
  obtain ⟨v0, hv, r⟩ := sta.rep i _ e0
  rw [hk] at r
  obtain ⟨p, xs, g, rfl, ef, t1, t2, t3⟩ := r
  have mp : p ∈ F i := by rw [ef]; exact List.mem_cons_self
  have mg : ∀ a ∈ g, a ∈ F i := fun a m => by rw [ef]; exact List.mem_cons_of_mem _ m
  have hd : own H d v f := by
    have q := has.rep
    cases k <;> simp only [Kind.le, Bool.false_eq_true] at hl
    · rw [q.2]; exact own_sc q.1
    · exact q
  obtain ⟨x, g1, g2, x1, x2, x3, x4, x5, x6⟩ := owns_item n t3 en
  obtain ⟨q, ys, h1, rfl, rfl, y1, y2, y3⟩ := x2
  have mq : q ∈ g := x3 q List.mem_cons_self
  have mh : ∀ a ∈ h1, a ∈ g := fun a m => x3 a (List.mem_cons_of_mem _ m)
  have off : ∀ a, a ∈ F i → a ∉ f := fun a m z => has.dj a z ⟨i, m⟩
  have pq : p ≠ q := fun z => t2 (z ▸ mq)
  refine ⟨p, xs, q, ys, hv, t1, owns_length t3, x1, y1, owns_length y3, fun m => ?_⟩
  obtain ⟨h', w1, w2⟩ := (Wr.set (ds := es) (xs := ys) (d := d) (v := v) m).own (upd H q (.lst (ys.set m v))) h1 f (owns_keep _ _ _ y3 fun a m o e _ => put_up e fun z => y2 (z ▸ m)) (own_keep _ _ _ hd fun a m o e _ => put_up e fun z => off q (mg q mq) (z ▸ m)) fun a m => off a (mg a (mh a m))
  have qh : q ∉ h' := fun z => (w2 q z).elim y2 (off q (mg q mq))
  have qg2 : q ∉ g2 := x5 q List.mem_cons_self
  obtain ⟨gn, k1, k2⟩ := x6 (upd H q (.lst (ys.set m v))) (.lst (es.set m d)) (q :: h') ⟨q, _, h', rfl, rfl, upd_same, qh, w1⟩ (fun a m o e _ => put_up e fun z => qg2 (z ▸ m)) fun a m z => by
    rcases List.mem_cons.mp z with z | z
    · exact qg2 (z ▸ m)
    · rcases w2 a z with z | z
      · exact x5 a (List.mem_cons_of_mem _ z) m
      · exact off a (mg a (x4 a m)) z
  have sub : ∀ a ∈ gn, a ∈ g ∨ a ∈ f := fun a m => by
    rcases k2 a m with z | z
    · rcases List.mem_cons.mp z with z | z
      · exact .inl (z ▸ mq)
      · exact (w2 a z).imp (mh a) fun q => q
    · exact .inl (x4 a z)
  have pgn : p ∉ gn := fun z => (sub p z).elim t2 (off p mp)
  have sp := sta.put hnb (p := q) (o := .lst (ys.set m v)) (d := .lst (ds.set n (.lst (es.set m d)))) (g := p :: gn) e0 (mg q mq) hv (by rw [hk]; exact ⟨p, xs, gn, rfl, rfl, put_up t1 pq, pgn, k1⟩)
    (fun a m => (List.mem_cons.mp m).elim (fun e => .inr (by rw [e]; exact mp)) fun m => (sub a m).elim (fun m => .inr (mg a m)) fun m => .inl (has.dj a m))
    (fun a m => (List.mem_cons.mp m).elim (fun e => by rw [e]; exact sta.nB i p mp) fun m => (sub a m).elim (fun m => sta.nB i a (mg a m)) fun m => has.nB a m) nt_lst
  refine ⟨_, _, ⟨fun _ _ e => e, fun a o e n _ => put_up e fun z => n (.inl ⟨i, z ▸ mg q mq⟩), fun a h => ?_, fun a z => .inl ((setF_fp z).elim .inl fun m => ?_), fun a h => .inl h⟩, sp⟩
  · by_cases e : a = q
    · rw [e, upd_same]; simp
    · rw [upd_ne e]; exact h
  · exact (List.mem_cons.mp m).elim (fun e => .inl (by rw [e]; exact ⟨i, mp⟩)) fun m => (sub a m).imp (fun m => ⟨i, mg a m⟩) fun m => m
theorem nth_ix {α : Type} {ds : List α} {k : Int} {d : α} (h : nth ds k = some d) : ∃ n, ixAt ds.length k = some n ∧ ds[n]? = some d := by
  unfold nth at h
  rw [Option.bind_eq_some_iff] at h
  exact h
theorem snd_set2 (so : SigOk C sg) (i : Nat) (a b e : IE) : SndS C sg (.set2 i a b e) := by
  intro ks hnb pin pn hpn rk W B H σ ρ F E hk sta h
  have hkk : ∃ ka kb k, kE sg true ks a = some ka ∧ kE sg true ks b = some kb ∧ kE sg true ks e = some k ∧ ks i = .deep ∧ k.le .deep = true ∧ pureE sg a = true ∧ pureE sg b = true := by
    simp only [kS] at hk
    split at hk
    · rename_i e0 e1 e2 e3
      simp only [Bool.and_eq_true] at hk
      exact ⟨_, _, _, e0, e1, e2, e3, hk.1.1, hk.1.2, hk.2⟩
    · cases hk
  obtain ⟨ka, kb, k, hka, hkb, hk1, hk2, hk3, pa, pb⟩ := hkk
  have knb : k.borrowed = false := by cases k <;> simp_all [Kind.le, Kind.borrowed]
  simp only [evS] at h
  refine stm_e (E := E) (rk := rk) so hnb (g := fun d ρ1 => match gt ρ1 i with
     | some _ => match evE C.Φ a ρ1 with
      | .ok (.int k, ρ2) => match gt ρ2 i with
        | some (.lst ds) => match nth ds k with
          | some (.lst _) => match evE C.Φ b ρ2 with
            | .ok (.int l, ρ3) => match gt ρ3 i with
              | some (.lst ds) => match ixAt ds.length k with
                | some n => match ds[n]? with
                  | some (.lst es) => match ixAt es.length l with
                    | some m => .nx (st ρ3 i (some (.lst (ds.set n (.lst (es.set m d))))))
                    | none => .bad
                  | _ => .bad
                | none => .bad
              | _ => .bad
            | .ok _ => .bad | .exc c => .exc c | .bad => .bad
          | _ => .bad
        | _ => .bad
      | .ok _ => .bad | .exc c => .exc c | .bad => .bad
     | none => .bad) hk1 sta h fun d ρ1 v B1 H1 F1 f1 ev st1 sta1 has1 pu1 h2 => ?_
  have st1' := st1.less (P2 := FP F1) fun a z => .inl z
  try simp only at h2
  split at h2
  · rename_i di ei
    obtain ⟨x, hx, _⟩ := sta1.rep i _ ei
    refine ⟨x, hx, ?_⟩
    refine sndE so a true ks (fun _ => hnb) pin W B1 H1 σ ρ1 F1 ka _ hka sta1 ?_
    cases ev2 : evE C.Φ a ρ1 with
    | bad => rw [ev2] at h2; exact h2
    | exc c => rw [ev2] at h2; exact fun H' x t => h2 σ H' (x.of st1) t
    | ok q =>
    obtain ⟨d0, ρ2⟩ := q
    rw [ev2] at h2
    intro v2 B2 H2 F2 f2 st2 sta2 has2 pu2
    cases d0 with
    | int k0 =>
      have g0 := vrep_hold sta2.sub has2.rep
      simp only [hold] at g0
      subst g0
      try simp only at h2
      split at h2
      · rename_i ds e1
        split at h2
        · rename_i es0 e2
          obtain ⟨v9, hv9, r9⟩ := sta2.rep i _ e1
          rw [hx] at hv9
          cases hv9
          have g9 := vrep_hold sta2.sub r9
          simp only [hold] at g9
          obtain ⟨p, xs, rfl, t1, t2⟩ := g9
          obtain ⟨w, w1, w2⟩ := nth_holds t2 e2
          simp only [hold] at w2
          obtain ⟨q0, ys0, rfl, y1, y2⟩ := w2
          refine ⟨p, xs, k0, .ref q0, rfl, rfl, .of t1, w1, ?_⟩
          have st12 : Step B H (FP F) B2 H2 (fun a => FP F2 a ∨ a ∈ f1) := (st1.row st2).less fun a z => z.imp (fun q => q) fun m => List.mem_append_left _ m
          obtain ⟨has1', _⟩ := has1.step st2 fun z => by rw [knb] at z; cases z
          refine sndE so b true ks (fun _ => hnb) pin W B2 H2 σ ρ2 F2 kb _ hkb sta2 ?_
          cases ev3 : evE C.Φ b ρ2 with
          | bad => rw [ev3] at h2; exact h2
          | exc c => rw [ev3] at h2; exact fun H' x t => h2 σ H' (x.of st12) t
          | ok q =>
          obtain ⟨d3, ρ3⟩ := q
          rw [ev3] at h2
          intro v3 B3 H3 F3 f3 st3 sta3 has3 pu3
          obtain ⟨has1'', _⟩ := has1'.step st3 fun z => by rw [knb] at z; cases z
          have up3 := (pu3 pb).1
          cases d3 with
          | int l0 =>
            have g3 := vrep_hold sta3.sub has3.rep
            simp only [hold] at g3
            subst g3
            try simp only at h2
            split at h2
            · rename_i ds3 e3
              split at h2
              · rename_i n en
                split at h2
                · rename_i es e4
                  split at h2
                  · rename_i m em
                    obtain ⟨p', xs', q', ys', z1, z2, z3, z4, z5, z6, z7⟩ := set2_core sta3 hnb has1'' hk2 hk3 e3 e4
                    rw [hx] at z1
                    cases z1
                    have z2' := up3 _ _ t1 nt_lst
                    rw [z2] at z2'
                    cases z2'
                    have eqq : (V.ref q0) = .ref q' := by
                      unfold atI at w1
                      rw [← z3, show ixN ds3.length k0 = some n from en] at w1
                      have w1 : xs[n]? = some (V.ref q0) := w1
                      rw [z4] at w1
                      exact (Option.some.inj w1).symm
                    cases eqq
                    obtain ⟨B', F', s1, s2⟩ := z7 m
                    have st123 : Step B H (FP F) B3 H3 (fun a => FP F3 a ∨ a ∈ f1) := (st12.row st3).less fun a z => z.imp (fun q => q) fun m => List.mem_append_left _ m
                    exact ⟨q0, ys', l0, m, rfl, rfl, z5, by rw [← z6]; exact em, h2 _ _ _ _ (st123.trans s1) s2⟩
                  · exact h2.elim
                · exact h2.elim
              · exact h2.elim
            · exact h2.elim
          | _ => exact h2.elim
        · exact h2.elim
      · exact h2.elim
    | _ => exact h2.elim
  · exact h2.elim
theorem snd_augi (so : SigOk C sg) (i : Nat) (a : IE) (o : Op2) (e : IE) : SndS C sg (.augi i a o e) := by
  intro ks hnb pin pn hpn rk W B H σ ρ F E hk sta h
  have hkk : ∃ ka k, kE sg true ks a = some ka ∧ kE sg true ks e = some k ∧ ((ks i = .top ∧ Kind.le .im .sh = true) ∨ (ks i = .deep ∧ Kind.le .im .deep = true)) ∧ pureE sg e = true ∧ (o == .addI || o == .subI) = true := by
    simp only [kS] at hk
    split at hk
    · rename_i e0 e1 e2
      simp only [Bool.and_eq_true] at hk
      exact ⟨_, _, e0, e1, .inl ⟨e2, rfl⟩, hk.1, hk.2⟩
    · rename_i e0 e1 e2
      simp only [Bool.and_eq_true] at hk
      exact ⟨_, _, e0, e1, .inr ⟨e2, rfl⟩, hk.1, hk.2⟩
    · cases hk
  obtain ⟨ka, k, hka, hk1, hk2, pe, ho⟩ := hkk
  simp only [evS] at h
  split at h
  · rename_i di ei
    obtain ⟨x, hx, _⟩ := sta.rep i _ ei
    refine ⟨x, hx, ?_⟩
    refine sndE so a true ks (fun _ => hnb) pin W B H σ ρ F ka _ hka sta ?_
    cases ev2 : evE C.Φ a ρ with
    | bad => rw [ev2] at h; exact h
    | exc c => rw [ev2] at h; exact fun H' x t => h σ H' x t
    | ok q =>
    obtain ⟨d0, ρ2⟩ := q
    rw [ev2] at h
    intro v2 B2 H2 F2 f2 st2 sta2 has2 pu2
    have st2' := st2.less (P2 := FP F2) fun a z => .inl z
    have st2n := st2.less (P2 := fun a => FP F2 a ∨ a ∈ []) fun a z => z.elim .inl fun m => by cases m
    cases d0 with
    | int k0 =>
      have g0 := vrep_hold sta2.sub has2.rep
      simp only [hold] at g0
      subst g0
      try simp only at h
      split at h
      · rename_i ds e1
        split at h
        · rename_i x0 e2
          obtain ⟨v9, hv9, r9⟩ := sta2.rep i _ e1
          rw [hx] at hv9
          cases hv9
          have g9 := vrep_hold sta2.sub r9
          simp only [hold] at g9
          obtain ⟨p, xs, rfl, t1, t2⟩ := g9
          obtain ⟨w, w1, w2⟩ := nth_holds t2 e2
          refine ⟨p, xs, k0, w, rfl, rfl, .of t1, w1, ?_⟩
          refine sndE so e true ks (fun _ => hnb) pin W B2 H2 σ ρ2 F2 k _ hk1 sta2 ?_
          cases ev3 : evE C.Φ e ρ2 with
          | bad => rw [ev3] at h; exact h
          | exc c => rw [ev3] at h; exact fun H' x t => h σ H' (x.of st2n) t
          | ok q =>
          obtain ⟨y0, ρ3⟩ := q
          rw [ev3] at h
          intro v3 B3 H3 F3 f3 st3 sta3 has3 pu3
          try simp only at h
          cases er : o.run x0 y0 with
          | bad => rw [er] at h; exact h.elim
          | exc c => exact absurd er ip_exc
          | ok z =>
          rw [er] at h
          obtain ⟨m, n, l, rfl, rfl, rfl, q⟩ := ip_run (ip_ops ho) er
          have gy := vrep_hold sta3.sub has3.rep
          simp only [hold] at w2 gy
          subst w2; subst gy
          refine q H3 _ ?_
          try simp only at h
          split at h
          · rename_i ds3 e3
            split at h
            · rename_i r er2
              unfold setAt at er2
              rw [Option.map_eq_some_iff] at er2
              obtain ⟨n1, en, rfl⟩ := er2
              obtain ⟨p', ys, z1, z2, z3, z4⟩ := write_core sta3 hnb (Has.int (C := C) (B := B3) (H := H3) (F := F3) (i := l)) hk2 e3
              obtain ⟨B', F', s1, s2⟩ := z4 _ _ (.set n1)
              rw [hx] at z1
              cases z1
              have tot : Step B H (FP F) B3 H3 (FP F3) := (st2n.row st3).less fun a z => .inl z
              exact ⟨p, ys, k0, n1, rfl, rfl, z2, by rw [← z3]; exact en, h _ _ _ _ (tot.trans (s1.more fun a z => z.elim (fun q => q) fun m => by cases m)) s2⟩
            · exact h.elim
          · exact h.elim
        · exact h.elim
      · exact h.elim
    | _ => exact h.elim
  · exact h.elim
end
end TW

namespace TW
open PySem L2
section
variable {C : Ctx} {sg : Nat → Sig}
theorem snd_whl (so : SigOk C sg) {c : IE} {b : ISs} (h1 : SndSs C sg b) : SndS C sg (.whl c b) := by
  intro ks hnb pin pn hpn rk W B H σ ρ F E hk sta h
  simp only [kS, Bool.and_eq_true] at hk
  obtain ⟨k1, k2⟩ := hk
  obtain ⟨k, hk1⟩ := Option.isSome_iff_exists.mp k1
  simp only [evS] at h
  refine ⟨fun m σ' H' => ∃ ρ' B' F', Step B H (FP F) B' H' (FP F') ∧ Sta C ks pin B' H' σ' ρ' F' ∧ FinO C ks pin B' H' F' W rk (whlGo (evE C.Φ c) (evSs C.Φ b) m ρ') E, ⟨fuelW, ρ, B, F, Step.refl, sta, h⟩, ?_⟩
  rintro m σ0 H0 ⟨ρ0, B0, F0, st0, sta0, fin0⟩
  cases m with
  | zero => exact fin0.elim
  | succ m =>
    refine sndE so c true ks (fun _ => hnb) pin W B0 H0 σ0 ρ0 F0 k _ hk1 sta0 ?_
    simp only [whlGo] at fin0
    cases ev : evE C.Φ c ρ0 with
    | bad => rw [ev] at fin0; exact fin0
    | exc c => rw [ev] at fin0; exact fun H' x t => fin0 σ0 H' x t
    | ok q =>
    obtain ⟨d, ρ1⟩ := q
    rw [ev] at fin0
    intro v B1 H1 F1 f st1 sta1 has1 pu1
    have g := vrep_hold sta1.sub has1.rep
    have st1' := st1.less (P2 := FP F1) fun a z => .inl z
    cases d with
    | bl x =>
      simp only [hold] at g
      refine ⟨x, g, ?_⟩
      cases x with
      | false => show E.nx σ0 H1; exact fin0 _ _ _ _ st1' sta1
      | true =>
        refine ⟨_, fun σ' H' z => ⟨m, Nat.lt_succ_self m, z⟩, ?_⟩
        refine h1 ks hnb pin pn hpn rk W B1 H1 σ0 ρ1 F1 _ k2 sta1 ?_
        have fin1 := FinO.shift fin0 st1'
        simp only at fin1
        cases eb : evSs C.Φ b ρ1 with
        | bad => rw [eb] at fin1; exact fin1
        | exc c => rw [eb] at fin1; exact fin1
        | rt d ρ2 => rw [eb] at fin1; exact fin1
        | nx ρ2 =>
          rw [eb] at fin1
          intro σ' B' H' F' st' sta'
          exact ⟨ρ2, B', F', st0.trans (st1'.trans st'), sta', FinO.shift fin1 st'⟩
    | _ => exact fin0.elim
/-- a for's loop -/
theorem for_loop {t : Tg} {body : ISs} (hb : SndSs C sg body) {ks : Nat → Kind} (hnb : ∀ j, (ks j).borrowed = false) {pin : Nat → Option V} {pn : Nat → Bool} (hpn : ∀ j, pn j = false → pin j = none) {rk : Kind} {W : WX} {B H : Hp} {σ : L2.St} {ρ : Env} {F : Nat → List Addr} {E : Ends} {ds : List D} {J : It} {G : Hp → Prop} {Y : Nat → Hp → V → Hp → Prop}
    (hk : kSs sg ks pn rk body = true) (sta : Sta C ks pin B H σ ρ F) (so : SrcOk C .sh B H ds J G Y true) (hn : ∀ i ∈ t.names, ks i = .sh ∧ pn i = false)
    (h : FinO C ks pin B H F W rk (forGo t.put (evSs C.Φ body) ds ρ) E) :
    ∃ W' : Nat → Nat → L2.St → Hp → Prop, (∃ m, W' 0 m σ H) ∧ ∀ i m σ H, W' i m σ H →
      (J.stop i H ∧ E.nx σ H) ∨ (J.go i H ∧ ∃ N : L2.St → Hp → Prop, (∀ σ' H', N σ' H' → ∃ m', m' < m ∧ W' (i + 1) m' σ' H') ∧ ∀ x H', J.yld i H x H' → rdTg C.K t x σ H' fun σ2 H2 => rdSs C body W { E with nx := N, ct := N, bk := E.nx } σ2 H2) := by
  refine for_it so.w (fun i σ' H' => ∃ ρ' B' F', Step B H (FP F) B' H' (FP F') ∧ Sta C ks pin B' H' σ' ρ' F' ∧ FinO C ks pin B' H' F' W rk (forGo t.put (evSs C.Φ body) (ds.drop i) ρ') E) ⟨ρ, B, F, Step.refl, sta, h⟩ ?_ ?_ ?_
  · rintro i σ' H' _ ⟨ρ', B', F', st', sta', _⟩
    exact so.g2 rfl H' fun a o e => sta'.sub a o (st'.ex a o e)
  · rintro i x σ1 H1 H1' hi ⟨ρ1, B1, F1, st1, sta1, fin1⟩ y
    obtain ⟨rfl, d, hd, hx⟩ := so.it i _ x _ hi y
    have edr : ds.drop i = d :: ds.drop (i + 1) := by
      rw [List.drop_eq_getElem_cons hi]
      rw [List.getElem?_eq_getElem hi] at hd
      rw [Option.some.inj hd]
    rw [edr] at fin1
    simp only [forGo] at fin1
    cases ep : t.put d ρ1 with
    | none => rw [ep] at fin1; exact fin1.elim
    | some ρ2 =>
    rw [ep] at fin1
    simp only at fin1
    refine tg_ok (.inl rfl) sta1 (show hold C.K (hB .sh B1 H1') d x from hold_mono (.of fun a o e _ => st1.ex a o e) _ _ hx) (fun j m => (hn j m).1) (fun j m => hpn j (hn j m).2) ep fun σ2 F2 sta2 f2 _ _ => ?_
    refine hb ks hnb pin pn hpn rk W B1 H1' σ2 ρ2 F2 _ hk sta2 ?_
    have s2 : Step B1 H1' (FP F1) B1 H1' (FP F2) := Step.refl.less f2
    have fin2 := FinO.shift fin1 s2
    cases eb : evSs C.Φ body ρ2 with
    | bad => rw [eb] at fin2; exact fin2
    | exc c => rw [eb] at fin2; exact fin2
    | rt d ρ3 => rw [eb] at fin2; exact fin2
    | nx ρ3 =>
      rw [eb] at fin2
      intro σ' B' H' F' st' sta'
      exact ⟨ρ3, B', F', st1.trans (s2.trans st'), sta', FinO.shift fin2 st'⟩
  · rintro σ1 H1 ⟨ρ1, B1, F1, st1, sta1, fin1⟩
    rw [List.drop_length] at fin1
    exact fin1 _ _ _ _ Step.refl sta1
theorem snd_for (so : SigOk C sg) {k : Sk} {a b c : IE} {t : Tg} {body : ISs} (hb : SndSs C sg body) : SndS C sg (.for k a b c t body) := by
  intro ks hnb pin pn hpn rk W B H σ ρ F E hk sta h
  simp only [kS] at hk
  split at hk <;> try (simp only [Bool.false_eq_true] at hk)
  rename_i ka kb kc e1 e2 e3
  simp only [Bool.and_eq_true] at hk
  obtain ⟨⟨⟨⟨⟨c1, c2⟩, c3⟩, c4⟩, c5⟩, c6⟩ := hk
  have hn : ∀ i ∈ t.names, ks i = .sh ∧ pn i = false := fun i m => by
    have := List.all_eq_true.mp c4 i m
    simpa using this
  simp only [evS] at h
  by_cases np : k.pure = true
  · have el : ∀ u : TS, lockIfS k u = u := fun u => by cases k <;> simp_all [lockIfS, Sk.pure]
    have ek : k.ks ks = ks := by cases k <;> simp_all [Sk.ks, Sk.pure]
    have eo : ∀ ρ, k.out ρ = ρ := fun ρ => by cases k <;> simp_all [Sk.out, Sk.pure]
    have es : k.src ka = .sh := by cases k <;> cases ka <;> simp_all [Sk.src, Sk.pure, Sk.okS, Kind.kid]
    rw [ek] at c6
    simp only [rdS]
    rw [el]
    refine snd_src (W := W) (sndE so a) (sndE so b) (sndE so c) (nb := true) (fun _ => hnb) e1 e2 e3 c1 np sta ?_
    cases er : srcRes k (evE C.Φ a ρ) (evE C.Φ b) (evE C.Φ c) with
    | bad => rw [er] at h; exact h
    | exc c => rw [er] at h; exact fun H' x t => h σ H' x t
    | ok q =>
    obtain ⟨ds, ρ3⟩ := q
    rw [er] at h
    simp only [eo, np, if_true] at h
    have h' : FinO C ks pin B H F W rk (forGo t.put (evSs C.Φ body) ds ρ3) E := by
      cases eg : forGo t.put (evSs C.Φ body) ds ρ3 <;> (rw [eg] at h; exact h)
    intro J G Y B3 H3 F3 st3 sta3 pu3 so3
    rw [es, c3] at so3
    exact for_loop hb hnb hpn c6 sta3 so3 hn (FinO.shift h' st3)
  · cases k with
    | dic i =>
      simp only [Sk.dum, Bool.and_eq_true] at c1
      obtain ⟨⟨k1, k2⟩, k3⟩ := c1
      obtain ⟨da, rfl⟩ := isC_of k1
      obtain ⟨db, rfl⟩ := isC_of k2
      obtain ⟨dc, rfl⟩ := isC_of k3
      simp only [Sk.okD, Bool.and_eq_true, beq_iff_eq, Bool.not_eq_true'] at c2
      obtain ⟨d1, d2⟩ := c2
      simp only [evE, srcRes, srcOf, Sk.out] at h
      split at h
      · rename_i hsr
        split at hsr <;> simp only [reduceCtorEq, Res.ok.injEq, Prod.mk.injEq] at hsr
        rename_i hs2
        split at hs2 <;> simp only [reduceCtorEq, Option.some.injEq] at hs2
        rename_i kd e0
        obtain ⟨z1, z2⟩ := hsr
        subst z2
        subst hs2
        subst z1
        obtain ⟨p0, kvs, w1, w2, w3, w4, w5, w6⟩ := sta.lock hnb d1 e0
        refine ⟨p0, .dK kvs, w2, by trivial, fun od => ?_⟩
        have staL := w6 od
        refine ⟨.ref p0, w1, p0, od, rfl, .inl ⟨kvs, upd_same, ?_⟩⟩
        have hB : holdK C.K (upd B p0 (.frz od (.dK kvs))) kd kvs := holdK_mono (.of fun a o e _ => put_up e fun z => by rw [z, w5] at e; cases e) _ _ w3
        have hnb' : ∀ j, ((Sk.dic i).ks ks j).borrowed = false := fun j => by
          show (setK ks [i] .sh j).borrowed = false
          unfold setK
          split
          · rfl
          · exact hnb j
        have nF : ¬ FP (outF F [i]) p0 := fun ⟨j, m⟩ => by
          by_cases e : j ∈ [i]
          · rw [outF_in e] at m; cases m
          · rw [outF_out e] at m
            exact e (List.mem_singleton.mpr (sta.dj j i p0 m w4))
        refine for_loop hb hnb' hpn c6 staL (keys_ok upd_same upd_same hB) (fun j m => ⟨?_, (hn j m).2⟩) ?_
        · show setK ks [i] .sh j = .sh
          unfold setK
          split
          · rfl
          · exact (hn j m).1
        · cases eg : forGo t.put (evSs C.Φ body) (kd.map fun k => .int k.1) ρ with
          | bad => rw [eg] at h; exact h
          | exc c =>
            rw [eg] at h
            refine fun σ' H' x tb => h σ' H' ⟨fun a o e n z => ?_, fun a e => ?_⟩ tb
            · have n' : a ≠ p0 := fun q => n ⟨i, q ▸ w4⟩
              exact x.1 a o (put_up e n') (fun q => n (outF_fp q)) z
            · refine x.2 a ?_
              by_cases n : a = p0
              · rw [n, upd_same]; simp
              · rw [upd_ne n]; exact e
          | rt d ρ4 =>
            rw [eg] at h
            simp only [Sk.pure, Bool.false_eq_true, if_false] at h
            exact h.elim
          | nx ρ4 =>
            rw [eg] at h
            intro σ' B' H' F' st' sta'
            have hf : H' p0 = some (.frz od (.dK kvs)) := st'.up _ _ upd_same nF nt_frz
            have hb' : B' p0 = some (.frz od (.dK kvs)) := st'.ex _ _ upd_same
            refine ⟨hf, ?_⟩
            have stU := Step.unlock (f := []) w4 w5 w2 (st'.less fun a z => z.elim (fun q => q) fun m => by cases m)
            exact h σ' _ _ _ (stU.less fun a z => .inl z) (sta'.unlock hnb hb')
      · rename_i hsr
        split at hsr <;> simp only [reduceCtorEq] at hsr
      · exact h.elim
    | _ => simp [Sk.pure] at np
theorem hold_of_sc {K : PySem.W.Frag} {B : Hp} {d : D} {v : V} (h : scV d = some v) : hold K B d v := by
  cases d <;> simp only [scV, Option.some.injEq, reduceCtorEq] at h <;> simp only [hold] <;> exact h.symm
theorem snd_forC (so : SigOk C sg) (a : IE) (t : Tg) (c : IE) (d : D) : SndS C sg (.forC a t c d) := by
  intro ks hnb pin pn hpn rk W B H σ ρ F E hk sta h
  simp only [kS] at hk
  split at hk <;> try (simp only [Bool.false_eq_true] at hk)
  rename_i ka kc e1 e2
  simp only [Bool.and_eq_true] at hk
  obtain ⟨⟨⟨⟨c1, c2⟩, c3⟩, c4⟩, c5⟩ := hk
  have hn : ∀ i ∈ t.names, ks i = .sh ∧ pn i = false := fun i m => by
    have := List.all_eq_true.mp c3 i m
    simpa using this
  simp only [evS] at h
  simp only [rdS]
  refine snd_src (W := W) (sndE so a) (sndE so (.cst .non)) (sndE so (.cst .non)) (k := .lst) (nb := true) (fun _ => hnb) e1 (kb := .im) (kc := .im) rfl rfl rfl rfl sta ?_
  cases er : srcRes .lst (evE C.Φ a ρ) (evE C.Φ (.cst .non)) (evE C.Φ (.cst .non)) with
  | bad => rw [er] at h; exact h
  | exc c => rw [er] at h; exact fun H' x t => h σ H' x t
  | ok q =>
  obtain ⟨ds, ρ3⟩ := q
  rw [er] at h
  simp only at h
  by_cases hsc : ds.all D.isSc = true
  rotate_left
  · rw [if_neg hsc] at h; exact h.elim
  rw [if_pos hsc] at h
  intro J G Y B3 H3 F3 st3 sta3 pu3 so3
  have h := FinO.shift h st3
  refine for_it so3.w (fun i σ' H' => ∃ ρ' B' F', Step B3 H3 (FP F3) B' H' (FP F') ∧ Up H3 H' ∧ Sta C ks pin B' H' σ' ρ' F' ∧ FinO C ks pin B' H' F' W rk (forGo t.put (chk (evE C.Φ c) d) (ds.drop i) ρ') E) ⟨ρ3, B3, F3, Step.refl, Up.refl H3, sta3, h⟩ ?_ ?_ ?_
  · rintro i σ' H' _ ⟨ρ', B', F', st', up', sta', _⟩
    exact so3.g1 H' up'
  · rintro i x σ1 H1 H1' hi ⟨ρ1, B1, F1, st1, up1, sta1, fin1⟩ y
    obtain ⟨rfl, d0, hd, hx⟩ := so3.it i _ x _ hi y
    have edr : ds.drop i = d0 :: ds.drop (i + 1) := by
      rw [List.drop_eq_getElem_cons hi]
      rw [List.getElem?_eq_getElem hi] at hd
      rw [Option.some.inj hd]
    have hs0 : d0.isSc = true := List.all_eq_true.mp hsc d0 (List.mem_of_getElem? hd)
    rw [edr] at fin1
    simp only [forGo] at fin1
    cases ep : t.put d0 ρ1 with
    | none => rw [ep] at fin1; exact fin1.elim
    | some ρ2 =>
    rw [ep] at fin1
    simp only at fin1
    refine tg_ok (.inl rfl) sta1 (show hold C.K (hB .sh B1 H1') d0 x from hold_of_sc (sc_of hx hs0)) (fun j m => (hn j m).1) (fun j m => hpn j (hn j m).2) ep fun σ2 F2 sta2 f2 _ _ => ?_
    have s2 : Step B1 H1' (FP F1) B1 H1' (FP F2) := Step.refl.less f2
    have fin2 := FinO.shift fin1 s2
    -- the look
    refine sndE so c true ks (fun _ => hnb) pin W B1 H1' σ2 ρ2 F2 kc _ e2 sta2 ?_
    cases ev : evE C.Φ c ρ2 with
    | bad => simp only [chk, ev] at fin2; exact fin2
    | exc c => simp only [chk, ev] at fin2; exact fun H' x t => fin2 σ2 H' x t
    | ok p =>
      obtain ⟨d1, ρ4⟩ := p
      intro v B4 H4 F4 f4 st4 sta4 has4 pu4
      obtain ⟨up4, ef4⟩ := pu4 c5
      have g := vrep_hold sta4.sub has4.rep
      have stx := st4.less (P2 := FP F4) fun a z => .inl z
      cases d1 with
      | bl b =>
        simp only [hold] at g
        refine ⟨b, g, ?_⟩
        cases b with
        | true =>
          simp only [chk, ev] at fin2
          have fin3 := FinO.shift fin2 stx
          cases hd' : scV d with
          | none => cases d <;> simp [scV, D.isSc] at hd' c1
          | some w =>
            refine ⟨w, hd', ?_⟩
            refine fin3 w _ B4 H4 F4 [] (Step.id rfl) sta4 ⟨?_, nomem, nomem⟩
            have r0 : vrep C.K .im B4 H4 d w [] := ⟨hd', rfl⟩
            cases rk <;> first
              | exact r0
              | exact ⟨hold_of_sc hd', rfl⟩
              | exact .inl ⟨hd', rfl⟩
              | exact own_sc hd'
              | exact absurd c2 (by decide)
        | false =>
          simp only [chk, ev] at fin2
          exact ⟨ρ4, B4, F4, st1.trans (s2.trans stx), fun a o e n => up4 a o (up1 a o e n) n, sta4, FinO.shift fin2 stx⟩
      | _ => simp only [chk, ev] at fin2; exact fin2.elim
  · rintro σ1 H1 ⟨ρ1, B1, F1, st1, up1, sta1, fin1⟩
    rw [List.drop_length] at fin1
    exact fin1 _ _ _ _ Step.refl sta1
mutual
theorem sndS (so : SigOk C sg) : ∀ s : IS, SndS C sg s
  | .asg t e => snd_asg so t e
  | .aug i o e => snd_aug so i o e
  | .exp e => snd_exp so e
  | .app i e => snd_app so i e
  | .ins i a e => snd_ins so i a e
  | .clr i => snd_clr i
  | .seti i a e => snd_seti so i a e
  | .set2 i a b e => snd_set2 so i a b e
  | .augi i a o e => snd_augi so i a o e
  | .aug2 _ _ _ _ _ => by
    intro ks hnb pin pn hpn rk W B H σ ρ F E hk
    simp only [kS, Bool.false_eq_true] at hk
  | .setk i a e => snd_setk so i a e
  | .setp i a e => snd_setp so i a e
  | .ifs c a b => snd_ifs so (sndSs so a) (sndSs so b)
  | .whl c b => snd_whl so (sndSs so b)
  | .for k a b c t body => snd_for so (sndSs so body)
  | .ret e => snd_ret so e
  | .retN => snd_retN
  | .rai c => snd_rai c
  | .frz _ => by
    intro ks hnb pin pn hpn rk W B H σ ρ F E hk
    simp only [kS, Bool.false_eq_true] at hk
  | .forC a t c d => snd_forC so a t c d
theorem sndSs (so : SigOk C sg) : ∀ s : ISs, SndSs C sg s
  | .nil => snd_snil
  | .cons s r => snd_scons (sndS so s) (sndSs so r)
end
end
end TW

/-! ## defs -/
namespace TW
open PySem PySem.Spec PyProof.Rows L2
theorem has_non {C : Ctx} {B H : Hp} {F : Nat → List Addr} {rk : Kind} : Has C B H F rk .non .non [] := by
  refine ⟨?_, nomem, nomem⟩
  cases rk
  · exact ⟨rfl, rfl⟩
  · exact ⟨rfl, rfl⟩
  · exact .inl ⟨rfl, rfl⟩
  · exact own_sc rfl
  · exact .inl ⟨rfl, rfl⟩
  · exact ⟨rfl, rfl⟩
theorem gt_app : ∀ (ρ r : Env) (i : Nat), i < ρ.length → gt (ρ ++ r) i = gt ρ i
  | [], _, _, h => by simp at h
  | x :: ρ, r, 0, _ => rfl
  | x :: ρ, r, i + 1, h => gt_app ρ r i (by simpa using h)
theorem gt_none_app : ∀ (ρ : Env) (n i : Nat), ¬ i < ρ.length → gt (ρ ++ List.replicate n none) i = none
  | [], 0, i, _ => by simp [gt]
  | [], n + 1, 0, _ => rfl
  | [], n + 1, i + 1, _ => by
    have := gt_none_app [] n i (by simp)
    simpa [List.replicate_succ, gt] using this
  | x :: ρ, n, 0, h => by simp at h
  | x :: ρ, n, i + 1, h => gt_none_app ρ n i (by simpa using h)
theorem kb_all {l : List Kind} (h : (l.all fun k => !k.borrowed) = true) (j : Nat) : (kAt l j).borrowed = false := by
  unfold kAt
  rw [List.getD_eq_getElem?_getD]
  cases e : l[j]? with
  | none => rfl
  | some k =>
    have := List.all_eq_true.mp h k (List.mem_of_getElem? e)
    simpa using this
def WOf (E : XK) : WX := fun cls d _ H => E cls d H
/-- what a def's text reads as keeps the def's promise -/
theorem body_ok {C : Ctx} {sg : Nat → Sig} (so : SigOk C sg) {d : IDef} (ok : d.ok sg = true) {N : List Str} (hN : N.length = d.ns) {vs : List V} {H : Hp} {Q : VK} {E : XK} (h : spF C (semOf C.Φ d) vs H Q E) :
    rdSs C d.body (WOf E) { nx := fun _ H' => Q .non H', rt := Q } (L2.start N vs) H := by
  obtain ⟨ds, B, F, hl, hv, sta, hF, h⟩ := h
  have hl : ds.length = d.np := hl
  have hv : vs.length = d.np := hv
  unfold IDef.ok at ok
  simp only [Bool.and_eq_true, decide_eq_true_eq] at ok
  obtain ⟨⟨o1, o2⟩, o3⟩ := ok
  have hr : (semOf C.Φ d).run ds = (match evSs C.Φ d.body (start d.ns ds) with
    | .rt x ρ => .ok (x, if d.mut = true then [gt ρ 0] else [])
    | .nx ρ => .ok (.non, if d.mut = true then [gt ρ 0] else [])
    | .exc c => .exc c
    | .bad => .bad) := by
    simp only [semOf]
    exact if_pos hl
  rw [hr] at h
  have pinw : ∀ v, vs[0]? = some v → (L2.start N vs)[0]? = some (some v) := fun v e => by
    unfold L2.start
    have l0 : 0 < vs.length := (List.getElem?_eq_some_iff.mp e).1
    rw [List.getElem?_append_left (by simpa using l0), List.getElem?_map, e]; rfl
  have sta1 : Sta C (kAt d.ks) (fun j => if d.pn j = true then vs[0]? else none) B H (L2.start N vs) (start d.ns ds) F := by
    refine ⟨?_, sta.sub, sta.tab, fun i x e => ?_, fun i e => ?_, sta.dj, sta.nB, fun j v e => ?_⟩
    · unfold L2.start start
      simp only [List.length_append, List.length_map, List.length_replicate, hl, hv, hN]; omega
    · have li : i < (ds.map some).length := Classical.byContradiction fun z => by
        unfold start at e
        rw [gt_none_app _ _ _ z] at e; cases e
      unfold start at e
      rw [gt_app _ _ _ li] at e
      obtain ⟨v, v1, v2⟩ := sta.rep i x e
      refine ⟨v, ?_, v2⟩
      unfold L2.start
      rw [List.getElem?_append_left (by rw [List.length_map] at li ⊢; omega)]
      exact v1
    · refine sta.nf i ?_
      by_cases li : i < (ds.map some).length
      · unfold start at e
        rw [gt_app _ _ _ li] at e; exact e
      · have := gt_none_app (ds.map some) 0 i li
        simpa using this
    · split at e
      · rename_i hp
        unfold IDef.pn at hp
        simp only [Bool.and_eq_true, beq_iff_eq] at hp
        rw [hp.1]; exact pinw v e
      · cases e
  -- from the body's end to the caller
  have back : ∀ (x : D) (ρ' : Env) (v : V) (σ' : L2.St) (B' H' : Hp) (F' : Nat → List Addr) (f : List Addr), Step B H (FP F) B' H' (fun a => FP F' a ∨ a ∈ f) → Sta C (kAt d.ks) (fun j => if d.pn j = true then vs[0]? else none) B' H' σ' ρ' F' → Has C B' H' F' d.rk x v f →
      (∀ v B' H' F' f, Step B H (FP F) B' H' (fun a => FP F' a ∨ a ∈ f) → Sta C (kAt d.ks) (fun _ => none) B' H' (vs.map some) (if d.mut = true then [gt ρ' 0] else []) F' → Has C B' H' F' d.rk x v f → Q v H') → Q v H' := by
    intro x ρ' v σ' B' H' F' f st' sta' has' hq
    by_cases hm : d.mut = true
    · rw [if_pos hm] at hq
      have np : 0 < d.np := by
        unfold IDef.mut at hm
        simp only [Bool.and_eq_true, decide_eq_true_eq] at hm
        exact hm.1
      obtain ⟨v0, hv0⟩ : ∃ v0, vs[0]? = some v0 := ⟨vs[0]'(by omega), List.getElem?_eq_getElem (by omega)⟩
      have p0 := sta'.pin 0 v0 (by
        have : d.pn 0 = true := by unfold IDef.pn; rw [hm]; rfl
        rw [if_pos this]; exact hv0)
      have fz : ∀ a, FP (at0 (F' 0)) a → a ∈ F' 0 := fun a ⟨j, m⟩ => by
        by_cases z : j = 0
        · subst z; exact m
        · rw [at0_n z] at m; cases m
      refine hq v B' H' (at0 (F' 0)) f (st'.less fun a z => z.imp (fun q => ⟨0, fz a q⟩) fun m => m) ⟨by simp; omega, sta'.sub, sta'.tab, fun j e ej => ?_, fun j ej => ?_, fun j k a m m2 => ?_, fun j a m => ?_, fun _ _ z => by cases z⟩ ⟨has'.rep, fun a m z => has'.dj a m ⟨0, fz a z⟩, has'.nB⟩
      · cases j with
        | zero =>
          obtain ⟨w, w1, w2⟩ := sta'.rep 0 e ej
          rw [p0] at w1
          cases w1
          exact ⟨v0, by rw [List.getElem?_map, hv0]; rfl, w2⟩
        | succ j => simp [gt] at ej
      · by_cases z : j = 0
        · subst z; exact sta'.nf 0 ej
        · exact at0_n z
      · by_cases z : j = 0 <;> by_cases z2 : k = 0
        · rw [z, z2]
        · rw [at0_n z2] at m2; cases m2
        · rw [at0_n z] at m; cases m
        · rw [at0_n z] at m; cases m
      · by_cases z : j = 0
        · subst z; exact sta'.nB 0 a m
        · rw [at0_n z] at m; cases m
    · rw [if_neg hm] at hq
      exact hq v B' H' (fun _ => []) f (st'.less fun a z => z.imp (fun q => (noFP q).elim) fun m => m) ⟨by simp, sta'.sub, sta'.tab, (fun j e ej => by simp [gt] at ej), fun _ _ => rfl, (fun _ _ _ m => nomatch m), (fun _ _ m => nomatch m), (fun _ _ z => nomatch z)⟩ ⟨has'.rep, fun a m z => noFP z, has'.nB⟩
  refine sndSs so d.body (kAt d.ks) (kb_all o1) _ d.pn (fun j z => by rw [if_neg (by rw [z]; simp)]) d.rk (WOf E) B H _ (start d.ns ds) F _ o3 sta1 ?_
  cases ev : evSs C.Φ d.body (start d.ns ds) with
  | bad => rw [ev] at h; exact h
  | exc c => rw [ev] at h; exact fun σ' H' x t => h H' x t
  | nx ρ' =>
    rw [ev] at h
    exact fun σ' B' H' F' st' sta' => back .non ρ' .non σ' B' H' F' [] (st'.less fun a z => z.elim (fun q => q) fun m => by cases m) sta' has_non h
  | rt x ρ' =>
    rw [ev] at h
    exact fun v σ' B' H' F' f st' sta' has' => back x ρ' v σ' B' H' F' f st' sta' has' h
/-- a def keeps its promise: its text reads as its term -/
theorem fn_ok {P : Program} {w : World} {mg : Str → Option Value} {base : Heap} {C : Ctx} {sg : Nat → Sig} (so : SigOk C sg) {d : IDef} (ok : d.ok sg = true) {x qual : Str} {st : Stmt} {f : Addr} {fd : FuncData} {N ps : List Str} {k : Nat}
    (F : Fun C.K x qual st f fd) (S : FnScope N ps (defScope st)) (hN : N.length = d.ns) (hp : ps.length = d.np)
    (der : ∀ (cdv : Value) (A : Around) (outer : List PySem.Env) (s : Shared) (H : Hp) (E : XK), Room k (A.deeper (envOfC qual (defScope st) s.heap.objs.size f cdv)) →
      PSs (cxOf (L2.CX P w) P w C.K mg base N qual (defScope st) f cdv A outer s H E) (defBody st) (rdSs C d.body (WOf E))) : FnOk P w C.K mg base (L2.CX P w) (k + 1) f fd ps (spF C (semOf C.Φ d)) :=
  F.okX S (fun vs H Q E h => by obtain ⟨ds, B, F, hl, hv, _⟩ := h; rw [hp]; exact hv) fun cdv A outer s H vs Q E hr h => ⟨_, der cdv A outer s H E hr, body_ok so ok hN h⟩
/-- deeper than any call: nothing is promised -/
theorem fn_no {P : Program} {w : World} {mg : Str → Option Value} {base : Heap} {C : Ctx} {x qual : Str} {st : Stmt} {f : Addr} {fd : FuncData} {N ps : List Str} {k : Nat}
    (F : Fun C.K x qual st f fd) (S : FnScope N ps (defScope st)) : FnOk P w C.K mg base (L2.CX P w) (k + 1) f fd ps (spF C noSem) :=
  F.okX S (fun vs H Q E h => by obtain ⟨ds, B, F, _, _, _, _, h⟩ := h; exact h.elim) fun cdv A outer s H vs Q E hr h => by obtain ⟨ds, B, F, _, _, _, _, h⟩ := h; exact h.elim
end TW

/-! ## the texts' readings in the terms' words -/
namespace TW
open PySem PySem.Spec PyProof.Rows L2
/-- a context that reads as C says -/
structure Ok (X : Cx) (C : Ctx) : Prop where
  K : X.K = C.K
  calm : X.calm = true
  hu : X.A.units + 66 < cLine
section
variable {X : Cx} {C : Ctx} {W : WX} {pos p q : Pos}
theorem d_cst {d : D} {v : V} {e : Expr} (h : PE X e (tC v)) (hv : scV d = some v) : PE X e (rdE C (.cst d) W) :=
  ⟨fun pins s σ H Q I ⟨w, hw, q⟩ => h.run pins s σ H Q I (by rw [hv] at hw; cases hw; exact q)⟩
theorem d_int {i : Int} {j} : PE X (.Constant (.int i) j pos) (rdE C (.cst (.int i)) W) := d_cst pe_int rfl
theorem d_bl {b : Bool} {j} : PE X (.Constant (.bool b) j pos) (rdE C (.cst (.bl b)) W) := d_cst pe_bl rfl
theorem d_non {j} : PE X (.Constant .none j pos) (rdE C (.cst .non) W) := d_cst pe_non rfl
theorem d_str {x : Str} {j} : PE X (.Constant (.str x) j pos) (rdE C (.cst (.str x)) W) := d_cst pe_str rfl
theorem d_var {i : Nat} {x : Str} (h : PE X (.Name x pos) (tVar i)) : PE X (.Name x pos) (rdE C (.var i) W) := h
theorem d_mv {i : Nat} {x : Str} (h : PE X (.Name x pos) (tVar i)) : PE X (.Name x pos) (rdE C (.mv i) W) := h
theorem d_sc {e : Expr} {a : IE} (h : PE X e (rdE C a W)) : PE X e (rdE C (.op1 .sc a) W) := h
theorem d_scl {e : Expr} {a : IE} (h : PE X e (rdE C a W)) : PE X e (rdE C (.op1 .scl a) W) := h
theorem d_opq {e : Expr} {a : IE} (h : PE X e (rdE C a W)) : PE X e (rdE C (.op1 .opq a) W) := h
theorem d_bin {o : Op2} {op : Operator} {a b : Expr} {ia ib : IE} (ho : OpR X (binaryOp op) (r2 C.K o)) (ha : PE X a (rdE C ia W)) (hb : PE X b (rdE C ib W)) : PE X (.BinOp a op b pos) (rdE C (.op2 o ia ib) W) := pe_op ho ha hb
theorem d_cmp {o : Op2} {op : CmpOp} {a b : Expr} {ia ib : IE} (ho : OpR X (compareOp op) (r2 C.K o)) (ha : PE X a (rdE C ia W)) (hb : PE X b (rdE C ib W)) (hm : behindInMarks op b = false) : PE X (.Compare a [op] [b] pos) (rdE C (.op2 o ia ib) W) := pe_cmpR ho ha hb hm
theorem d_ix {o : Op2} {a b : Expr} {ia ib : IE} (ho : IxR X (r2 C.K o)) (ha : PE X a (rdE C ia W)) (hb : PE X b (rdE C ib W)) (hs : PlainIx b := by exact fun _ _ => rfl) : PE X (.Subscript a b pos) (rdE C (.op2 o ia ib) W) := pe_ix ho ha hb hs
theorem d_ixK {a b : Expr} {ia ib : IE} (ok : Ok X C) (ha : PE X a (rdE C ia W)) (hb : PE X b (rdE C ib W)) (hs : NoSl b) : PE X (.Subscript a b pos) (rdE C (.op2 .subK ia ib) W) := pe_dget (by have := ok.hu; omega) ha hb hs
theorem d_ixP {a b : Expr} {ia ib : IE} (ok : Ok X C) (ha : PE X a (rdE C ia W)) (hb : PE X b (rdE C ib W)) (hs : NoSl b) : PE X (.Subscript a b pos) (rdE C (.op2 .subP ia ib) W) := pe_dget (by have := ok.hu; omega) ha hb hs
theorem d_inK {a b : Expr} {ia ib : IE} (ok : Ok X C) (ha : PE X a (rdE C ia W)) (hb : PE X b (rdE C ib W)) (h1 : behindInMarks .In b = false) : PE X (.Compare a [.In] [b] pos) (rdE C (.op2 .inK ia ib) W) := pe_cmp (pc_din (by have := ok.hu; omega) ha hb) h1
theorem d_ninK {a b : Expr} {ia ib : IE} (ok : Ok X C) (ha : PE X a (rdE C ia W)) (hb : PE X b (rdE C ib W)) (h1 : behindInMarks .NotIn b = false) : PE X (.Compare a [.NotIn] [b] pos) (rdE C (.op2 .ninK ia ib) W) := pe_cmp (pc_dnotin (by have := ok.hu; omega) ha hb) h1
theorem d_not {a : Expr} {ia : IE} (ha : PE X a (rdE C ia W)) : PE X (.UnaryOp .Not a pos) (rdE C (.not ia) W) := pe_not ha
theorem d_neg {a : Expr} {ia : IE} (ha : PE X a (rdE C ia W)) : PE X (.UnaryOp .USub a pos) (rdE C (.op1 .neg ia) W) := pe_un un_neg ha
theorem d_and {a b : Expr} {rest : List Expr} {ia ib : IE} (ha : PE X a (rdE C ia W)) (hb : PE X (.BoolOp .And (b :: rest) pos) (rdE C ib W)) : PE X (.BoolOp .And (a :: b :: rest) pos) (rdE C (.and ia ib) W) := pe_and ha hb
theorem d_or {a b : Expr} {rest : List Expr} {ia ib : IE} (ha : PE X a (rdE C ia W)) (hb : PE X (.BoolOp .Or (b :: rest) pos) (rdE C ib W)) : PE X (.BoolOp .Or (a :: b :: rest) pos) (rdE C (.or ia ib) W) := pe_or ha hb
theorem d_one {op} {a : Expr} {ia : IE} (h : PE X a (rdE C ia W)) : PE X (.BoolOp op [a] pos) (rdE C ia W) := pe_one h
theorem d_nil : PA X [] (rdEs C .nil W) := pa_nil
theorem d_cons {e : Expr} {es : List Expr} {ie : IE} {ies : IEs} (he : PE X e (rdE C ie W)) (hs : PA X es (rdEs C ies W)) (hst : starEach (e :: es) X.env = (false, eval e X.env) :: starEach es X.env := by rfl) : PA X (e :: es) (rdEs C (.cons ie ies) W) := pa_cons he hs hst
theorem d_lst {es : List Expr} {ies : IEs} (h : PA X es (rdEs C ies W)) : PE X (.List es pos) (rdE C (.lst ies) W) := pe_lst h
theorem d_tup {es : List Expr} {ies : IEs} {k} (h : PA X es (rdEs C ies W)) : PE X (.Tuple es k pos) (rdE C (.tup ies) W) := pe_tup h
theorem d_dic0 : PE X (.Dict [] [] pos) (rdE C .dic0 W) := pe_dnewK
theorem d_dct0 : PE X (.Dict [] [] pos) (rdE C .dct0 W) := pe_dnewT
/-! operators by values -/
theorem o_add : OpR X (binaryOp .Add) (r2 C.K .addI) := op_add
theorem o_sub : OpR X (binaryOp .Sub) (r2 C.K .subI) := op_sub
theorem o_mul : OpR X (binaryOp .Mult) (r2 C.K .mulI) := op_mulX
theorem o_fdiv : OpR X (binaryOp .FloorDiv) (r2 C.K .fdiv) := op_fdivW
theorem o_mod : OpR X (binaryOp .Mod) (r2 C.K .mod) := op_mod
theorem o_pow : OpR X (binaryOp .Pow) (r2 C.K .pow) := op_pow
theorem o_cat : OpR X (binaryOp .Add) (r2 C.K .cat) := op_cat
theorem o_rep : OpR X (binaryOp .Mult) (r2 C.K .rep) := op_rep
theorem o_lt : OpR X (compareOp .Lt) (r2 C.K .lt) := op_lt
theorem o_le : OpR X (compareOp .LtE) (r2 C.K .le) := op_le
theorem o_gt : OpR X (compareOp .Gt) (r2 C.K .gt) := op_gt
theorem o_ge : OpR X (compareOp .GtE) (r2 C.K .ge) := op_ge
theorem o_eqI : OpR X (compareOp .Eq) (r2 C.K .eqI) := op_eq
theorem o_neI : OpR X (compareOp .NotEq) (r2 C.K .neI) := op_ne
theorem o_eqD (ok : Ok X C) : OpR X (compareOp .Eq) (r2 C.K .eqD) := by
  have h := op_eqD (X := X) (by have := ok.hu; omega)
  rw [ok.K] at h; exact h
theorem o_neD (ok : Ok X C) : OpR X (compareOp .NotEq) (r2 C.K .neD) := by
  have h := op_neD (X := X) (by have := ok.hu; omega)
  rw [ok.K] at h; exact h
theorem o_inL (ok : Ok X C) : OpR X (compareOp .In) (r2 C.K .inL) := by
  have h := op_in_seq (X := X)
  rw [ok.K] at h; exact h
theorem o_ninL (ok : Ok X C) : OpR X (compareOp .NotIn) (r2 C.K .ninL) := by
  have h := op_notIn_seq (X := X)
  rw [ok.K] at h; exact h
theorem o_inT (ok : Ok X C) : OpR X (compareOp .In) (r2 C.K .inT) := o_inL ok
theorem o_ninT (ok : Ok X C) : OpR X (compareOp .NotIn) (r2 C.K .ninT) := o_ninL ok
theorem o_inD (ok : Ok X C) : OpR X (compareOp .In) (r2 C.K .inD) := by
  have h := op_inD (X := X) (by have := ok.hu; omega)
  rw [ok.K] at h; exact h
theorem o_ninD (ok : Ok X C) : OpR X (compareOp .NotIn) (r2 C.K .ninD) := by
  have h := op_notInD (X := X) (by have := ok.hu; omega)
  rw [ok.K] at h; exact h
theorem x_lst (ok : Ok X C) : IxR X (r2 C.K .subL) := by
  have h := ix_list (X := X)
  rw [ok.K] at h; exact h
theorem x_tup (ok : Ok X C) : IxR X (r2 C.K .subT) := by
  have h := ix_tup (X := X)
  rw [ok.K] at h; exact h
/-! slices -/
theorem d_slcLo {a b : Expr} {ia ib : IE} {p2 : Pos} (ok : Ok X C) (ha : PE X a (rdE C ia W)) (hb : PE X b (rdE C ib W)) : PE X (.Subscript a (.Slice (some b) none none p2) pos) (rdE C (.op2 .slcLo ia ib) W) := by
  have h := pe_slice (pos := pos) (p2 := p2) (sl_list (X := X)) ha (po_some hb) po_none
  rw [ok.K] at h; exact h
theorem d_slcHi {a b : Expr} {ia ib : IE} {p2 : Pos} (ok : Ok X C) (ha : PE X a (rdE C ia W)) (hb : PE X b (rdE C ib W)) : PE X (.Subscript a (.Slice none (some b) none p2) pos) (rdE C (.op2 .slcHi ia ib) W) := by
  have h := pe_slice (pos := pos) (p2 := p2) (sl_list (X := X)) ha po_none (po_some hb)
  rw [ok.K] at h; exact h
theorem d_slc {a b c : Expr} {ia ib ic : IE} {p2 : Pos} (ok : Ok X C) (ha : PE X a (rdE C ia W)) (hb : PE X b (rdE C ib W)) (hc : PE X c (rdE C ic W)) : PE X (.Subscript a (.Slice (some b) (some c) none p2) pos) (rdE C (.slc ia ib ic) W) := by
  have h := pe_slice (pos := pos) (p2 := p2) (sl_list (X := X)) ha (po_some hb) (po_some hc)
  rw [ok.K] at h; exact h
theorem d_rev {e : Expr} {ie : IE} {k : Nat} {p1 p2 p3 : Pos} (ok : Ok X C) (he : PE X e (rdE C ie W)) : PE X (.Subscript e (.Slice none none (some (.UnaryOp .USub (.Constant (.int 1) k p1) p2)) p3) pos) (rdE C (.op1 .revL ie) W) := by
  have h := pe_revL (pos := pos) (k := k) (p1 := p1) (p2 := p2) (p3 := p3) he
  rw [ok.K] at h; exact h
/-! calls of what is built in -/
theorem d_len {a : Expr} {ia : IE} (ok : Ok X C) (hm : X.mg "len" = none) (ha : PE X a (rdE C ia W)) (hg : Gl X "len" := by rfl) (hs : starEach [a] X.env = (false, eval a X.env) :: starEach [] X.env := by rfl) : PE X (.Call (.Name "len" p) [a] [] pos) (rdE C (.op1 .len ia) W) := by
  have h := pe_callB (p := p) (pos := pos) (call_lenA (X := X)) hg hm boot_len (pa_cons ha pa_nil hs) (he := hs)
  rw [ok.K] at h
  exact h
theorem d_sum {a : Expr} {ia : IE} (ok : Ok X C) (hm : X.mg "sum" = none) (ha : PE X a (rdE C ia W)) (hg : Gl X "sum" := by rfl) (hs : starEach [a] X.env = (false, eval a X.env) :: starEach [] X.env := by rfl) : PE X (.Call (.Name "sum" p) [a] [] pos) (rdE C (.op1 .sumL ia) W) := by
  have h := pe_callB (p := p) (pos := pos) (cr_sum (X := X) ok.calm) hg hm boot_sum (pa_cons ha pa_nil hs) (he := hs)
  rw [ok.K] at h
  exact h
theorem d_max {a : Expr} {ia : IE} (ok : Ok X C) (hm : X.mg "max" = none) (ha : PE X a (rdE C ia W)) (hg : Gl X "max" := by rfl) (hs : starEach [a] X.env = (false, eval a X.env) :: starEach [] X.env := by rfl) : PE X (.Call (.Name "max" p) [a] [] pos) (rdE C (.op1 .maxL ia) W) := by
  have h := pe_callB (p := p) (pos := pos) (cr_max (X := X) ok.calm) hg hm boot_max (pa_cons ha pa_nil hs) (he := hs)
  rw [ok.K] at h
  exact h
theorem d_min {a : Expr} {ia : IE} (ok : Ok X C) (hm : X.mg "min" = none) (ha : PE X a (rdE C ia W)) (hg : Gl X "min" := by rfl) (hs : starEach [a] X.env = (false, eval a X.env) :: starEach [] X.env := by rfl) : PE X (.Call (.Name "min" p) [a] [] pos) (rdE C (.op1 .minL ia) W) := by
  have h := pe_callB (p := p) (pos := pos) (cr_min (X := X) ok.calm) hg hm boot_min (pa_cons ha pa_nil hs) (he := hs)
  rw [ok.K] at h
  exact h
theorem d_sorted {a : Expr} {ia : IE} (ok : Ok X C) (hm : X.mg "sorted" = none) (ha : PE X a (rdE C ia W)) (hg : Gl X "sorted" := by rfl) (hs : starEach [a] X.env = (false, eval a X.env) :: starEach [] X.env := by rfl) : PE X (.Call (.Name "sorted" p) [a] [] pos) (rdE C (.op1 .sortL ia) W) := by
  have h := pe_callB (p := p) (pos := pos) (cr_sortedI (X := X)) hg hm boot_sorted (pa_cons ha pa_nil hs) (he := hs)
  rw [ok.K] at h
  exact h
theorem d_all {a : Expr} {ia : IE} (ok : Ok X C) (hm : X.mg "all" = none) (ha : PE X a (rdE C ia W)) (hg : Gl X "all" := by rfl) (hs : starEach [a] X.env = (false, eval a X.env) :: starEach [] X.env := by rfl) : PE X (.Call (.Name "all" p) [a] [] pos) (rdE C (.op1 .allL ia) W) := by
  have h := pe_callB (p := p) (pos := pos) (cr_all (X := X) ok.calm) hg hm boot_all (pa_cons ha pa_nil hs) (he := hs)
  rw [ok.K] at h
  exact h
theorem d_any {a : Expr} {ia : IE} (ok : Ok X C) (hm : X.mg "any" = none) (ha : PE X a (rdE C ia W)) (hg : Gl X "any" := by rfl) (hs : starEach [a] X.env = (false, eval a X.env) :: starEach [] X.env := by rfl) : PE X (.Call (.Name "any" p) [a] [] pos) (rdE C (.op1 .anyL ia) W) := by
  have h := pe_callB (p := p) (pos := pos) (cr_any (X := X) ok.calm) hg hm boot_any (pa_cons ha pa_nil hs) (he := hs)
  rw [ok.K] at h
  exact h
theorem d_abs {a : Expr} {ia : IE} (ok : Ok X C) (hm : X.mg "abs" = none) (ha : PE X a (rdE C ia W)) (hg : Gl X "abs" := by rfl) (hs : starEach [a] X.env = (false, eval a X.env) :: starEach [] X.env := by rfl) : PE X (.Call (.Name "abs" p) [a] [] pos) (rdE C (.op1 .abs ia) W) := by
  have h := pe_callB (p := p) (pos := pos) (call_abs (X := X)) hg hm boot_abs (pa_cons ha pa_nil hs) (he := hs)
  exact h
theorem d_toInt {a : Expr} {ia : IE} (ok : Ok X C) (hm : X.mg "int" = none) (ha : PE X a (rdE C ia W)) (hg : Gl X "int" := by rfl) (hs : starEach [a] X.env = (false, eval a X.env) :: starEach [] X.env := by rfl) : PE X (.Call (.Name "int" p) [a] [] pos) (rdE C (.op1 .toInt ia) W) := by
  have h := pe_callTy (p := p) (pos := pos) (call_int1 (X := X)) hg hm boot_int (pa_cons ha pa_nil hs) (he := hs)
  exact h
theorem d_list {a : Expr} {ia : IE} (ok : Ok X C) (hm : X.mg "list" = none) (ha : PE X a (rdE C ia W)) (hg : Gl X "list" := by rfl) (hs : starEach [a] X.env = (false, eval a X.env) :: starEach [] X.env := by rfl) : PE X (.Call (.Name "list" p) [a] [] pos) (rdE C (.op1 .listL ia) W) := by
  have h := pe_callTy (p := p) (pos := pos) (call_list_of (X := X)) hg hm boot_list (pa_cons ha pa_nil hs) (he := hs)
  rw [ok.K] at h
  exact h
theorem d_max2 {a b : Expr} {ia ib : IE} (ok : Ok X C) (hm : X.mg "max" = none) (ha : PE X a (rdE C ia W)) (hb : PE X b (rdE C ib W)) (hg : Gl X "max" := by rfl) (hs : starEach [a, b] X.env = (false, eval a X.env) :: starEach [b] X.env := by rfl) (hs2 : starEach [b] X.env = (false, eval b X.env) :: starEach [] X.env := by rfl) (hpl : (backTo pos (starEach [b] X.env)).any (·.1) = false := by rfl) : PE X (.Call (.Name "max" p) [a, b] [] pos) (rdE C (.op2 .max2 ia ib) W) := by
  have h := pe_callB (p := p) (pos := pos) (call_max2 (X := X) ok.calm) hg hm boot_max (pa_cons ha (pa_cons hb pa_nil hs2) hs) (he := hs) (hpl := hpl)
  exact h
theorem d_min2 {a b : Expr} {ia ib : IE} (ok : Ok X C) (hm : X.mg "min" = none) (ha : PE X a (rdE C ia W)) (hb : PE X b (rdE C ib W)) (hg : Gl X "min" := by rfl) (hs : starEach [a, b] X.env = (false, eval a X.env) :: starEach [b] X.env := by rfl) (hs2 : starEach [b] X.env = (false, eval b X.env) :: starEach [] X.env := by rfl) (hpl : (backTo pos (starEach [b] X.env)).any (·.1) = false := by rfl) : PE X (.Call (.Name "min" p) [a, b] [] pos) (rdE C (.op2 .min2 ia ib) W) := by
  have h := pe_callB (p := p) (pos := pos) (call_min2 (X := X) ok.calm) hg hm boot_min (pa_cons ha (pa_cons hb pa_nil hs2) hs) (he := hs) (hpl := hpl)
  exact h
end
end TW

namespace TW
open PySem PySem.Spec PyProof.Rows L2
section
variable {X : Cx} {C : Ctx} {W : WX} {pos p q p2 : Pos}
theorem d_isN {a : Expr} {ia : IE} {j} {pos'} (ha : PE X a (rdE C ia W)) : PE X (.Compare a [.Is] [.Constant .none j pos'] pos) (rdE C (.op1 .isN ia) W) := pe_cmp (pc_isN ha)
theorem d_notN {a : Expr} {ia : IE} {j} {pos'} (ha : PE X a (rdE C ia W)) : PE X (.Compare a [.IsNot] [.Constant .none j pos'] pos) (rdE C (.op1 .notN ia) W) := pe_cmp (pc_notN ha)
theorem pe_tyN {x : Str} {T : String} (hg : Gl X x) (hm : X.mg x = none) (hv : bootBuiltins x = some (.type T)) (hn : x ≠ "__name__" := by decide) (hdb : (x == ("__debug__" : Str)) = false := by decide) : PE X (.Name x pos) (tC (.ty T)) :=
  ⟨fun pins s σ H Q I h => ld_blt I hg hm hv ⟨.ty T, H, I, rfl, h⟩ hn hdb⟩
theorem kit_all {t : String} (T : String) (hT : T ∈ ["int", "bool", "list", "str"]) (h : t ∈ ["NoneType", "bool", "int", "str", "list", "tuple", "dict"]) : kitB t T = some (t == T || (t == "bool" && T == "int")) := by
  have key : ∀ T ∈ ["int", "bool", "list", "str"], ∀ t ∈ ["NoneType", "bool", "int", "str", "list", "tuple", "dict"], kitB t T = some (t == T || (t == "bool" && T == "int")) := by decide +kernel
  exact key T hT t h
theorem d_isi {o : Op1} {T : String} {x : Str} {a : Expr} {ia : IE} (ok : Ok X C) (hT : T ∈ ["int", "bool", "list", "str"]) (ho : ∀ v H Q, r1 C.K o v H Q = isT C.K T v H Q) (hv : bootBuiltins x = some (.type T)) (hm : X.mg "isinstance" = none) (hm2 : X.mg x = none) (ha : PE X a (rdE C ia W))
    (hg : Gl X "isinstance" := by rfl) (hg2 : Gl X x := by rfl) (hn : x ≠ "__name__" := by decide) (hdb : (x == ("__debug__" : Str)) = false := by decide)
    (hs : starEach [a, .Name x p2] X.env = (false, eval a X.env) :: starEach [.Name x p2] X.env := by rfl) (hs2 : starEach [.Name x p2] X.env = (false, eval (.Name x p2) X.env) :: starEach [] X.env := by rfl) (hpl : (backTo pos (starEach [.Name x p2] X.env)).any (·.1) = false := by rfl) :
    PE X (.Call (.Name "isinstance" p) [a, .Name x p2] [] pos) (rdE C (.op1 o ia) W) := by
  have hc : CallR X (.builtin "isinstance") (fun xs H Q => ∃ v, xs = [v, .ty T] ∧ isT C.K T v H Q) := fun pins s σ H xs us Q I r hw => by
    obtain ⟨v, rfl, t, ht, hm, q⟩ := hw
    exact call_isi pins s σ H _ us Q I r ⟨v, .ty T, .type t, .type T, _, rfl, .ty T, by rw [ok.K]; exact ht, kit_ty (kit_all T hT hm), q⟩
  have h := pe_callB (p := p) (pos := pos) hc hg hm boot_isinstance (pa_cons ha (pa_cons (pe_tyN (pos := p2) hg2 hm2 hv hn hdb) pa_nil hs2) hs) (he := hs) (hpl := hpl)
  have e : rdE C (.op1 o ia) W = tCB (fun xs H Q => ∃ v, xs = [v, V.ty T] ∧ isT C.K T v H Q) (tCons (rdE C ia W) (tCons (tC (.ty T)) tNil)) := by
    funext σ H Q
    show rdE C ia W σ H (fun x H1 => r1 C.K o x H1 Q) = rdE C ia W σ H (fun x H1 => ∃ v, [x, V.ty T] = [v, V.ty T] ∧ isT C.K T v H1 Q)
    congr 1
    funext x H1
    rw [ho]
    exact propext ⟨fun z => ⟨x, rfl, z⟩, fun ⟨v, e, z⟩ => by cases e; exact z⟩
  rw [e]; exact h
/-! len(set(xs)) -/
theorem firstMet_spec (ns : List Int) : ∀ i, i ≤ ns.length → (firstMet (fun i => ns.getD i 0) i).Nodup ∧ ∀ x, x ∈ firstMet (fun i => ns.getD i 0) i ↔ x ∈ ns.take i
  | 0, _ => ⟨List.nodup_nil, fun x => by rw [firstMet_zero]; simp⟩
  | i + 1, h => by
    obtain ⟨h1, h2⟩ := firstMet_spec ns i (by omega)
    have e : ns.getD i 0 = ns[i] := by rw [List.getD_eq_getElem?_getD, List.getElem?_eq_getElem (by omega)]; rfl
    have et : ns.take (i + 1) = ns.take i ++ [ns[i]] := by rw [List.take_add_one, List.getElem?_eq_getElem (by omega)]; rfl
    rw [firstMet_succ]
    show (if (firstMet (fun i => ns.getD i 0) i).any (· == ns.getD i 0) then firstMet (fun i => ns.getD i 0) i else firstMet (fun i => ns.getD i 0) i ++ [ns.getD i 0]).Nodup ∧ ∀ x, x ∈ (if (firstMet (fun i => ns.getD i 0) i).any (· == ns.getD i 0) then firstMet (fun i => ns.getD i 0) i else firstMet (fun i => ns.getD i 0) i ++ [ns.getD i 0]) ↔ x ∈ ns.take (i + 1)
    rw [e, et]
    split
    · rename_i ha
      rw [List.any_eq_true] at ha
      obtain ⟨y, hy, ey⟩ := ha
      have ey : y = ns[i] := eq_of_beq ey
      rw [ey] at hy
      refine ⟨h1, fun x => ?_⟩
      rw [h2 x, List.mem_append, List.mem_singleton]
      exact ⟨.inl, fun z => z.elim (fun q => q) fun q => by rw [q]; exact (h2 _).mp hy⟩
    · rename_i ha
      have hn : ns[i] ∉ firstMet (fun i => ns.getD i 0) i := fun m => ha (List.any_eq_true.mpr ⟨_, m, beq_self_eq_true _⟩)
      refine ⟨?_, fun x => ?_⟩
      · rw [List.nodup_append]
        exact ⟨h1, by simp, fun a m b m2 z => by rw [List.mem_singleton.mp m2] at z; exact hn (z ▸ m)⟩
      · rw [List.mem_append, List.mem_append, h2 x]
theorem dedup_mem : ∀ (l : List Int) (x : Int), x ∈ dedup l ↔ x ∈ l
  | [], x => by simp [dedup]
  | a :: r, x => by
    unfold dedup
    split
    · rename_i h
      rw [dedup_mem r x, List.mem_cons]
      exact ⟨.inr, fun z => z.elim (fun e => by rw [e]; simpa using h) fun q => q⟩
    · rw [List.mem_cons, List.mem_cons, dedup_mem r x]
theorem dedup_nodup : ∀ l : List Int, (dedup l).Nodup
  | [] => List.nodup_nil
  | a :: r => by
    unfold dedup
    split
    · exact dedup_nodup r
    · rename_i h
      rw [List.nodup_cons]
      exact ⟨fun m => h (by simpa using (dedup_mem r a).mp m), dedup_nodup r⟩
theorem len_same {l m : List Int} (h1 : l.Nodup) (h2 : m.Nodup) (h : ∀ x, x ∈ l ↔ x ∈ m) : l.length = m.length := ((List.perm_ext_iff_of_nodup h1 h2).mpr h).length_eq
theorem d_lenSet {a : Expr} {ia : IE} (ok : Ok X C) (hm : X.mg "len" = none) (hm2 : X.mg "set" = none) (ha : PE X a (rdE C ia W)) (hg : Gl X "len" := by rfl) (hg2 : Gl X "set" := by rfl) (na : starEach [a] X.env = (false, eval a X.env) :: starEach [] X.env := by rfl) :
    PE X (.Call (.Name "len" p) [.Call (.Name "set" p2) [a] [] q] [] pos) (rdE C (.op1 .lenSet ia) W) := by
  refine ⟨fun pins s σ H Q I h => ?_⟩
  refine Call_ (ld_blt I hg hm boot_len ?_)
  refine PyProof.Rows.callWith_builtin1 (PyProof.Rows.args_cons ?_ rfl) rfl rfl
  refine Call_ (ld_blt I hg2 hm2 boot_set ?_)
  refine PyProof.Rows.callWith_type1 (PyProof.Rows.args_cons (thn (ha.run pins s σ H _ I h) fun v s1 ⟨x, H1, I1, r1, q1⟩ => PyProof.Rows.args_nil ?_) na) na rfl
  obtain ⟨l, ns, rfl, hq, hl, q1⟩ := q1
  cases r1
  rw [← ok.K] at hq
  obtain ⟨its, r, pl, hz⟩ := I1.list hq
  have hlen : its.toArray.size = ns.length := by rw [List.size_toArray, ← r.length, List.length_map]
  refine call_set_list (I1.ok.hd ok.calm) pl.isList (by simpa using RZ.intsAre_vals r) (by rw [hlen]; unfold scanBound; omega) fun h' tk hS hk => ?_
  refine PyProof.Rows.args_nil ?_
  rw [hlen] at hS
  obtain ⟨hn1, hn2⟩ := firstMet_spec ns ns.length (Nat.le_refl _)
  have hcard : (firstMet (fun i => ns.getD i 0) ns.length).length = (dedup ns).length := len_same hn1 (dedup_nodup ns) fun x => by rw [hn2, dedup_mem, List.take_length]
  have hle := firstMet_length_le (fun i => ns.getD i 0) ns.length
  obtain ⟨o, es, ep, t, ho, hex, hd, _, _, _, hf, hn⟩ := hS
  have I2 : Inv X pins σ H1 { s1 with heap := h', toks := tk } := I1.kept fun b o e => hk b o (Heap.lt_size e) e
  exact call_len_set ho hex hd hf (by rw [hn]; omega) ⟨.int (dedup ns).length, H1, I2.tok _, ⟨_, by rw [hn, hcard]⟩, q1⟩
end
end TW

namespace TW
open PySem PySem.Spec PyProof.Rows L2
section
variable {X : Cx} {C : Ctx} {W : WX} {pos p q p2 : Pos}
theorem Ok.blk (ok : Ok X C) (s : Shared) (H : Hp) (sc : Scope) (ce : PySem.Env) (fp : List Addr) : Ok (X.blk s H sc ce fp) C := ⟨ok.K, ok.calm, ok.hu⟩
/-! targets, what is walked -/
theorem g_name {i : Nat} {x : Str} (h : PG X (.Name x pos) (gName i)) : PG X (.Name x pos) (rdTg C.K (.nm i)) := h
theorem g_nil : PGs X [] (gNs []) := pgs_nil
theorem g_cons {i : Nat} {is : List Nat} {e : Expr} {es : List Expr} (h1 : PG X e (gName i)) (h2 : PGs X es (gNs is)) (hs : (assignEach (e :: es) X.env).map (·.2) = assign e X.env :: (assignEach es X.env).map (·.2) := by rfl) : PGs X (e :: es) (gNs (i :: is)) := pgs_cons h1 h2 hs
theorem g_tup {is : List Nat} {es : List Expr} {k : Nat} (ok : Ok X C) (h : PGs X es (gNs is)) (hn : (assignEach es X.env).length = is.length := by rfl) (hst : (assignEach es X.env).findIdx? (·.1) = none := by rfl) : PG X (.Tuple es k pos) (rdTg C.K (.tup is)) := by
  have g := pg_tup (k := k) (pos := pos) ok.calm h hn hst
  rw [ok.K] at g; exact g
theorem g_lsp {is : List Nat} {es : List Expr} {k : Nat} (ok : Ok X C) (h : PGs X es (gNs is)) (hn : (assignEach es X.env).length = is.length := by rfl) (hst : (assignEach es X.env).findIdx? (·.1) = none := by rfl) : PG X (.Tuple es k pos) (rdTg C.K (.lsp is)) := by
  have g := pg_lst (k := k) (pos := pos) ok.calm h hn hst
  rw [ok.K] at g; exact g
theorem i_lst {tg l : Expr} {a b c : IE} (ok : Ok X C) (hl : PE X l (rdE C a W)) : PI X tg l (iSrc C.K .lst (rdE C a W) (rdE C b W) (rdE C c W)) := by
  have g := pi_list (tg := tg) hl
  rw [ok.K] at g; exact g
theorem i_r1 {tg e : Expr} {a b c : IE} (hm : X.mg "range" = none) (ha : PE X e (rdE C a W)) (hg : Gl X "range" := by rfl) (hs : starEach [e] X.env = (false, eval e X.env) :: starEach [] X.env := by rfl) : PI X tg (.Call (.Name "range" p) [e] [] pos) (iSrc C.K .r1 (rdE C a W) (rdE C b W) (rdE C c W)) :=
  pi_range1 hg hm (pa_cons ha pa_nil hs) hs
theorem i_r2 {tg e e2 : Expr} {a b c : IE} (hm : X.mg "range" = none) (ha : PE X e (rdE C a W)) (hb : PE X e2 (rdE C b W)) (hg : Gl X "range" := by rfl) (hs : starEach [e, e2] X.env = (false, eval e X.env) :: starEach [e2] X.env := by rfl) (hs2 : starEach [e2] X.env = (false, eval e2 X.env) :: starEach [] X.env := by rfl) :
    PI X tg (.Call (.Name "range" p) [e, e2] [] pos) (iSrc C.K .r2 (rdE C a W) (rdE C b W) (rdE C c W)) :=
  pi_range2 hg hm (pa_cons ha (pa_cons hb pa_nil hs2) hs) (by rw [hs, hs2]; rfl) hs2
theorem i_dic {tg : Expr} {i : Nat} {x : Str} {a b c : IE} (h : PE X (.Name x pos) (tVar i)) : PI X tg (.Name x pos) (iSrc C.K (.dic i) (rdE C a W) (rdE C b W) (rdE C c W)) := pi_keys h
/-! comprehensions -/
theorem t_none : PTs X [] (tB (rdE C (.cst (.bl true)) W)) := ⟨fun pins s σ H Q I hw => by
  obtain ⟨v, hv, c, rfl, q⟩ := hw
  cases hv
  exact pts_nil.run pins s σ H Q I q⟩
theorem t_one {c : Expr} {a : IE} (h : PT X c (tB (rdE C a W))) : PTs X [c] (tB (rdE C a W)) := pts_one h
theorem lock_if {k : Sk} {e : Expr} {t : TE} (h : PE X e t) : PE X e (lockIf k t) := by
  cases k with
  | dic i => exact pe_lock h
  | _ => exact h
theorem d_lc {k : Sk} {a b c test elt : IE} {t : Tg} {el tg iter : Expr} {ifs : List Expr} {scope : Scope} {own : List (Str × Nat)} (ok : Ok X C) (hN : X.N.Nodup) (hi : PI X tg iter (iSrc C.K k (rdE C a W) (rdE C b W) (rdE C c W))) (bk : BlkOk X.N X.env.scope scope own) (ho : own.map (·.2) = t.names)
    (hg : ∀ (s : Shared) (H : Hp) (c : Addr) (cl : List (Str × Addr)) (fp : List Addr), PG (X.blk s H scope (compEnvC scope cl c X.env) fp) tg (rdTg C.K t)) (ht : ∀ (s : Shared) (H : Hp) (c : Addr) (cl : List (Str × Addr)) (fp : List Addr), PTs (X.blk s H scope (compEnvC scope cl c X.env) fp) ifs (tB (rdE C test Wno)))
    (he : ∀ (s : Shared) (H : Hp) (c : Addr) (cl : List (Str × Addr)) (fp : List Addr), PE (X.blk s H scope (compEnvC scope cl c X.env) fp) el (rdE C elt Wno)) (hs : ∀ x, foldedSetIterable iter X.env x = pure x := by intro _; rfl) :
    PE X (.ListComp el [⟨tg, iter, ifs, 0⟩] scope pos) (rdE C (.lc k a b c t test elt) W) := by
  have h := pe_lc (pos := pos) ok.calm hN hi bk hg ht he hs
  rw [ho] at h
  exact lock_if h
theorem s_setLc {i : Nat} {y : Str} {py spos : Pos} {k : Sk} {a b c test elt : IE} {t : Tg} {el tg iter : Expr} {ifs : List Expr} {scope : Scope} {own : List (Str × Nat)} (ok : Ok X C) (hN : X.N.Nodup) (hy : X.N[i]? = some y) (hyl : X.env.scope.names.lookup y = some .local)
    (hsw : swapsWith (.ListComp el [⟨tg, iter, ifs, 0⟩] scope pos) (some (.Name y py)) spos.line X.env = pure true) (hk : k.pure = true) (hi : PI X tg iter (iSrc C.K k (rdE C a W) (rdE C b W) (rdE C c W))) (bk : BlkOk X.N X.env.scope scope own) (ho : own.map (·.2) = t.names)
    (hg : ∀ (s : Shared) (H : Hp) (c : Addr) (cl : List (Str × Addr)) (fp : List Addr), PG (X.blk s H scope (compEnvC scope cl c X.env) fp) tg (rdTg C.K t)) (ht : ∀ (s : Shared) (H : Hp) (c : Addr) (cl : List (Str × Addr)) (fp : List Addr), PTs (X.blk s H scope (compEnvC scope cl c X.env) fp) ifs (tB (rdE C test Wno)))
    (he : ∀ (s : Shared) (H : Hp) (c : Addr) (cl : List (Str × Addr)) (fp : List Addr), PE (X.blk s H scope (compEnvC scope cl c X.env) fp) el (rdE C elt Wno)) (hs : ∀ x, foldedSetIterable iter X.env x = pure x := by intro _; rfl) :
    PS X (.Assign [.Name y py] (.ListComp el [⟨tg, iter, ifs, 0⟩] scope pos) spos) (rdS C (.asg (.nm i) (.lc k a b c t test elt)) W) := by
  have h := ps_setLc (pos := pos) ok.calm hN hy hyl hsw hi bk hg ht he hs
  rw [ho] at h
  cases k with
  | dic i => cases hk
  | _ => exact h
/-! calls of the text's own defs -/
theorem d_call {f n : Nat} {x : Str} {a : Addr} {fd : FuncData} {ps : List Str} {e : Expr} {es : List Expr} {ies : IEs} (F : FnOk X.prog X.w C.K X.mg X.base (L2.CX X.prog X.w) n a fd ps (spF C (C.Φ f))) (ok : Ok X C) (hr : Room n X.A) (tk : Takes X W) (hm : X.mg x = some (.ref a)) (hk : PySem.W.keepIn C.K (.ref a) = true) (hb : Binds C.K fd ps [])
    (ha : PA X (e :: es) (rdEs C ies W)) (hg : Gl X x := by rfl) (hdb : (x == ("__debug__" : Str)) = false := by decide) (he : starEach (e :: es) X.env = (false, eval e X.env) :: starEach es X.env := by rfl) (hpl : (backTo pos (starEach es X.env)).any (·.1) = false := by rfl) :
    PE X (.Call (.Name x p) (e :: es) [] pos) (rdE C (.call f ies) W) := by
  rw [← ok.K] at F hk hb
  exact pe_callS F hr hg hm hk hb (fun σ => passAt tk σ) ha hdb he hpl
theorem d_callM {f n i : Nat} {x y : Str} {a : Addr} {fd : FuncData} {ps : List Str} {py : Pos} {es : List Expr} {ies : IEs} (F : FnOk X.prog X.w C.K X.mg X.base (L2.CX X.prog X.w) n a fd ps (spF C (C.Φ f))) (ok : Ok X C) (hr : Room n X.A) (tk : Takes X W) (hm : X.mg x = some (.ref a)) (hk : PySem.W.keepIn C.K (.ref a) = true) (hb : Binds C.K fd ps [])
    (hy : PE X (.Name y py) (tVar i)) (ha : PA X es (rdEs C ies W)) (hg : Gl X x := by rfl) (hdb : (x == ("__debug__" : Str)) = false := by decide) (he : starEach (.Name y py :: es) X.env = (false, eval (.Name y py) X.env) :: starEach es X.env := by rfl) (hpl : (backTo pos (starEach es X.env)).any (·.1) = false := by rfl) :
    PE X (.Call (.Name x p) (.Name y py :: es) [] pos) (rdE C (.callM f i ies) W) := by
  rw [← ok.K] at F hk hb
  exact pe_callS F hr hg hm hk hb (fun σ => passAt tk σ) (pa_cons hy ha he) hdb he hpl
/-! tests -/
theorem tB_and {ta tb : TE} : tB (tAndV ta tb) = tAnd (tB ta) (tB tb) := by
  funext σ H Q
  show ta σ H _ = ta σ H _
  congr 1
  funext x H1
  apply propext
  constructor
  · rintro ⟨c, rfl, h⟩
    refine ⟨c, rfl, ?_⟩
    cases c with
    | true => exact h
    | false => obtain ⟨d, e, h⟩ := h; cases e; exact h
  · rintro ⟨c, rfl, h⟩
    refine ⟨c, rfl, ?_⟩
    cases c with
    | true => exact h
    | false => exact ⟨false, rfl, h⟩
theorem tB_or {ta tb : TE} : tB (tOrV ta tb) = tOr (tB ta) (tB tb) := by
  funext σ H Q
  show ta σ H _ = ta σ H _
  congr 1
  funext x H1
  apply propext
  constructor
  · rintro ⟨c, rfl, h⟩
    refine ⟨c, rfl, ?_⟩
    cases c with
    | false => exact h
    | true => obtain ⟨d, e, h⟩ := h; cases e; exact h
  · rintro ⟨c, rfl, h⟩
    refine ⟨c, rfl, ?_⟩
    cases c with
    | false => exact h
    | true => exact ⟨true, rfl, h⟩
theorem tB_not {ta : TE} : tB (tNotV ta) = tNot (tB ta) := by
  funext σ H Q
  show ta σ H _ = ta σ H _
  congr 1
  funext x H1
  apply propext
  constructor
  · rintro ⟨c, rfl, d, e, h⟩
    cases e
    exact ⟨c, rfl, h⟩
  · rintro ⟨c, rfl, h⟩
    exact ⟨c, rfl, _, rfl, h⟩
theorem p_val {e : Expr} {a : IE} (h : PE X e (rdE C a W)) (he : ∀ whole, isTrue e X.env whole = (do let v ← whole; standAt e.pos; holding [v] (truthy v)) := by intro _; rfl) : PT X e (tB (rdE C a W)) := pt_val h he
theorem p_cmp {o : Op2} {op : CmpOp} {a b : Expr} {ia ib : IE} (ho : OpR X (compareOp op) (r2 C.K o)) (ha : PE X a (rdE C ia W)) (hb : PE X b (rdE C ib W)) (hm : behindInMarks op b = false) : PT X (.Compare a [op] [b] pos) (tB (rdE C (.op2 o ia ib) W)) := pt_cmpR ho ha hb hm
theorem p_inK {a b : Expr} {ia ib : IE} (ok : Ok X C) (ha : PE X a (rdE C ia W)) (hb : PE X b (rdE C ib W)) (h1 : behindInMarks .In b = false) : PT X (.Compare a [.In] [b] pos) (tB (rdE C (.op2 .inK ia ib) W)) := pt_cmp (pc_din (by have := ok.hu; omega) ha hb) h1
theorem p_ninK {a b : Expr} {ia ib : IE} (ok : Ok X C) (ha : PE X a (rdE C ia W)) (hb : PE X b (rdE C ib W)) (h1 : behindInMarks .NotIn b = false) : PT X (.Compare a [.NotIn] [b] pos) (tB (rdE C (.op2 .ninK ia ib) W)) := pt_cmp (pc_dnotin (by have := ok.hu; omega) ha hb) h1
theorem p_isN {a : Expr} {ia : IE} {j} {pos'} (ha : PE X a (rdE C ia W)) : PT X (.Compare a [.Is] [.Constant .none j pos'] pos) (tB (rdE C (.op1 .isN ia) W)) := pt_cmp (pc_isN ha)
theorem p_notN {a : Expr} {ia : IE} {j} {pos'} (ha : PE X a (rdE C ia W)) : PT X (.Compare a [.IsNot] [.Constant .none j pos'] pos) (tB (rdE C (.op1 .notN ia) W)) := pt_cmp (pc_notN ha)
theorem p_not {a : Expr} {ia : IE} (ha : PT X a (tB (rdE C ia W))) : PT X (.UnaryOp .Not a pos) (tB (rdE C (.not ia) W)) := by
  have h := pt_not (pos := pos) ha
  rw [← tB_not] at h; exact h
theorem w_one_and {a : Expr} {ia : IE} (ha : PT X a (tB (rdE C ia W))) : PW X (.BoolOp .And [a] pos) (tB (rdE C ia W)) := pw_and1 ha
theorem w_one_or {a : Expr} {ia : IE} (ha : PT X a (tB (rdE C ia W))) : PW X (.BoolOp .Or [a] pos) (tB (rdE C ia W)) := pw_or1 ha
theorem w_and {a b : Expr} {rest : List Expr} {ia ib : IE} (ha : PT X a (tB (rdE C ia W))) (hb : PW X (.BoolOp .And (b :: rest) pos) (tB (rdE C ib W))) : PW X (.BoolOp .And (a :: b :: rest) pos) (tB (rdE C (.and ia ib) W)) := by
  have h := pw_and ha hb
  rw [← tB_and] at h; exact h
theorem w_or {a b : Expr} {rest : List Expr} {ia ib : IE} (ha : PT X a (tB (rdE C ia W))) (hb : PW X (.BoolOp .Or (b :: rest) pos) (tB (rdE C ib W))) : PW X (.BoolOp .Or (a :: b :: rest) pos) (tB (rdE C (.or ia ib) W)) := by
  have h := pw_or ha hb
  rw [← tB_or] at h; exact h
theorem p_w {e : Expr} {a : IE} (h : PW X e (tB (rdE C a W))) : PT X e (tB (rdE C a W)) := h.pt
end
end TW

namespace TW
open PySem PySem.Spec PyProof.Rows L2
section
variable {X : Cx} {C : Ctx} {W : WX} {pos p q p2 pos' : Pos}
theorem mt_ins : MtR X "list.insert" rInsert := fun pins s σ H x xs v us Q I r rs h => by
  obtain ⟨l, ys, i, y, h1, h2, h3, h4, h5, h6, q⟩ := h
  exact mt_insert pins s σ H x xs v us Q I r rs ⟨l, ys, i, y, h1, h2, h3, h4, h5, h6, by rw [List.append_assoc]; exact q⟩
theorem d_pop {i : Nat} {x : Str} {apos cpos px : Pos} (ok : Ok X C) (h : PE X (.Name x px) (tVar i)) (hbase : attributeBase (.Name x px) "pop" X.env (eval (.Name x px) X.env) = eval (.Name x px) X.env := by rfl) (hline : (apos.endLine == cpos.line) = true := by rfl) :
    PE X (.Call (.Attribute (.Name x px) "pop" apos) [] [] cpos) (rdE C (.pop i) W) := by
  have g := pe_bm0 (cpos := cpos) PySem.F.plainAttrs_list PySem.F.slot_list_pop PySem.F.type_list_pop mt_pop h hbase hline
  rw [ok.K] at g; exact g
theorem d_popAt {i : Nat} {x : Str} {e : Expr} {ie : IE} {apos cpos px : Pos} (ok : Ok X C) (h : PE X (.Name x px) (tVar i)) (he : PE X e (rdE C ie W)) (hs : starEach [e] X.env = (false, eval e X.env) :: starEach [] X.env := by rfl)
    (hfew : ((backTo cpos (starEach [e] X.env)).all (fun x => !x.1) && (backToKw cpos (keywordEach [] X.env)).all (fun x => x.1.isSome) && decide ([e].length + ([] : List Keyword).length + (if ([] : List Keyword).isEmpty then 0 else 1) < 30)) = true := by rfl)
    (hbase : attributeBase (.Name x px) "pop" X.env (eval (.Name x px) X.env) = eval (.Name x px) X.env := by rfl) (hline : (apos.endLine == cpos.line) = true := by rfl) :
    PE X (.Call (.Attribute (.Name x px) "pop" apos) [e] [] cpos) (rdE C (.popAt i ie) W) := by
  have g := pe_bm (cpos := cpos) PySem.F.plainAttrs_list PySem.F.slot_list_pop PySem.F.type_list_pop mt_popAt h (pa_cons he pa_nil hs) hbase hfew hline hs rfl
  rw [ok.K] at g; exact g
/-! statements -/
theorem s_asg {tg e : Expr} {t : Tg} {ie : IE} (he : PE X e (rdE C ie W)) (hg : PG X tg (rdTg C.K t)) (hs : swapsWithSole [tg] e pos.line X.env = pure false := by rfl) (hw : swappedStores [tg] e X.env = pure none := by rfl)
    (h1 : (assignEach [tg] X.env).map (·.2) = [assign tg X.env] := by rfl) : PS X (.Assign [tg] e pos) (rdS C (.asg t ie) W) := ps_asg he hg hs hw h1
theorem s_set {i : Nat} {x : Str} {e : Expr} {ie : IE} (hN : X.N.Nodup) (hi : X.N[i]? = some x) (hx : Loc X.env.scope x) (he : PE X e (rdE C ie W)) (hs : swapsWith e (some (.Name x pos')) pos.line X.env = pure false := by rfl) (hf : X.fn x = true ∨ X.env.scope.names.lookup x = some .local := by first | exact .inl rfl | exact .inr rfl) :
    PS X (.Assign [.Name x pos'] e pos) (rdS C (.asg (.nm i) ie) W) := ps_set hN hi hx he hs hf
theorem s_aug {o : Op2} {op : Operator} {i : Nat} {x : Str} {e : Expr} {ie : IE} (ho : PIp X op (ipO o)) (hN : X.N.Nodup) (hi : X.N[i]? = some x) (hx : Loc X.env.scope x) (he : PE X e (rdE C ie W)) (hf : X.fn x = true ∨ X.env.scope.names.lookup x = some .local := by first | exact .inl rfl | exact .inr rfl) :
    PS X (.AugAssign (.Name x pos') op e pos) (rdS C (.aug i o ie) W) := ps_aug hN hi hx he ho hf
theorem a_add : PIp X .Add (ipO .addI) := ip_add
theorem a_sub : PIp X .Sub (ipO .subI) := ip_sub
theorem s_exp {e : Expr} {ie : IE} (he : PE X e (rdE C ie W)) (hs : swapsWith e none pos.line X.env = pure false := by rfl) : PS X (.Expr e pos) (rdS C (.exp ie) W) := ps_expr he hs
theorem s_app {i : Nat} {x : Str} {e : Expr} {ie : IE} {apos cpos px : Pos} (ok : Ok X C) (h : PE X (.Name x px) (tVar i)) (he : PE X e (rdE C ie W)) (hs : starEach [e] X.env = (false, eval e X.env) :: starEach [] X.env := by rfl)
    (hfew : ((backTo cpos (starEach [e] X.env)).all (fun x => !x.1) && (backToKw cpos (keywordEach [] X.env)).all (fun x => x.1.isSome) && decide ([e].length + ([] : List Keyword).length + (if ([] : List Keyword).isEmpty then 0 else 1) < 30)) = true := by rfl)
    (hbase : attributeBase (.Name x px) "append" X.env (eval (.Name x px) X.env) = eval (.Name x px) X.env := by rfl) (hline : (apos.endLine == cpos.line) = true := by rfl) (hw : swapsWith (.Call (.Attribute (.Name x px) "append" apos) [e] [] cpos) none pos.line X.env = pure false := by rfl) :
    PS X (.Expr (.Call (.Attribute (.Name x px) "append" apos) [e] [] cpos) pos) (rdS C (.app i ie) W) := by
  have g := pe_bm (cpos := cpos) PySem.F.plainAttrs_list PySem.F.slot_list_append PySem.F.type_list_append mt_append h (pa_cons he pa_nil hs) hbase hfew hline hs rfl
  rw [ok.K] at g
  exact ps_expr g hw
theorem s_ins {i : Nat} {x : Str} {e e2 : Expr} {ie ie2 : IE} {apos cpos px : Pos} (ok : Ok X C) (h : PE X (.Name x px) (tVar i)) (he : PE X e (rdE C ie W)) (he2 : PE X e2 (rdE C ie2 W)) (hs : starEach [e, e2] X.env = (false, eval e X.env) :: starEach [e2] X.env := by rfl) (hs2 : starEach [e2] X.env = (false, eval e2 X.env) :: starEach [] X.env := by rfl)
    (hfew : ((backTo cpos (starEach [e, e2] X.env)).all (fun x => !x.1) && (backToKw cpos (keywordEach [] X.env)).all (fun x => x.1.isSome) && decide ([e, e2].length + ([] : List Keyword).length + (if ([] : List Keyword).isEmpty then 0 else 1) < 30)) = true := by rfl)
    (hbase : attributeBase (.Name x px) "insert" X.env (eval (.Name x px) X.env) = eval (.Name x px) X.env := by rfl) (hline : (apos.endLine == cpos.line) = true := by rfl) (hpl : (backTo cpos (starEach [e2] X.env)).any (·.1) = false := by rfl) (hw : swapsWith (.Call (.Attribute (.Name x px) "insert" apos) [e, e2] [] cpos) none pos.line X.env = pure false := by rfl) :
    PS X (.Expr (.Call (.Attribute (.Name x px) "insert" apos) [e, e2] [] cpos) pos) (rdS C (.ins i ie ie2) W) := by
  have g := pe_bm (cpos := cpos) PySem.F.plainAttrs_list PySem.F.slot_list_insert PySem.F.type_list_insert mt_ins h (pa_cons he (pa_cons he2 pa_nil hs2) hs) hbase hfew hline hs hpl
  rw [ok.K] at g
  exact ps_expr g hw
theorem s_clr {i : Nat} {x : Str} {apos cpos px : Pos} (ok : Ok X C) (h : PE X (.Name x px) (tVar i)) (hbase : attributeBase (.Name x px) "clear" X.env (eval (.Name x px) X.env) = eval (.Name x px) X.env := by rfl) (hline : (apos.endLine == cpos.line) = true := by rfl)
    (hw : swapsWith (.Call (.Attribute (.Name x px) "clear" apos) [] [] cpos) none pos.line X.env = pure false := by rfl) : PS X (.Expr (.Call (.Attribute (.Name x px) "clear" apos) [] [] cpos) pos) (rdS C (.clr i) W) := by
  have g := pe_bm0 (cpos := cpos) PySem.F.plainAttrs_list PySem.F.slot_list_clear PySem.F.type_list_clear mt_clear h hbase hline
  rw [ok.K] at g
  exact ps_expr g hw
theorem s_seti {i : Nat} {x : Str} {a e : Expr} {ia ie : IE} {px tp : Pos} (h : PE X (.Name x px) (tVar i)) (ha : PE X a (rdE C ia W)) (he : PE X e (rdE C ie W))
    (hq : ∀ v, assign (.Subscript (.Name x px) a tp) X.env v = (do
      let ov ← holding [v] (eval (.Name x px) X.env)
      let iv ← holding [v, ov] (eval a X.env)
      standAt tp
      holding [v, ov, iv] (setItem ov iv v)
      release [v, ov, iv] []) := by intro _; rfl)
    (hs : swapsWithSole [.Subscript (.Name x px) a tp] e pos.line X.env = pure false := by rfl) (hw : swappedStores [.Subscript (.Name x px) a tp] e X.env = pure none := by rfl)
    (h1 : (assignEach [.Subscript (.Name x px) a tp] X.env).map (·.2) = [assign (.Subscript (.Name x px) a tp) X.env] := by rfl) : PS X (.Assign [.Subscript (.Name x px) a tp] e pos) (rdS C (.seti i ia ie) W) :=
  ps_asg he (pg_sub h ha set_list hq) hs hw h1
theorem s_set2 {i : Nat} {x : Str} {a b e : Expr} {ia ib ie : IE} {px tp tp2 : Pos} (ok : Ok X C) (h : PE X (.Name x px) (tVar i)) (ha : PE X a (rdE C ia W)) (hb : PE X b (rdE C ib W)) (he : PE X e (rdE C ie W)) (hpi : PlainIx a := by exact fun _ _ => rfl)
    (hq : ∀ v, assign (.Subscript (.Subscript (.Name x px) a tp2) b tp) X.env v = (do
      let ov ← holding [v] (eval (.Subscript (.Name x px) a tp2) X.env)
      let iv ← holding [v, ov] (eval b X.env)
      standAt tp
      holding [v, ov, iv] (setItem ov iv v)
      release [v, ov, iv] []) := by intro _; rfl)
    (hs : swapsWithSole [.Subscript (.Subscript (.Name x px) a tp2) b tp] e pos.line X.env = pure false := by rfl) (hw : swappedStores [.Subscript (.Subscript (.Name x px) a tp2) b tp] e X.env = pure none := by rfl)
    (h1 : (assignEach [.Subscript (.Subscript (.Name x px) a tp2) b tp] X.env).map (·.2) = [assign (.Subscript (.Subscript (.Name x px) a tp2) b tp) X.env] := by rfl) : PS X (.Assign [.Subscript (.Subscript (.Name x px) a tp2) b tp] e pos) (rdS C (.set2 i ia ib ie) W) :=
  ps_asg he (pg_sub (d_ix (x_lst ok) (d_var (W := W) h) ha hpi) hb set_list hq) hs hw h1
theorem s_setk {i : Nat} {x : Str} {a e : Expr} {ia ie : IE} {px tp : Pos} (ok : Ok X C) (h : PE X (.Name x px) (tVar i)) (ha : PE X a (rdE C ia W)) (he : PE X e (rdE C ie W)) (hs : swapsWith e (some (.Subscript (.Name x px) a tp)) pos.line X.env = pure false := by rfl) :
    PS X (.Assign [.Subscript (.Name x px) a tp] e pos) (rdS C (.setk i ia ie) W) := ps_dput (by have := ok.hu; omega) h ha he hs
theorem s_setp {i : Nat} {x : Str} {a e : Expr} {ia ie : IE} {px tp : Pos} (ok : Ok X C) (h : PE X (.Name x px) (tVar i)) (ha : PE X a (rdE C ia W)) (he : PE X e (rdE C ie W)) (hs : swapsWith e (some (.Subscript (.Name x px) a tp)) pos.line X.env = pure false := by rfl) :
    PS X (.Assign [.Subscript (.Name x px) a tp] e pos) (rdS C (.setp i ia ie) W) := ps_dput (by have := ok.hu; omega) h ha he hs
theorem s_if {c : Expr} {ic : IE} {a b : List Stmt} {ia ib : ISs} (hc : PT X c (tB (rdE C ic W))) (ha : PSs X a (rdSs C ia W)) (hb : PSs X b (rdSs C ib W)) : PS X (.If c a b pos) (rdS C (.ifs ic ia ib) W) := ps_if hc ha hb
theorem s_whl {c : Expr} {ic : IE} {b : List Stmt} {ib : ISs} (hp : PassesOwn (model X.prog X.w) X.A X.env X.xe) (hc : PT X c (tB (rdE C ic W))) (hb : PSs X b (rdSs C ib W)) : PS X (.While c b [] pos) (rdS C (.whl ic ib) W) := ps_while hp hc hb
theorem lock_ifS {k : Sk} {st : Stmt} {t : TS} (h : PS X st t) : PS X st (lockIfS k t) := by
  cases k with
  | dic i => exact ps_lock h
  | _ => exact h
theorem s_for {k : Sk} {a b c : IE} {t : Tg} {tg iter : Expr} {body : List Stmt} {ib : ISs} (hp : PassesOwn (model X.prog X.w) X.A X.env X.xe) (ok : Ok X C) (hi : PI X tg iter (iSrc C.K k (rdE C a W) (rdE C b W) (rdE C c W))) (hg : PG X tg (rdTg C.K t)) (hb : PSs X body (rdSs C ib W))
    (hs : ∀ x, foldedSetIterable iter X.env x = pure x := by intro _; rfl) : PS X (.For tg iter body [] pos) (rdS C (.for k a b c t ib) W) := lock_ifS (ps_for hp ok.calm hi hg hb hs)
theorem s_ret {e : Expr} {ie : IE} (he : PE X e (rdE C ie W)) : PS X (.Return (some e) pos) (rdS C (.ret ie) W) := ps_ret he
theorem s_retN : PS X (.Return none pos) (rdS C .retN W) := ps_retN
theorem s_rai {c : Nat} {x m : Str} {j : Nat} {px pc : Pos} (ok : Ok X C) (tk : Takes X W) (hx : PySem.W.excIn C.K (C.cls c) [.type "ValueError", .type "Exception", .type "BaseException", .type "object"] "ValueError.__new__" = true) (gx : X.mg x = some (.ref (C.cls c))) (kx : PySem.W.keepIn C.K (.ref (C.cls c)) = true)
    (bx : PySem.W.subIn C.K (.ref (C.cls c)) (.type "BaseException") = some true) (tx : PySem.W.typeIn C.K (.ref (C.cls c)) = some (.type "type")) (hg : Gl X x := by rfl) (hdb : (x == ("__debug__" : Str)) = false := by decide) :
    PS X (.Raise (some (.Call (.Name x px) [.Constant (.str m) j p2] [] pc)) none pos) (rdS C (.rai c) W) := by
  rw [← ok.K] at hx kx bx tx
  exact ps_raise ok.calm tk (pmk_own PySem.F.excBase_ValueError hx gx kx (raises_own bx tx) hg hdb)
theorem ss_nil : PSs X [] (rdSs C .nil W) := pss_nil
theorem ss_cons {st : Stmt} {rest : List Stmt} {s : IS} {r : ISs} (h1 : PS X st (rdS C s W)) (h2 : PSs X rest (rdSs C r W)) : PSs X (st :: rest) (rdSs C (.cons s r) W) := pss_cons h1 h2
end
end TW

namespace TW
open PySem PySem.Spec PyProof.Rows L2
section
variable {X : Cx} {C : Ctx} {W : WX} {pos p q p2 pos' : Pos}
theorem d_sortK {a : Expr} {ia : IE} (ok : Ok X C) (hm : X.mg "sorted" = none) (ha : PE X a (rdE C ia W)) (hg : Gl X "sorted" := by rfl) (hs : starEach [a] X.env = (false, eval a X.env) :: starEach [] X.env := by rfl) : PE X (.Call (.Name "sorted" p) [a] [] pos) (rdE C (.op1 .sortK ia) W) := by
  have h := pe_callB (p := p) (pos := pos) (call_sortedDI (X := X) ok.calm) hg hm boot_sorted (pa_cons ha pa_nil hs) (he := hs)
  exact h
theorem d_listK {a : Expr} {ia : IE} (ok : Ok X C) (hm : X.mg "list" = none) (ha : PE X a (rdE C ia W)) (hg : Gl X "list" := by rfl) (hs : starEach [a] X.env = (false, eval a X.env) :: starEach [] X.env := by rfl) : PE X (.Call (.Name "list" p) [a] [] pos) (rdE C (.op1 .listK ia) W) := by
  have h := pe_callTy (p := p) (pos := pos) (call_list_dK (X := X) ok.calm) hg hm boot_list (pa_cons ha pa_nil hs) (he := hs)
  exact h
theorem d_rngL {a : Expr} {ia : IE} (ok : Ok X C) (hm : X.mg "list" = none) (hm2 : X.mg "range" = none) (ha : PE X a (rdE C ia W)) (hg : Gl X "list" := by rfl) (hg2 : Gl X "range" := by rfl) (hs : starEach [a] X.env = (false, eval a X.env) :: starEach [] X.env := by rfl)
    (hs2 : starEach [.Call (.Name "range" p2) [a] [] q] X.env = (false, eval (.Call (.Name "range" p2) [a] [] q) X.env) :: starEach [] X.env := by rfl) : PE X (.Call (.Name "list" p) [.Call (.Name "range" p2) [a] [] q] [] pos) (rdE C (.op1 .rngL ia) W) := by
  have h := pe_listRg (p := p) (pos := pos) ok.calm hg hm (prg_1 (p := p2) (pos := q) hg2 hm2 ha hs) hs2
  refine ⟨fun pins s σ H Q I hw => h.run pins s σ H Q I ?_⟩
  show rdE C ia W σ H _
  have e : (fun x H1 => r1 C.K .rngL x H1 Q) = fun (x : V) (H1 : Hp) => ∃ n, x = V.int n ∧ RgOk 0 n ∧ ∀ q, H1 q = none → Q (.ref q) (upd H1 q (.lst (rgV 0 n))) := rfl
  have hw : rdE C ia W σ H fun x H1 => r1 C.K .rngL x H1 Q := hw
  rw [e] at hw
  exact hw
theorem s_forC {a c : IE} {t : Tg} {d : D} {st : Stmt} (h : PS X st (rdS C (.for .lst a (.cst .non) (.cst .non) t (.cons (.ifs c (.cons (.ret (.cst d)) .nil) .nil) .nil)) W)) : PS X st (rdS C (.forC a t c d) W) := h
theorem d_cnt {b e : Expr} {ib ie : IE} {apos cpos : Pos} (ok : Ok X C) (h : PE X b (rdE C ib W)) (he : PE X e (rdE C ie W)) (hs : starEach [e] X.env = (false, eval e X.env) :: starEach [] X.env := by rfl)
    (hfew : ((backTo cpos (starEach [e] X.env)).all (fun x => !x.1) && (backToKw cpos (keywordEach [] X.env)).all (fun x => x.1.isSome) && decide ([e].length + ([] : List Keyword).length + (if ([] : List Keyword).isEmpty then 0 else 1) < 30)) = true := by rfl)
    (hbase : attributeBase b "count" X.env (eval b X.env) = eval b X.env := by rfl) (hline : (apos.endLine == cpos.line) = true := by rfl) :
    PE X (.Call (.Attribute b "count" apos) [e] [] cpos) (rdE C (.mth .cnt ib ie) W) := by
  have g := pe_bm (cpos := cpos) PySem.F.plainAttrs_list PySem.F.slot_list_count PySem.F.type_list_count mt_lcount h (pa_cons he pa_nil hs) hbase hfew hline hs rfl
  rw [ok.K] at g; exact g
end
end TW

/-! ## a law's defs -/
namespace TW
open PySem PySem.Spec PyProof.Rows L2
abbrev Cn (defs : Nat → IDef) (K : PySem.W.Frag) (T : List NdefX.NTab) (cls : Nat → Addr) (n : Nat) : Ctx := ⟨K, T, cls, sems defs n⟩
theorem sig_ok (defs : Nat → IDef) (K : PySem.W.Frag) (T : List NdefX.NTab) (cls : Nat → Addr) (n : Nat) : SigOk (Cn defs K T cls n) fun f => (defs f).sig := fun f => by
  cases n with
  | zero => exact .inl fun _ => rfl
  | succ n => exact .inr ⟨rfl, rfl, rfl⟩
/-- what a caller knows of a def -/
structure Cal (defs : Nat → IDef) (P : Program) (w : World) (K : PySem.W.Frag) (mg : Str → Option Value) (base : Heap) (T : List NdefX.NTab) (cls : Nat → Addr) (n f : Nat) (x : Str) (a : Addr) (fd : FuncData) (ps : List Str) : Prop where
  F : FnOk P w K mg base (L2.CX P w) (n + 1) a fd ps (spF (Cn defs K T cls n) (sems defs n f))
  g : mg x = some (.ref a)
  k : PySem.W.keepIn K (.ref a) = true
  b : Binds K fd ps []
/-- what is known of an exception's class -/
structure Exc (K : PySem.W.Frag) (mg : Str → Option Value) (x : Str) (a : Addr) : Prop where
  e : PySem.W.excIn K a [.type "ValueError", .type "Exception", .type "BaseException", .type "object"] "ValueError.__new__" = true
  g : mg x = some (.ref a)
  k : PySem.W.keepIn K (.ref a) = true
  b : PySem.W.subIn K (.ref a) (.type "BaseException") = some true
  t : PySem.W.typeIn K (.ref a) = some (.type "type")
/-- a module's number -/
theorem d_glob {X : Cx} {C : Ctx} {W : WX} {pos : Pos} {x : Str} {i : Int} (h : ∃ t, X.mg x = some (.int i t)) (hg : Gl X x := by rfl) (hd : (x == ("__debug__" : Str)) = false := by decide) : PE X (.Name x pos) (rdE C (.cst (.int i)) W) := by
  obtain ⟨t, hm⟩ := h
  refine ⟨fun pins s σ H Q I hw => ?_⟩
  obtain ⟨v, hv, q⟩ := hw
  cases hv
  exact ld_glob I hg hm ⟨.int i, H, I, ⟨t, rfl⟩, q⟩ hd
theorem d_dic1 {X : Cx} {C : Ctx} {W : WX} {pos : Pos} {k v : Expr} {a b : IE} (hk : PE X k (rdE C a W)) (hv : PE X v (rdE C b W)) : PE X (.Dict [some k] [v] pos) (rdE C (.dic1 a b) W) := pe_disp (pps_cons hk hv pps_nil) rfl rfl (by simp) (by simp)
end TW

namespace TW
open PySem PySem.Spec PyProof.Rows L2
abbrev FnP (K : PySem.W.Frag) (x : Str) (st : Stmt) (f : Addr) (fd : FuncData) : Prop := FunD K x x (defArgs st) (defBody st) (defScope st) [] [] f fd
theorem fn_okD {P : Program} {w : World} {mg : Str → Option Value} {base : Heap} {C : Ctx} {sg : Nat → Sig} (so : SigOk C sg) {d : IDef} (ok : d.ok sg = true) {x : Str} {st : Stmt} {f : Addr} {fd : FuncData} {N ps : List Str} {k : Nat}
    (F : FnP C.K x st f fd) (S : FnScope N ps (defScope st)) (hN : N.length = d.ns) (hp : ps.length = d.np)
    (der : ∀ (cdv : Value) (A : Around) (outer : List PySem.Env) (s : Shared) (H : Hp) (E : XK), Room k (A.deeper (envOfC x (defScope st) s.heap.objs.size f cdv)) →
      PSs (cxOf (L2.CX P w) P w C.K mg base N x (defScope st) f cdv A outer s H E) (defBody st) (rdSs C d.body (WOf E))) : FnOk P w C.K mg base (L2.CX P w) (k + 1) f fd ps (spF C (semOf C.Φ d)) :=
  F.ok S (fun vs H Q E h => by obtain ⟨ds, B, F, hl, hv, _⟩ := h; rw [hp]; exact hv) fun cdv A outer s H vs Q E hr h => ⟨_, der cdv A outer s H E hr, body_ok so ok hN h⟩
theorem fn_noD {P : Program} {w : World} {mg : Str → Option Value} {base : Heap} {C : Ctx} {x : Str} {st : Stmt} {f : Addr} {fd : FuncData} {N ps : List Str} {k : Nat}
    (F : FnP C.K x st f fd) (S : FnScope N ps (defScope st)) : FnOk P w C.K mg base (L2.CX P w) (k + 1) f fd ps (spF C noSem) :=
  F.ok S (fun vs H Q E h => by obtain ⟨ds, B, F, _, _, _, _, h⟩ := h; exact h.elim) fun cdv A outer s H vs Q E hr h => by obtain ⟨ds, B, F, _, _, _, _, h⟩ := h; exact h.elim
/-- the law's own call: what it reckons is what comes out -/
theorem law_sp {C : Ctx} {fs : FnSem} (hT : C.T = []) (hp : fs.np = 1) (hk : fs.pk 0 = .sh) (hr : fs.rk = .im) {ns : List Int} {ms : Env} (h : fs.run [.scr ns] = .ok (.bl true, ms)) {H : Hp} {a : Addr} (hs : SqL C.K H a (ns.map V.int)) :
    spF C fs [.ref a] H (fun v _ => v = .bl true) fun _ _ _ => False := by
  have tab : NdefX.TabsN C.T H := by rw [hT]; intro p hp; cases hp
  refine ⟨[.scr ns], vis H Nil, fun _ => [], by rw [hp]; rfl, by rw [hp]; rfl, Sta.args vis_sub tab ?_ fun i hi => ?_, fun _ _ => rfl, ?_⟩
  · exact ⟨.ref a, [], rfl, ⟨a, rfl, vis_ext.sq hs⟩, rfl⟩
  · have : i = 0 := by simp at hi; exact hi
    subst this; exact hk
  · rw [h]
    intro v B' H' F' f st sta has
    have r := has.rep
    rw [hr] at r
    simp only [vrep, scV, Option.some.injEq] at r
    exact r.1.symm
theorem exc_mk {K : PySem.W.Frag} {h : Heap} {mg : Str → Option Value} {x : Str} (X : K.In h) (G : h.Ns mainGlobals mg) (c : (He.Fa.exc x).ok K = true) (g : (He.Fa.glo x).ok K = true) : Exc K mg x (He.ga K x) := by
  obtain ⟨h1, h2, h3, h4⟩ := He.exc_ok c
  exact ⟨h1, He.glo_ok X G g, h2, h3, h4⟩
section
variable {K : PySem.W.Frag} {T : List NdefX.NTab} {cls : Nat → Addr} {Φ Ψ : Nat → FnSem}
theorem Sta.re {ks : Nat → Kind} {pin : Nat → Option V} {B H : Hp} {σ : L2.St} {ρ : Env} {F : Nat → List Addr} (s : Sta ⟨K, T, cls, Φ⟩ ks pin B H σ ρ F) : Sta ⟨K, T, cls, Ψ⟩ ks pin B H σ ρ F := ⟨s.len, s.sub, s.tab, s.rep, s.nf, s.dj, s.nB, s.pin⟩
theorem Has.re {B H : Hp} {F : Nat → List Addr} {k : Kind} {d : D} {v : V} {f : List Addr} (h : Has ⟨K, T, cls, Φ⟩ B H F k d v f) : Has ⟨K, T, cls, Ψ⟩ B H F k d v f := ⟨h.rep, h.dj, h.nB⟩
theorem spF_imp {fs : FnSem} {vs : List V} {H : Hp} {Q : VK} {E : XK} (h : spF ⟨K, T, cls, Φ⟩ fs vs H Q E) : spF ⟨K, T, cls, Ψ⟩ fs vs H Q E := by
  obtain ⟨ds, B, F, h1, h2, sta, h3, h⟩ := h
  refine ⟨ds, B, F, h1, h2, sta.re, h3, ?_⟩
  cases er : fs.run ds with
  | bad => rw [er] at h; exact h
  | exc c => rw [er] at h; exact h
  | ok q =>
    obtain ⟨d, ms⟩ := q
    rw [er] at h
    exact fun v B' H' F' f st sta has => h v B' H' F' f st sta.re has.re
/-- a promise has nothing of the other defs -/
theorem spF_eq {fs : FnSem} : spF ⟨K, T, cls, Φ⟩ fs = spF ⟨K, T, cls, Ψ⟩ fs := by
  funext vs H Q E
  exact propext ⟨spF_imp, spF_imp⟩
end
theorem walk_ofEB {l : PySem.W.OpenLaw} {n k : Nat} {q : Program} {loose : List Str} {XP : (Str → Option Value) → Heap → Prop} {YP : World → Heap → Prop} {d : DefRec} {CX : World → CXT} {x : Str}
    (hn : l.most = some n) (hn2 : n ≤ sizeLine) (hdf : d.params.defaults = []) (hr : Room k callerA)
    (F : ∀ (w : World) (mg : Str → Option Value) (fa : Addr) (h : Heap), YP w h → h.Ns mainGlobals mg → mg d.name = some (.ref fa) →
      ∃ (K : PySem.W.Frag) (fd : FuncData) (sp : Sp), K.In h ∧ (∀ (s : Shared) (u : Value), BindsTo s fd ⟨[u], []⟩ [(x, u)]) ∧
        (∀ (H : Hp) (a : Addr) (ns : List Int), ns.length ≤ n → (∀ z ∈ ns, Builtin.Int.intBits z ≤ 1048576) → SqL K H a (ns.map V.int) → sp [.ref a] H (fun v _ => v = .bl true) fun _ _ _ => False) ∧
        ∀ base : Heap, K.In base → base.Ns mainGlobals mg → FnOk l.prog w K mg base (CX w) k fa fd [x] sp)
    (hCX : ∀ (w : World) (H : Hp) (s : Shared) (e : Value) (s' : Shared), CX w [] H s (fun _ _ _ => False) e s' → False) :
    PySem.W.WalkO q loose XP YP l.row.toRowW d [] (fun f vs => PySem.call f vs) := by
  refine Att.attach_callB hn hdf fun w s₀ s₁ mg mb fa o pm cd doc a vs ns G Y ho hd hcd hmg hobj hints hlen hbits hg => ?_
  obtain ⟨K, fd, sp, KX, hb, hsp, hF⟩ := F w mg fa _ Y G.T.g hmg
  exact law_call KX G.T.g G.T.b G.T.builtins G.T.nolimit hg hobj hints (Nat.le_trans hlen hn2) hr hF hb (fun H hO hS => hsp H a ns hlen hbits hS) fun H e s' => hCX w H s₁ e s'
theorem cx_no {P : Program} (w : World) (H : Hp) (s : Shared) (e : Value) (s' : Shared) (h : L2.CX P w [] H s (fun _ _ _ => False) e s') : False := by
  obtain ⟨_, _, _, _, _, _, _, _, _, _, _, _, z⟩ := h
  exact z
end TW

namespace TW
open PySem
def d_are_unlike_places : IDef := ⟨2, 3, [.sh, .sh, .sh], .im, (.cons (.for .lst (.var 1) (.cst .non) (.cst .non) (.nm 2) (.cons (.ifs (.or (.op2 .lt (.var 2) (.cst (.int 0))) (.op2 .ge (.var 2) (.var 0))) (.cons (.ret (.cst (.bl false))) .nil) .nil) .nil)) (.cons (.ret (.op2 .eqI (.op1 .lenSet (.var 1)) (.op1 .len (.var 1)))) .nil))⟩
def d_steps_from : IDef := ⟨2, 6, [.sh, .sh, .top, .sh, .sh, .sh], .top, (.cons (.asg (.nm 2) (.lst .nil)) (.cons (.for .lst (.var 0) (.cst .non) (.cst .non) (.lsp [3, 4, 5]) (.cons (.ifs (.op2 .eqI (.var 3) (.var 1)) (.cons (.app 2 (.tup (.cons (.op1 .sc (.var 4)) (.cons (.op1 .sc (.var 5)) .nil)))) .nil) .nil) (.cons (.ifs (.op2 .eqI (.var 4) (.var 1)) (.cons (.app 2 (.tup (.cons (.op1 .sc (.var 3)) (.cons (.op1 .sc (.var 5)) .nil)))) .nil) .nil) .nil))) (.cons (.ret (.mv 2)) .nil)))⟩
def d_spread : IDef := ⟨3, 8, [.sh, .sh, .sh, .top, .top, .sh, .sh, .sh], .top, (.cons (.asg (.nm 3) (.dic1 (.op1 .sc (.var 1)) (.op1 .sc (.var 1)))) (.cons (.asg (.nm 4) (.lst (.cons (.op1 .sc (.var 1)) .nil))) (.cons (.asg (.nm 5) (.cst (.int 0))) (.cons (.whl (.op2 .lt (.var 5) (.op1 .len (.var 4))) (.cons (.for .lst (.call 1 (.cons (.var 0) (.cons (.op1 .sc (.op2 .subL (.var 4) (.var 5))) .nil))) (.cst .non) (.cst .non) (.tup [6, 7]) (.cons (.ifs (.and (.op2 .ninK (.var 6) (.var 3)) (.op2 .ninL (.var 6) (.var 2))) (.cons (.setk 3 (.op1 .sc (.var 6)) (.op1 .sc (.op2 .subL (.var 4) (.var 5)))) (.cons (.app 4 (.op1 .sc (.var 6))) .nil)) .nil) .nil)) (.cons (.aug 5 .addI (.cst (.int 1))) .nil))) (.cons (.ret (.mv 3)) .nil)))))⟩
def d_is_tree : IDef := ⟨2, 3, [.sh, .sh, .sh], .im, (.cons (.ifs (.or (.op2 .lt (.var 0) (.cst (.int 1))) (.or (.op2 .gt (.var 0) (.cst (.int 12))) (.op2 .neI (.op1 .len (.var 1)) (.op2 .subI (.var 0) (.cst (.int 1)))))) (.cons (.ret (.cst (.bl false))) .nil) .nil) (.cons (.for .lst (.var 1) (.cst .non) (.cst .non) (.nm 2) (.cons (.ifs (.or (.op2 .neI (.op1 .len (.var 2)) (.cst (.int 3))) (.or (.op2 .lt (.op2 .subL (.var 2) (.cst (.int 2))) (.cst (.int 1))) (.not (.call 0 (.cons (.op1 .sc (.var 0)) (.cons (.op1 .scl (.op2 .slcHi (.var 2) (.cst (.int 2)))) .nil)))))) (.cons (.ret (.cst (.bl false))) .nil) .nil) .nil)) (.cons (.ret (.op2 .eqI (.op1 .len (.call 2 (.cons (.var 1) (.cons (.cst (.int 0)) (.cons (.lst .nil) .nil))))) (.var 0))) .nil)))⟩
def d__law_mix : IDef := ⟨2, 3, [.sh, .sh, .sh], .im, (.cons (.asg (.nm 2) (.op2 .mod (.op2 .mulI (.op2 .addI (.op2 .addI (.op2 .mulI (.var 0) (.var 0)) (.op2 .mulI (.var 1) (.var 0))) (.op2 .mulI (.op2 .mulI (.cst (.int 7)) (.var 1)) (.var 1))) (.cst (.int 1103515245))) (.cst (.int 2147483629)))) (.cons (.ret (.op2 .mod (.op2 .mulI (.var 2) (.var 2)) (.cst (.int 2147483587)))) .nil))⟩
def d__law_whole : IDef := ⟨1, 1, [.sh], .im, (.cons (.ret (.op1 .sc (.and (.op1 .isInt (.var 0)) (.not (.op1 .isBool (.var 0)))))) .nil)⟩
def d__law_cell_at : IDef := ⟨2, 2, [.sh, .sh], .im, (.cons (.ifs (.op2 .lt (.var 1) (.op1 .len (.var 0))) (.cons (.ret (.op1 .sc (.op2 .subL (.var 0) (.var 1)))) .nil) .nil) (.cons (.ret (.cst (.int 0))) .nil))⟩
def d__law_older : IDef := ⟨2, 3, [.sh, .sh, .sh], .im, (.cons (.asg (.nm 2) (.call 4 (.cons (.op2 .addI (.op2 .fdiv (.var 0) (.cst (.int 5))) (.op2 .mulI (.var 1) (.var 1))) (.cons (.cst (.int 1)) .nil)))) (.cons (.ret (.op1 .sc (.op2 .subL (.lst (.cons (.op2 .subI (.var 1) (.cst (.int 1))) (.cons (.cst (.int 0)) (.cons (.op2 .mod (.var 2) (.var 1)) (.cons (.op2 .max2 (.cst (.int 0)) (.op2 .subI (.op2 .subI (.var 1) (.cst (.int 1))) (.op2 .mod (.var 2) (.cst (.int 3))))) (.cons (.op2 .fdiv (.op2 .subI (.var 1) (.cst (.int 1))) (.cst (.int 2))) .nil)))))) (.op2 .mod (.var 0) (.cst (.int 5)))))) .nil))⟩
def d__law_size_8 : IDef := ⟨2, 4, [.sh, .sh, .sh, .sh], .im, (.cons (.asg (.nm 2) (.call 4 (.cons (.op2 .addI (.var 0) (.op2 .mulI (.op2 .mulI (.cst (.int 3)) (.var 1)) (.var 1))) (.cons (.cst (.int 2)) .nil)))) (.cons (.asg (.nm 3) (.lst (.cons (.op2 .addI (.cst (.int 1)) (.op2 .mod (.var 2) (.cst (.int 9)))) (.cons (.op2 .addI (.cst (.int 1)) (.op2 .mod (.var 2) (.cst (.int 2)))) (.cons (.op2 .addI (.op2 .mulI (.op2 .addI (.cst (.int 1)) (.op2 .mod (.var 2) (.cst (.int 4)))) (.op2 .pow (.cst (.int 10)) (.cst (.int 30)))) (.op2 .mod (.var 2) (.cst (.int 5)))) (.cons (.op2 .addI (.cst (.int 1)) (.op2 .mod (.op2 .mulI (.var 0) (.var 2)) (.op2 .pow (.cst (.int 10)) (.cst (.int 39))))) .nil)))))) (.cons (.ret (.op1 .sc (.op2 .subL (.var 3) (.op2 .mod (.op2 .fdiv (.var 0) (.cst (.int 5))) (.cst (.int 4)))))) .nil)))⟩
def d__law_hung : IDef := ⟨3, 9, [.deep, .sh, .sh, .sh, .sh, .sh, .sh, .sh, .sh], .im, (.cons (.asg (.nm 3) (.lc .r1 (.var 1) (.cst .non) (.cst .non) (.nm 5) (.cst (.bl true)) (.op1 .len (.lc .lst (.var 0) (.cst .non) (.cst .non) (.nm 8) (.op2 .inL (.var 5) (.op2 .slcHi (.var 8) (.cst (.int 2)))) (.op1 .opq (.var 8)))))) (.cons (.asg (.nm 4) (.lc .r1 (.var 1) (.cst .non) (.cst .non) (.nm 5) (.op2 .eqI (.op2 .subL (.var 3) (.var 5)) (.cst (.int 1))) (.op1 .sc (.var 5)))) (.cons (.asg (.nm 5) (.op2 .subL (.var 4) (.op2 .mod (.call 4 (.cons (.op1 .sc (.var 2)) (.cons (.cst (.int 8)) .nil))) (.op1 .len (.var 4))))) (.cons (.asg (.nm 6) (.op2 .mod (.op2 .addI (.op2 .addI (.var 5) (.cst (.int 1))) (.op2 .mod (.call 4 (.cons (.op1 .sc (.var 2)) (.cons (.cst (.int 9)) .nil))) (.op2 .subI (.var 1) (.cst (.int 1))))) (.var 1))) (.cons (.for .r1 (.op1 .len (.var 0)) (.cst .non) (.cst .non) (.nm 7) (.cons (.ifs (.op2 .inL (.var 5) (.op2 .slcHi (.op2 .subL (.var 0) (.var 7)) (.cst (.int 2)))) (.cons (.seti 0 (.op1 .sc (.var 7)) (.op2 .subL (.lst (.cons (.lst (.cons (.op1 .sc (.var 6)) (.cons (.op1 .sc (.var 5)) (.cons (.op1 .sc (.op2 .subL (.op2 .subL (.var 0) (.var 7)) (.cst (.int 2)))) .nil)))) (.cons (.lst (.cons (.op1 .sc (.var 5)) (.cons (.op1 .sc (.var 6)) (.cons (.op1 .sc (.op2 .subL (.op2 .subL (.var 0) (.var 7)) (.cst (.int 2)))) .nil)))) .nil))) (.op2 .mod (.var 2) (.cst (.int 2))))) .nil) .nil) .nil)) .nil)))))⟩
def d__law_tree_10 : IDef := ⟨1, 10, [.sh, .sh, .sh, .sh, .top, .sh, .deep, .sh, .sh, .sh], .deep, (.cons (.asg (.nm 1) (.call 6 (.cons (.var 0) (.cons (.cst (.int 0)) .nil)))) (.cons (.asg (.nm 2) (.op2 .subL (.lst (.cons (.op2 .addI (.cst (.int 1)) (.op2 .mod (.op2 .fdiv (.var 1) (.cst (.int 4))) (.cst (.int 12)))) (.cons (.op2 .addI (.cst (.int 1)) (.op2 .mod (.op2 .fdiv (.var 1) (.cst (.int 4))) (.cst (.int 6)))) (.cons (.cst (.int 12)) (.cons (.op2 .addI (.cst (.int 1)) (.op2 .mod (.op2 .fdiv (.var 1) (.cst (.int 4))) (.cst (.int 12)))) .nil))))) (.op2 .mod (.var 1) (.cst (.int 4))))) (.cons (.asg (.nm 3) (.call 6 (.cons (.var 0) (.cons (.cst (.int 1)) .nil)))) (.cons (.asg (.nm 4) (.lst .nil)) (.cons (.for .r1 (.var 2) (.cst .non) (.cst .non) (.nm 5) (.cons (.ins 4 (.op2 .mod (.call 4 (.cons (.op2 .addI (.var 3) (.op2 .mulI (.var 5) (.var 5))) (.cons (.cst (.int 3)) .nil))) (.op2 .addI (.var 5) (.cst (.int 1)))) (.op1 .sc (.var 5))) .nil)) (.cons (.asg (.nm 6) (.lst .nil)) (.cons (.for .r2 (.cst (.int 1)) (.var 2) (.cst .non) (.nm 5) (.cons (.asg (.nm 8) (.lst (.cons (.op1 .sc (.op2 .subL (.var 4) (.call 7 (.cons (.op1 .sc (.var 3)) (.cons (.op1 .sc (.var 5)) .nil))))) (.cons (.op1 .sc (.op2 .subL (.var 4) (.var 5))) .nil)))) (.cons (.ifs (.op2 .eqI (.op2 .mod (.call 4 (.cons (.op2 .addI (.var 3) (.var 5)) (.cons (.cst (.int 4)) .nil))) (.cst (.int 2))) (.cst (.int 0))) (.cons (.asg (.nm 8) (.op1 .revL (.var 8))) .nil) .nil) (.cons (.ins 6 (.op2 .mod (.call 4 (.cons (.op2 .addI (.var 3) (.var 5)) (.cons (.cst (.int 5)) .nil))) (.var 5)) (.op1 .scl (.op2 .cat (.var 8) (.lst (.cons (.call 8 (.cons (.op1 .sc (.var 3)) (.cons (.op1 .sc (.var 5)) .nil))) .nil))))) .nil)))) (.cons (.for .lst (.slc (.var 0) (.cst (.int 3)) (.cst (.int 63))) (.cst .non) (.cst .non) (.nm 7) (.cons (.ifs (.and (.op2 .gt (.var 2) (.cst (.int 1))) (.op2 .eqI (.op2 .mod (.var 7) (.cst (.int 2))) (.cst (.int 0)))) (.cons (.exp (.callM 9 6 (.cons (.op1 .sc (.var 2)) (.cons (.op2 .fdiv (.var 7) (.cst (.int 2))) .nil)))) .nil) .nil) (.cons (.ifs (.and (.op2 .gt (.var 2) (.cst (.int 1))) (.op2 .eqI (.op2 .mod (.var 7) (.cst (.int 2))) (.cst (.int 1)))) (.cons (.asg (.nm 9) (.op2 .mod (.call 4 (.cons (.op1 .sc (.var 7)) (.cons (.cst (.int 6)) .nil))) (.op2 .subI (.var 2) (.cst (.int 1))))) (.cons (.set2 6 (.var 9) (.cst (.int 2)) (.op2 .addI (.cst (.int 1)) (.op2 .mod (.op2 .addI (.op2 .subL (.op2 .subL (.var 6) (.var 9)) (.cst (.int 2))) (.op2 .mod (.call 4 (.cons (.op1 .sc (.var 7)) (.cons (.cst (.int 7)) .nil))) (.cst (.int 9)))) (.op2 .pow (.cst (.int 10)) (.cst (.int 39)))))) .nil)) .nil) .nil))) (.cons (.ret (.tup (.cons (.op1 .sc (.var 2)) (.cons (.mv 6) .nil)))) .nil)))))))))⟩
def d__law_fars_11 : IDef := ⟨3, 11, [.sh, .sh, .sh, .top, .sh, .sh, .sh, .sh, .sh, .sh, .sh], .deep, (.cons (.asg (.nm 3) (.dic1 (.op1 .sc (.var 2)) (.cst (.int 0)))) (.cons (.for .r1 (.var 0) (.cst .non) (.cst .non) (.nm 4) (.cons (.for .lst (.var 1) (.cst .non) (.cst .non) (.lsp [5, 6, 7]) (.cons (.for .lst (.lst (.cons (.tup (.cons (.op1 .sc (.var 5)) (.cons (.op1 .sc (.var 6)) .nil))) (.cons (.tup (.cons (.op1 .sc (.var 6)) (.cons (.op1 .sc (.var 5)) .nil))) .nil))) (.cst .non) (.cst .non) (.tup [9, 10]) (.cons (.ifs (.and (.op2 .inK (.var 9) (.var 3)) (.op2 .ninK (.var 10) (.var 3))) (.cons (.setk 3 (.op1 .sc (.var 10)) (.op2 .addI (.op2 .subK (.var 3) (.var 9)) (.var 7))) .nil) .nil) .nil)) .nil)) .nil)) (.cons (.ret (.lc .r1 (.var 0) (.cst .non) (.cst .non) (.nm 8) (.cst (.bl true)) (.op1 .sc (.op2 .subK (.var 3) (.var 8))))) .nil)))⟩
def d_must_be_tree : IDef := ⟨2, 2, [.sh, .sh], .im, (.cons (.ifs (.not (.call 3 (.cons (.op1 .sc (.var 0)) (.cons (.var 1) .nil)))) (.cons (.rai 1) .nil) .nil) .nil)⟩
def d_must_be_places : IDef := ⟨2, 3, [.sh, .sh, .sh], .im, (.cons (.for .lst (.var 1) (.cst .non) (.cst .non) (.nm 2) (.cons (.ifs (.or (.op2 .lt (.var 2) (.cst (.int 0))) (.op2 .ge (.var 2) (.var 0))) (.cons (.rai 2) .nil) .nil) .nil)) .nil)⟩
def d_way : IDef := ⟨4, 6, [.sh, .sh, .sh, .sh, .sh, .top], .deep, (.cons (.exp (.call 15 (.cons (.op1 .sc (.var 0)) (.cons (.var 1) .nil)))) (.cons (.exp (.call 16 (.cons (.op1 .sc (.var 0)) (.cons (.lst (.cons (.op1 .sc (.var 2)) (.cons (.op1 .sc (.var 3)) .nil))) .nil)))) (.cons (.asg (.nm 4) (.call 2 (.cons (.var 1) (.cons (.op1 .sc (.var 3)) (.cons (.lst .nil) .nil))))) (.cons (.asg (.nm 5) (.lst (.cons (.op1 .sc (.var 2)) .nil))) (.cons (.whl (.op2 .neI (.op2 .subL (.var 5) (.op1 .neg (.cst (.int 1)))) (.var 3)) (.cons (.app 5 (.op1 .sc (.op2 .subK (.var 4) (.op2 .subL (.var 5) (.op1 .neg (.cst (.int 1))))))) .nil)) (.cons (.ret (.op1 .scl (.mv 5))) .nil))))))⟩
def d_road_length : IDef := ⟨3, 5, [.sh, .sh, .sh, .sh, .sh], .im, (.cons (.ret (.op1 .sc (.op2 .subL (.lc .lst (.call 1 (.cons (.var 0) (.cons (.op1 .sc (.var 1)) .nil))) (.cst .non) (.cst .non) (.tup [3, 4]) (.op2 .eqI (.var 3) (.var 2)) (.op1 .sc (.var 4))) (.cst (.int 0))))) .nil)⟩
def d_far : IDef := ⟨4, 6, [.sh, .sh, .sh, .sh, .sh, .sh], .im, (.cons (.asg (.nm 4) (.call 17 (.cons (.op1 .sc (.var 0)) (.cons (.var 1) (.cons (.op1 .sc (.var 2)) (.cons (.op1 .sc (.var 3)) .nil)))))) (.cons (.ret (.op1 .sumL (.lc .r2 (.cst (.int 1)) (.op1 .len (.var 4)) (.cst .non) (.nm 5) (.cst (.bl true)) (.call 18 (.cons (.var 1) (.cons (.op1 .sc (.op2 .subL (.var 4) (.op2 .subI (.var 5) (.cst (.int 1))))) (.cons (.op1 .sc (.op2 .subL (.var 4) (.var 5))) .nil))))))) .nil))⟩
def d_are_neighbours : IDef := ⟨3, 5, [.sh, .sh, .sh, .sh, .sh], .im, (.cons (.ret (.op2 .inL (.var 2) (.lc .lst (.call 1 (.cons (.var 0) (.cons (.op1 .sc (.var 1)) .nil))) (.cst .non) (.cst .non) (.tup [3, 4]) (.cst (.bl true)) (.op1 .sc (.var 3))))) .nil)⟩
def d_beyond : IDef := ⟨4, 4, [.sh, .sh, .sh, .sh], .deep, (.cons (.exp (.call 15 (.cons (.op1 .sc (.var 0)) (.cons (.var 1) .nil)))) (.cons (.exp (.call 16 (.cons (.op1 .sc (.var 0)) (.cons (.lst (.cons (.op1 .sc (.var 2)) (.cons (.op1 .sc (.var 3)) .nil))) .nil)))) (.cons (.ifs (.not (.call 25 (.cons (.var 1) (.cons (.op1 .sc (.var 2)) (.cons (.op1 .sc (.var 3)) .nil))))) (.cons (.rai 3) .nil) .nil) (.cons (.ret (.op1 .sortK (.call 2 (.cons (.var 1) (.cons (.op1 .sc (.var 3)) (.cons (.lst (.cons (.op1 .sc (.var 2)) .nil)) .nil)))))) .nil))))⟩
def d_law_27 : IDef := ⟨1, 12, [.sh, .sh, .sh, .sh, .sh, .sh, .sh, .sh, .sh, .sh, .top, .sh], .im, (.cons (.asg (.tup [3, 4]) (.call 10 (.cons (.var 0) .nil))) (.cons (.asg (.nm 1) (.lc .lst (.var 4) (.cst .non) (.cst .non) (.nm 2) (.cst (.bl true)) (.op1 .listL (.var 2)))) (.cons (.for .lst (.var 4) (.cst .non) (.cst .non) (.nm 2) (.cons (.for .lst (.lst (.cons (.tup (.cons (.op1 .sc (.op2 .subL (.var 2) (.cst (.int 0)))) (.cons (.op1 .sc (.op2 .subL (.var 2) (.cst (.int 1)))) .nil))) (.cons (.tup (.cons (.op1 .sc (.op2 .subL (.var 2) (.cst (.int 1)))) (.cons (.op1 .sc (.op2 .subL (.var 2) (.cst (.int 0)))) .nil))) .nil))) (.cst .non) (.cst .non) (.tup [5, 6]) (.cons (.asg (.nm 7) (.call 11 (.cons (.op1 .sc (.var 3)) (.cons (.var 4) (.cons (.op1 .sc (.var 5)) .nil))))) (.cons (.asg (.nm 8) (.call 11 (.cons (.op1 .sc (.var 3)) (.cons (.var 4) (.cons (.op1 .sc (.var 6)) .nil))))) (.cons (.asg (.nm 9) (.lc .r1 (.var 3) (.cst .non) (.cst .non) (.nm 11) (.op2 .gt (.op2 .subL (.var 7) (.var 11)) (.op2 .subL (.var 8) (.var 11))) (.op1 .sc (.var 11)))) (.cons (.asg (.nm 10) (.call 26 (.cons (.op1 .sc (.var 3)) (.cons (.var 1) (.cons (.op1 .sc (.var 5)) (.cons (.op1 .sc (.var 6)) .nil)))))) (.cons (.ifs (.or (.not (.op1 .isList (.var 10))) (.op2 .neD (.var 10) (.var 9))) (.cons (.ret (.cst (.bl false))) .nil) .nil) (.cons (.forC (.var 10) (.nm 11) (.not (.call 5 (.cons (.op1 .sc (.var 11)) .nil))) (.bl false)) (.cons (.clr 10) .nil)))))))) .nil)) (.cons (.ret (.op2 .eqD (.var 1) (.var 4))) .nil))))⟩
def d_leaves : IDef := ⟨2, 3, [.sh, .sh, .sh], .deep, (.cons (.exp (.call 15 (.cons (.op1 .sc (.var 0)) (.cons (.var 1) .nil)))) (.cons (.ret (.lc .r1 (.var 0) (.cst .non) (.cst .non) (.nm 2) (.op2 .eqI (.op1 .len (.call 1 (.cons (.var 1) (.cons (.op1 .sc (.var 2)) .nil)))) (.cst (.int 1))) (.op1 .sc (.var 2)))) .nil))⟩
def d_odd_places : IDef := ⟨2, 3, [.sh, .sh, .sh], .deep, (.cons (.exp (.call 15 (.cons (.op1 .sc (.var 0)) (.cons (.var 1) .nil)))) (.cons (.ret (.lc .r1 (.var 0) (.cst .non) (.cst .non) (.nm 2) (.op2 .eqI (.op2 .mod (.op1 .len (.call 1 (.cons (.var 1) (.cons (.op1 .sc (.var 2)) .nil)))) (.cst (.int 2))) (.cst (.int 1))) (.op1 .sc (.var 2)))) .nil))⟩
def d__law_like_36 : IDef := ⟨2, 3, [.sh, .sh, .sh], .im, (.cons (.ifs (.or (.not (.op1 .isList (.var 0))) (.op2 .neD (.var 0) (.var 1))) (.cons (.ret (.cst (.bl false))) .nil) .nil) (.cons (.for .lst (.var 0) (.cst .non) (.cst .non) (.nm 2) (.cons (.ifs (.not (.call 5 (.cons (.op1 .sc (.var 2)) .nil))) (.cons (.ret (.cst (.bl false))) .nil) .nil) .nil)) (.cons (.ret (.cst (.bl true))) .nil)))⟩
def d_law_37 : IDef := ⟨1, 12, [.sh, .sh, .top, .sh, .sh, .sh, .sh, .sh, .sh, .top, .top, .sh], .im, (.cons (.asg (.tup [7, 8]) (.call 10 (.cons (.var 0) .nil))) (.cons (.asg (.nm 1) (.lc .lst (.var 8) (.cst .non) (.cst .non) (.nm 11) (.cst (.bl true)) (.op1 .listL (.var 11)))) (.cons (.asg (.nm 2) (.lst .nil)) (.cons (.for .r1 (.var 7) (.cst .non) (.cst .non) (.nm 3) (.cons (.app 2 (.op1 .sumL (.lc .lst (.var 8) (.cst .non) (.cst .non) (.nm 11) (.cst (.bl true)) (.op2 .addI (.op1 .toInt (.op2 .eqI (.op2 .subL (.var 11) (.cst (.int 0))) (.var 3))) (.op1 .toInt (.op2 .eqI (.op2 .subL (.var 11) (.cst (.int 1))) (.var 3))))))) .nil)) (.cons (.asg (.nm 4) (.lc .r1 (.var 7) (.cst .non) (.cst .non) (.nm 3) (.op2 .eqI (.op2 .subL (.var 2) (.var 3)) (.cst (.int 1))) (.op1 .sc (.var 3)))) (.cons (.asg (.nm 5) (.lc .r1 (.var 7) (.cst .non) (.cst .non) (.nm 3) (.or (.op2 .inT (.op2 .subL (.var 2) (.var 3)) (.tup (.cons (.cst (.int 1)) (.cons (.cst (.int 3)) (.cons (.cst (.int 5)) .nil))))) (.op2 .inT (.op2 .subL (.var 2) (.var 3)) (.tup (.cons (.cst (.int 7)) (.cons (.cst (.int 9)) (.cons (.cst (.int 11)) .nil)))))) (.op1 .sc (.var 3)))) (.cons (.for .r1 (.cst (.int 2)) (.cst .non) (.cst .non) (.nm 6) (.cons (.asg (.nm 9) (.call 34 (.cons (.op1 .sc (.var 7)) (.cons (.var 1) .nil)))) (.cons (.asg (.nm 10) (.call 35 (.cons (.op1 .sc (.var 7)) (.cons (.var 1) .nil)))) (.cons (.ifs (.or (.not (.call 36 (.cons (.var 9) (.cons (.var 4) .nil)))) (.not (.call 36 (.cons (.var 10) (.cons (.var 5) .nil))))) (.cons (.ret (.cst (.bl false))) .nil) .nil) (.cons (.app 9 (.op1 .neg (.cst (.int 1)))) (.cons (.clr 10) .nil)))))) (.cons (.ret (.op2 .eqD (.var 1) (.var 8))) .nil))))))))⟩
def d_fars : IDef := ⟨2, 5, [.sh, .sh, .top, .top, .sh], .top, (.cons (.asg (.nm 2) .dic0) (.cons (.asg (.nm 3) (.call 2 (.cons (.var 0) (.cons (.op1 .sc (.var 1)) (.cons (.lst .nil) .nil))))) (.cons (.for (.dic 3) (.cst .non) (.cst .non) (.cst .non) (.nm 4) (.cons (.setk 2 (.op1 .sc (.var 4)) (.cst (.int 0))) (.cons (.ifs (.op2 .neI (.var 4) (.var 1)) (.cons (.setk 2 (.op1 .sc (.var 4)) (.op2 .addI (.op2 .subK (.var 2) (.op2 .subK (.var 3) (.var 4))) (.call 18 (.cons (.var 0) (.cons (.op1 .sc (.var 4)) (.cons (.op1 .sc (.op2 .subK (.var 3) (.var 4))) .nil)))))) .nil) .nil) .nil))) (.cons (.ret (.mv 2)) .nil))))⟩
def defs (i : Nat) : IDef := match i with
  | 0 => d_are_unlike_places
  | 1 => d_steps_from
  | 2 => d_spread
  | 3 => d_is_tree
  | 4 => d__law_mix
  | 5 => d__law_whole
  | 6 => d__law_cell_at
  | 7 => d__law_older
  | 8 => d__law_size_8
  | 9 => d__law_hung
  | 10 => d__law_tree_10
  | 11 => d__law_fars_11
  | 15 => d_must_be_tree
  | 16 => d_must_be_places
  | 17 => d_way
  | 18 => d_road_length
  | 19 => d_far
  | 25 => d_are_neighbours
  | 26 => d_beyond
  | 27 => d_law_27
  | 34 => d_leaves
  | 35 => d_odd_places
  | 36 => d__law_like_36
  | 37 => d_law_37
  | 43 => d_fars
  | _ => default
end TW

/-! ## sizes of numbers; a def's reckoning -/
namespace TW
open PySem
theorem run_of {defs : Nat → IDef} {n f : Nat} {ds : List D} (h : ds.length = (defs f).np) : (sems defs (n + 1) f).run ds = (match evSs (sems defs n) (defs f).body (start (defs f).ns ds) with
    | .rt x ρ => .ok (x, if (defs f).mut = true then [gt ρ 0] else [])
    | .nx ρ => .ok (.non, if (defs f).mut = true then [gt ρ 0] else [])
    | .exc c => .exc c
    | .bad => .bad) := if_pos h
def Sz (n : Nat) (i : Int) : Prop := i.natAbs < 2 ^ n
theorem Sz.log {n : Nat} {i : Int} (h : Sz n i) : i.natAbs.log2 ≤ n := by
  by_cases z : i.natAbs = 0
  · rw [z]; simp
  · exact Nat.le_of_lt ((Nat.log2_lt z).mpr h)
theorem Sz.ok {n m : Nat} {i j : Int} (h : Sz n i) (g : Sz m j) (l : n + m < 50000000) : mulOk i j = true := by
  have a := h.log
  have b := g.log
  unfold mulOk
  exact decide_eq_true (by omega)
theorem Sz.mono {n m : Nat} {i : Int} (h : Sz n i) (l : n ≤ m) : Sz m i := Nat.lt_of_lt_of_le h (Nat.pow_le_pow_right (by decide) l)
theorem Sz.mul {n m : Nat} {i j : Int} (h : Sz n i) (g : Sz m j) : Sz (n + m) (i * j) := by
  unfold Sz at *
  rw [Int.natAbs_mul, Nat.pow_add]
  exact Nat.mul_lt_mul'' h g
theorem Sz.add {n m k : Nat} {i j : Int} (h : Sz n i) (g : Sz m j) (a : n ≤ k) (b : m ≤ k) : Sz (k + 1) (i + j) := by
  have h := h.mono a
  have g := g.mono b
  unfold Sz at *
  have := Int.natAbs_add_le i j
  rw [Nat.pow_succ]
  omega
theorem Sz.neg {n : Nat} {i : Int} (h : Sz n i) : Sz n (-i) := by
  unfold Sz at *
  rw [Int.natAbs_neg]; exact h
theorem Sz.sub {n m k : Nat} {i j : Int} (h : Sz n i) (g : Sz m j) (a : n ≤ k) (b : m ≤ k) : Sz (k + 1) (i - j) := by
  rw [Int.sub_eq_add_neg]; exact h.add g.neg a b
theorem Sz.mod {n : Nat} {i b : Int} (h0 : 0 < b) (h : b ≤ 2 ^ n) : Sz n (i % b) := by
  unfold Sz
  have h1 := Int.emod_nonneg i (Int.ne_of_gt h0)
  have h2 := Int.emod_lt_of_pos i h0
  have h3 : (2 : Int) ^ n = ((2 ^ n : Nat) : Int) := by simp
  omega
theorem Sz.of {n : Nat} {i : Int} (h0 : -(2 ^ n) < i) (h : i < 2 ^ n) : Sz n i := by
  unfold Sz
  have h3 : (2 : Int) ^ n = ((2 ^ n : Nat) : Int) := by simp
  omega
theorem Sz.small {i : Int} (h0 : -1024 < i) (h : i < 1024) : Sz 10 i := Sz.of (by omega) (by omega)
theorem Sz.div {n : Nat} {i b : Int} (h : Sz n i) (h0 : 0 < b) : Sz (n + 1) (i / b) := by
  unfold Sz at *
  have h1 : i / b * b ≤ i := Int.ediv_mul_le i (Int.ne_of_gt h0)
  have h2 : i < i / b * b + b := Int.lt_ediv_add_one_mul_self i h0 |> fun z => by rw [Int.add_mul, Int.one_mul] at z; exact z
  have key : (i / b).natAbs ≤ i.natAbs := by
    have := Int.natAbs_ediv_le_natAbs i b
    exact this
  rw [Nat.pow_succ]
  omega
end TW

/-! ## loops -/
namespace TW.M
open PySem
theorem for_inv0 {α : Type} {put : D → Env → Option Env} {body : Env → Out} (enc : α → D) (I : List α → Env → Prop) : ∀ (xs pre : List α) (ρ : Env), I pre ρ →
    (∀ (p : List α) (x : α) (r : List α) (ρ : Env), pre ++ xs = p ++ x :: r → I p ρ → ∃ ρ1, put (enc x) ρ = some ρ1 ∧ ∃ ρ2, body ρ1 = .nx ρ2 ∧ I (p ++ [x]) ρ2) →
    ∃ ρ', forGo put body (xs.map enc) ρ = .nx ρ' ∧ I (pre ++ xs) ρ'
  | [], pre, ρ, h, _ => ⟨ρ, rfl, by simpa using h⟩
  | x :: xs, pre, ρ, h, st => by
    obtain ⟨ρ1, h1, ρ2, h2, h3⟩ := st pre x xs ρ rfl h
    obtain ⟨ρ', h4, h5⟩ := for_inv0 enc I xs (pre ++ [x]) ρ2 h3 (fun p y r ρ e i => st p y r ρ (by simpa using e) i)
    refine ⟨ρ', ?_, by simpa using h5⟩
    simp only [List.map_cons, forGo, h1, h2]
    exact h4
/-- a for over things of one kind: what holds behind each -/
theorem for_inv {α : Type} {put : D → Env → Option Env} {body : Env → Out} {ds : List D} {ρ : Env} {o : Out} (h : forGo put body ds ρ = o) (enc : α → D) (xs : List α) (I : List α → Env → Prop) (e : ds = xs.map enc) (h0 : I [] ρ)
    (st : ∀ (p : List α) (x : α) (r : List α) (ρ : Env), xs = p ++ x :: r → I p ρ → ∃ ρ1, put (enc x) ρ = some ρ1 ∧ ∃ ρ2, body ρ1 = .nx ρ2 ∧ I (p ++ [x]) ρ2) : ∃ ρ', o = .nx ρ' ∧ I xs ρ' := by
  obtain ⟨ρ', h1, h2⟩ := for_inv0 enc I xs [] ρ h0 st
  subst e
  exact ⟨ρ', h.symm.trans h1, h2⟩
theorem for_stop0 {α : Type} {put : D → Env → Option Env} {body : Env → Out} (enc : α → D) (I : List α → Env → Prop) (S : Out → Prop) : ∀ (xs pre : List α) (ρ : Env), I pre ρ →
    (∀ (p : List α) (x : α) (r : List α) (ρ : Env), pre ++ xs = p ++ x :: r → I p ρ → ∃ ρ1, put (enc x) ρ = some ρ1 ∧ ((∃ ρ2, body ρ1 = .nx ρ2 ∧ I (p ++ [x]) ρ2) ∨ (S (body ρ1) ∧ ∀ ρ2, body ρ1 ≠ .nx ρ2))) →
    (∃ ρ', forGo put body (xs.map enc) ρ = .nx ρ' ∧ I (pre ++ xs) ρ') ∨ S (forGo put body (xs.map enc) ρ)
  | [], pre, ρ, h, _ => .inl ⟨ρ, rfl, by simpa using h⟩
  | x :: xs, pre, ρ, h, st => by
    obtain ⟨ρ1, h1, ⟨ρ2, h2, h3⟩ | ⟨h2, h3⟩⟩ := st pre x xs ρ rfl h
    · have e : forGo put body ((x :: xs).map enc) ρ = forGo put body (xs.map enc) ρ2 := by simp only [List.map_cons, forGo, h1, h2]
      rcases for_stop0 enc I S xs (pre ++ [x]) ρ2 h3 (fun p y r ρ e i => st p y r ρ (by simpa using e) i) with ⟨ρ', h4, h5⟩ | h4
      · exact .inl ⟨ρ', e.trans h4, by simpa using h5⟩
      · exact .inr (by rw [e]; exact h4)
    · right
      have : forGo put body ((x :: xs).map enc) ρ = body ρ1 := by
        simp only [List.map_cons, forGo, h1]
      rw [this]; exact h2
/-- a for that may end early -/
theorem for_stop {α : Type} {put : D → Env → Option Env} {body : Env → Out} {ds : List D} {ρ : Env} {o : Out} (h : forGo put body ds ρ = o) (enc : α → D) (xs : List α) (I : List α → Env → Prop) (S : Out → Prop) (e : ds = xs.map enc) (h0 : I [] ρ)
    (st : ∀ (p : List α) (x : α) (r : List α) (ρ : Env), xs = p ++ x :: r → I p ρ → ∃ ρ1, put (enc x) ρ = some ρ1 ∧ ((∃ ρ2, body ρ1 = .nx ρ2 ∧ I (p ++ [x]) ρ2) ∨ (S (body ρ1) ∧ ∀ ρ2, body ρ1 ≠ .nx ρ2))) : (∃ ρ', o = .nx ρ' ∧ I xs ρ') ∨ S o := by
  subst e
  subst h
  exact for_stop0 enc I S xs [] ρ h0 st
/-- a while: what holds, what falls -/
theorem whl_inv0 {c : Env → Res (D × Env)} {body : Env → Out} (I : Env → Prop) (Q : Env → Prop) (μ : Env → Nat)
    (st : ∀ ρ, I ρ → (∃ ρ1, c ρ = .ok (.bl true, ρ1) ∧ ∃ ρ2, body ρ1 = .nx ρ2 ∧ I ρ2 ∧ μ ρ2 < μ ρ) ∨ ∃ ρ1, c ρ = .ok (.bl false, ρ1) ∧ Q ρ1) : ∀ (f : Nat) (ρ : Env), I ρ → μ ρ < f → ∃ ρ', whlGo c body f ρ = .nx ρ' ∧ Q ρ'
  | 0, _, _, h => by omega
  | f + 1, ρ, i, h => by
    rcases st ρ i with ⟨ρ1, h1, ρ2, h2, h3, h4⟩ | ⟨ρ1, h1, h2⟩
    · obtain ⟨ρ', h5, h6⟩ := whl_inv0 I Q μ st f ρ2 h3 (by omega)
      refine ⟨ρ', ?_, h6⟩
      simp only [whlGo, h1, h2]
      exact h5
    · exact ⟨ρ1, by simp only [whlGo, h1], h2⟩
theorem whl_inv {c : Env → Res (D × Env)} {body : Env → Out} {ρ : Env} {o : Out} (h : whlGo c body fuelW ρ = o) (I : Env → Prop) (Q : Env → Prop) (μ : Env → Nat) (h0 : I ρ) (hf : μ ρ < 100000)
    (st : ∀ ρ, I ρ → (∃ ρ1, c ρ = .ok (.bl true, ρ1) ∧ ∃ ρ2, body ρ1 = .nx ρ2 ∧ I ρ2 ∧ μ ρ2 < μ ρ) ∨ ∃ ρ1, c ρ = .ok (.bl false, ρ1) ∧ Q ρ1) : ∃ ρ', o = .nx ρ' ∧ Q ρ' := by
  subst h
  exact whl_inv0 I Q μ st fuelW ρ h0 hf
/-- a comprehension -/
theorem lc_map0 {α : Type} {put : D → Env → Option Env} {test elt : Env → Res (D × Env)} {ρ : Env} (enc : α → D) (p : α → Bool) (f : α → D) : ∀ xs : List α,
    (∀ x ∈ xs, ∃ ρ1, put (enc x) ρ = some ρ1 ∧ ∃ ρ2, test ρ1 = .ok (.bl (p x), ρ2) ∧ (p x = true → ∃ ρ3, elt ρ2 = .ok (f x, ρ3))) → lcGo put test elt (xs.map enc) ρ = .ok ((xs.filter p).map f)
  | [], _ => rfl
  | x :: xs, h => by
    obtain ⟨ρ1, h1, ρ2, h2, h3⟩ := h x (by simp)
    have ih := lc_map0 enc p f xs fun y hy => h y (by simp [hy])
    simp only [List.map_cons, lcGo, h1, h2]
    cases hp : p x with
    | true =>
      obtain ⟨ρ3, h4⟩ := h3 hp
      simp only [h4, ih, List.filter_cons, hp, if_true, List.map_cons]
    | false => simp only [ih, List.filter_cons, hp, Bool.false_eq_true, if_false]
theorem lc_map {α : Type} {put : D → Env → Option Env} {test elt : Env → Res (D × Env)} {ds : List D} {ρ : Env} {o : Res (List D)} (h : lcGo put test elt ds ρ = o) (enc : α → D) (xs : List α) (p : α → Bool) (f : α → D) (e : ds = xs.map enc)
    (st : ∀ x ∈ xs, ∃ ρ1, put (enc x) ρ = some ρ1 ∧ ∃ ρ2, test ρ1 = .ok (.bl (p x), ρ2) ∧ (p x = true → ∃ ρ3, elt ρ2 = .ok (f x, ρ3))) : o = .ok ((xs.filter p).map f) := by
  subst e
  exact h.symm.trans (lc_map0 enc p f xs st)
/-- a comprehension without a test -/
theorem lc_all {α : Type} {put : D → Env → Option Env} {elt : Env → Res (D × Env)} {Φ : Nat → FnSem} {ds : List D} {ρ : Env} {o : Res (List D)} (h : lcGo put (evE Φ (.cst (.bl true))) elt ds ρ = o) (enc : α → D) (xs : List α) (f : α → D) (e : ds = xs.map enc)
    (st : ∀ x ∈ xs, ∃ ρ1, put (enc x) ρ = some ρ1 ∧ ∃ ρ3, elt ρ1 = .ok (f x, ρ3)) : o = .ok (xs.map f) := by
  have := lc_map h enc xs (fun _ => true) f e fun x hx => by
    obtain ⟨ρ1, h1, ρ3, h3⟩ := st x hx
    exact ⟨ρ1, h1, ρ1, by simp only [evE], fun _ => ⟨ρ3, h3⟩⟩
  rw [this, List.filter_eq_self.mpr (by simp)]
/-- a def's reckoning -/
theorem run_at {n f : Nat} {ds : List D} {d : IDef} (hd : defs f = d) (h : ds.length = d.np) {X : Res (D × Env)} (g : (match evSs (sems defs n) d.body (start d.ns ds) with
    | .rt x ρ => .ok (x, if d.mut = true then [gt ρ 0] else [])
    | .nx ρ => .ok (.non, if d.mut = true then [gt ρ 0] else [])
    | .exc c => .exc c
    | .bad => .bad) = X) : (sems defs (n + 1) f).run ds = X := by
  subst hd
  exact (run_of h).trans g
theorem run_rt {n f : Nat} {ds : List D} {d : IDef} (hd : defs f = d) (h : ds.length = d.np) (hm : d.mut = false) {x : D} {ρ : Env} (g : evSs (sems defs n) d.body (start d.ns ds) = .rt x ρ) : (sems defs (n + 1) f).run ds = .ok (x, []) :=
  run_at hd h (by rw [g, hm]; rfl)
theorem run_nx {n f : Nat} {ds : List D} {d : IDef} (hd : defs f = d) (h : ds.length = d.np) (hm : d.mut = false) {ρ : Env} (g : evSs (sems defs n) d.body (start d.ns ds) = .nx ρ) : (sems defs (n + 1) f).run ds = .ok (.non, []) :=
  run_at hd h (by rw [g, hm]; rfl)
theorem run_ex {n f : Nat} {ds : List D} {d : IDef} (hd : defs f = d) (h : ds.length = d.np) {c : Nat} (g : evSs (sems defs n) d.body (start d.ns ds) = .exc c) : (sems defs (n + 1) f).run ds = .exc c :=
  run_at hd h (by rw [g])
theorem suc_of {k n : Nat} (h : k + 1 ≤ n) : ∃ m, n = m + 1 ∧ k ≤ m := ⟨n - 1, by omega, by omega⟩
theorem ints_map : ∀ xs : List Int, ints? (xs.map .int) = some xs
  | [] => rfl
  | x :: xs => by simp [ints?, ints_map xs]
theorem eqS_ii (i j : Int) : eqS (.int i) (.int j) = some (decide (i = j)) := by
  show some (i == j) = _
  by_cases h : i = j <;> simp [h]
theorem eqS_bb (i j : Bool) : eqS (.bl i) (.bl j) = some (decide (i = j)) := by
  show some (i == j) = _
  cases i <;> cases j <;> rfl
theorem isSc_i (i : Int) : (D.int i).isSc = true := rfl
theorem isSc_b (i : Bool) : (D.bl i).isSc = true := rfl
theorem isSc_s (i : Str) : (D.str i).isSc = true := rfl
theorem isSc_n : D.non.isSc = true := rfl
theorem isNon_i (i : Int) : (D.int i).isNon = false := rfl
theorem isNon_b (i : Bool) : (D.bl i).isNon = false := rfl
theorem isNon_l (i : List D) : (D.lst i).isNon = false := rfl
theorem isNon_n : D.non.isNon = true := rfl
theorem inF_ints (x : Int) : ∀ xs : List Int, inF (.int x) (xs.map .int) = some (decide (x ∈ xs))
  | [] => by simp [inF, D.isSc]
  | y :: xs => by
    simp only [List.map_cons, inF, eqS_ii, inF_ints x xs]
    by_cases h : y = x <;> by_cases k : x ∈ xs <;> simp [h, k, eq_comm] <;> (intro z; exact h z.symm)
theorem nth_nat {α : Type} (xs : List α) (k : Nat) : nth xs (k : Int) = xs[k]? := by
  unfold nth ixAt
  rw [if_pos (by omega)]
  by_cases h : k < xs.length
  · rw [if_pos (by omega)]; simp
  · rw [if_neg (by omega)]; simp [Nat.le_of_not_lt h]
theorem nth_last {α : Type} (xs : List α) : nth xs (-1) = xs.getLast? := by
  unfold nth ixAt
  rw [if_neg (by omega)]
  by_cases h : xs = []
  · subst h; rfl
  · have := List.length_pos_iff.mpr h
    rw [if_pos (by omega)]
    have e : ((-1 : Int) + xs.length).toNat = xs.length - 1 := by omega
    simp only [Option.bind_some, e, List.getLast?_eq_getElem?]
theorem ints_mapf {α : Type} (f : α → Int) : ∀ xs : List α, ints? (xs.map fun x => .int (f x)) = some (xs.map f)
  | [] => rfl
  | x :: xs => by simp [ints?, ints_mapf f xs]
theorem inF2 (p a b : Int) : inF (.int p) [.int a, .int b] = some (decide (p = a ∨ p = b)) := by
  have := inF_ints p [a, b]
  simpa using this
theorem nth_in {α : Type} {xs : List α} {i : Int} (h0 : 0 ≤ i) (h1 : i < xs.length) : ∃ x ∈ xs, nth xs i = some x := by
  obtain ⟨k, rfl⟩ : ∃ k : Nat, i = k := ⟨i.toNat, by omega⟩
  have hk : k < xs.length := by omega
  exact ⟨xs[k], List.getElem_mem hk, by rw [nth_nat, List.getElem?_eq_getElem hk]⟩
theorem setAt_nat (ds : List D) (k : Nat) (h : k < ds.length) (d : D) : setAt ds (k : Int) d = some (ds.set k d) := by
  unfold setAt ixAt
  rw [if_pos (by omega), if_pos (by omega)]; simp
theorem range_split {L k : Nat} {p r : List Nat} (h : List.range L = p ++ k :: r) : k = p.length ∧ k < L := by
  have h1 : (List.range L)[p.length]? = some k := by rw [h]; simp
  obtain ⟨h2, h3⟩ := List.getElem?_eq_some_iff.mp h1
  simp at h2 h3
  exact ⟨h3.symm, by omega⟩
/-- lists of whole numbers, rows, pairs -/
def li (xs : List Int) : D := .lst (xs.map .int)
def lli (xs : List (List Int)) : D := .lst (xs.map li)
end TW.M

/-! ## trees: a metric of roads -/
namespace TW.M
abbrev Rd := Int × Int × Int
/-- a tree's metric -/
structure TM (V : Int → Prop) (E : Int → Int → Int → Prop) (d : Int → Int → Int) : Prop where
  symm : ∀ x y, d x y = d y x
  self : ∀ x, V x → d x x = 0
  pos : ∀ x y, V x → V y → x ≠ y → 1 ≤ d x y
  four : ∀ x y z w, V x → V y → V z → V w → d x y + d z w ≤ d x z + d y w ∨ d x y + d z w ≤ d x w + d y z
  e : ∀ x y l, E x y l → V x ∧ V y ∧ x ≠ y ∧ 1 ≤ l ∧ d x y = l
  esym : ∀ x y l, E x y l → E y x l
  step : ∀ x y, V x → V y → x ≠ y → ∃ z l, E x z l ∧ d x y = l + d z y
  two : ∀ x z w l m, E x z l → E x w m → z ≠ w → d z w = l + m
  side : ∀ x z l y, E x z l → V y → d x y = l + d z y ∨ d z y = l + d x y
def gvs (r : Int) (g : List Rd) : List Int := g.map (·.1) ++ [r]
/-- leaves put on, the last one first -/
def WF (r : Int) : List Rd → Prop
  | [] => True
  | (v, p, l) :: g => v ∉ gvs r g ∧ p ∈ gvs r g ∧ 1 ≤ l ∧ WF r g
def gd : List Rd → Int → Int → Int
  | [], _, _ => 0
  | (v, p, l) :: g, x, y => if x = v then (if y = v then 0 else l + gd g p y) else if y = v then l + gd g x p else gd g x y
def gE (g : List Rd) (x y l : Int) : Prop := (x, y, l) ∈ g ∨ (y, x, l) ∈ g
theorem gvs_cons {r v p l : Int} {g : List Rd} {x : Int} : x ∈ gvs r ((v, p, l) :: g) ↔ x = v ∨ x ∈ gvs r g := by simp [gvs]
theorem gd_symm : ∀ (g : List Rd) (x y : Int), gd g x y = gd g y x
  | [], _, _ => rfl
  | (v, p, l) :: g, x, y => by
    simp only [gd]
    by_cases h : x = v <;> by_cases k : y = v <;> simp [h, k, gd_symm g p, gd_symm g x y]
theorem gd_self {r : Int} : ∀ (g : List Rd) (x : Int), WF r g → gd g x x = 0
  | [], _, _ => rfl
  | (v, p, l) :: g, x, h => by
    simp only [gd]
    by_cases k : x = v <;> simp [k, gd_self g x h.2.2.2]
theorem gd_pos {r : Int} : ∀ (g : List Rd) (x y : Int), WF r g → x ∈ gvs r g → y ∈ gvs r g → x ≠ y → 1 ≤ gd g x y
  | [], x, y, _, hx, hy, n => by simp [gvs] at hx hy; omega
  | (v, p, l) :: g, x, y, h, hx, hy, n => by
    obtain ⟨h1, h2, h3, h4⟩ := h
    have nn : ∀ y ∈ gvs r g, 0 ≤ gd g p y := fun y hy => by
      by_cases e : p = y
      · rw [← e, gd_self g p h4]; exact Int.le_refl _
      · have := gd_pos g p y h4 h2 hy e; omega
    rw [gvs_cons] at hx hy
    simp only [gd]
    by_cases k : x = v <;> by_cases k2 : y = v <;> simp only [k, k2, if_true, if_false]
    · omega
    · have := nn y (hy.resolve_left k2); omega
    · rw [gd_symm g x p]; have := nn x (hx.resolve_left k); omega
    · exact gd_pos g x y h4 (hx.resolve_left k) (hy.resolve_left k2) n
theorem gd_four {r : Int} : ∀ (g : List Rd) (x y z w : Int), WF r g → x ∈ gvs r g → y ∈ gvs r g → z ∈ gvs r g → w ∈ gvs r g → gd g x y + gd g z w ≤ gd g x z + gd g y w ∨ gd g x y + gd g z w ≤ gd g x w + gd g y z
  | [], _, _, _, _, _, _, _, _, _ => by simp [gd]
  | (v, p, l) :: g, x, y, z, w, h, hx, hy, hz, hw => by
    obtain ⟨h1, h2, h3, h4⟩ := h
    have ih := fun x y z w hx hy hz hw => gd_four g x y z w h4 hx hy hz hw
    have pp := gd_self g p h4
    have tri : ∀ y z, y ∈ gvs r g → z ∈ gvs r g → gd g y z ≤ gd g p y + gd g p z := fun y z hy hz => by
      have := ih y z p p hy hz h2 h2
      have := gd_symm g y p; have := gd_symm g z p; omega
    rw [gvs_cons] at hx hy hz hw
    have pick : ∀ x, (x = v ∨ x ∈ gvs r g) → ∃ x', x' ∈ gvs r g ∧ ((x = v ∧ x' = p) ∨ (x ≠ v ∧ x' = x)) := fun x hx => by
      by_cases k : x = v
      · exact ⟨p, h2, .inl ⟨k, rfl⟩⟩
      · exact ⟨x, hx.resolve_left k, .inr ⟨k, rfl⟩⟩
    obtain ⟨x', mx, cx⟩ := pick x hx
    obtain ⟨y', my, cy⟩ := pick y hy
    obtain ⟨z', mz, cz⟩ := pick z hz
    obtain ⟨w', mw, cw⟩ := pick w hw
    have f := ih x' y' z' w' mx my mz mw
    have t1 := tri x' y' mx my; have t2 := tri x' z' mx mz; have t3 := tri x' w' mx mw
    have t4 := tri y' z' my mz; have t5 := tri y' w' my mw; have t6 := tri z' w' mz mw
    have sx := gd_symm g x' p; have sy := gd_symm g y' p; have sz := gd_symm g z' p; have sw := gd_symm g w' p
    rcases cx with ⟨kx, ex⟩ | ⟨kx, ex⟩ <;> rcases cy with ⟨ky, ey⟩ | ⟨ky, ey⟩ <;> rcases cz with ⟨kz, ez⟩ | ⟨kz, ez⟩ <;> rcases cw with ⟨kw, ew⟩ | ⟨kw, ew⟩ <;>
      simp only [gd, kx, ky, kz, kw, ex, ey, ez, ew, if_true, if_false] at * <;> omega
theorem gE_in {r : Int} : ∀ (g : List Rd) (x y l : Int), WF r g → gE g x y l → x ∈ gvs r g ∧ y ∈ gvs r g ∧ x ≠ y ∧ 1 ≤ l ∧ gd g x y = l
  | [], _, _, _, _, h => by simp [gE] at h
  | (v, p, m) :: g, x, y, l, w, h => by
    obtain ⟨h1, h2, h3, h4⟩ := w
    have old : gE g x y l → _ := gE_in g x y l h4
    simp only [gE, List.mem_cons, Prod.mk.injEq] at h
    rw [gvs_cons, gvs_cons]
    have pv : p ≠ v := fun e => h1 (e ▸ h2)
    have ps := gd_self g p h4
    rcases h with (⟨rfl, rfl, rfl⟩ | h) | (⟨rfl, rfl, rfl⟩ | h)
    · refine ⟨.inl rfl, .inr h2, Ne.symm pv, h3, ?_⟩
      simp [gd, pv, ps]
    · obtain ⟨a, b, c, d, e⟩ := old (.inl h)
      refine ⟨.inr a, .inr b, c, d, ?_⟩
      have xv : x ≠ v := fun e => h1 (e ▸ a)
      have yv : y ≠ v := fun e => h1 (e ▸ b)
      simp [gd, xv, yv, e]
    · refine ⟨.inr h2, .inl rfl, pv, h3, ?_⟩
      simp [gd, pv, ps]
    · obtain ⟨a, b, c, d, e⟩ := old (.inr h)
      refine ⟨.inr a, .inr b, c, d, ?_⟩
      have xv : x ≠ v := fun e => h1 (e ▸ a)
      have yv : y ≠ v := fun e => h1 (e ▸ b)
      simp [gd, xv, yv, e]
theorem gE_cons {v p m x y l : Int} {g : List Rd} : gE ((v, p, m) :: g) x y l ↔ (x = v ∧ y = p ∧ l = m) ∨ (x = p ∧ y = v ∧ l = m) ∨ gE g x y l := by
  simp only [gE, List.mem_cons, Prod.mk.injEq]
  constructor
  · rintro ((h | h) | (⟨a, b, c⟩ | h))
    · exact .inl h
    · exact .inr (.inr (.inl h))
    · exact .inr (.inl ⟨b, a, c⟩)
    · exact .inr (.inr (.inr h))
  · rintro (h | ⟨a, b, c⟩ | (h | h))
    · exact .inl (.inl h)
    · exact .inr (.inl ⟨b, a, c⟩)
    · exact .inl (.inr h)
    · exact .inr (.inr h)
theorem gd_step {r : Int} : ∀ (g : List Rd) (x y : Int), WF r g → x ∈ gvs r g → y ∈ gvs r g → x ≠ y → ∃ z l, gE g x z l ∧ gd g x y = l + gd g z y
  | [], x, y, _, hx, hy, n => by simp [gvs] at hx hy; omega
  | (v, p, m) :: g, x, y, h, hx, hy, n => by
    obtain ⟨h1, h2, h3, h4⟩ := h
    rw [gvs_cons] at hx hy
    have pv : p ≠ v := fun e => h1 (e ▸ h2)
    by_cases kx : x = v
    · refine ⟨p, m, gE_cons.mpr (.inl ⟨kx, rfl, rfl⟩), ?_⟩
      have ky : y ≠ v := fun e => n (kx.trans e.symm)
      simp [gd, kx, ky, pv]
    · have mx := hx.resolve_left kx
      by_cases ky : y = v
      · by_cases xp : x = p
        · refine ⟨v, m, gE_cons.mpr (.inr (.inl ⟨xp, rfl, rfl⟩)), ?_⟩
          simp [gd, ky, pv, xp, gd_self g p h4]
        · obtain ⟨z, l, e1, e2⟩ := gd_step g x p h4 mx h2 xp
          refine ⟨z, l, gE_cons.mpr (.inr (.inr e1)), ?_⟩
          have zv : z ≠ v := fun e => h1 (e ▸ (gE_in g x z l h4 e1).2.1)
          simp [gd, ky, kx, zv, e2]; omega
      · have my := hy.resolve_left ky
        obtain ⟨z, l, e1, e2⟩ := gd_step g x y h4 mx my n
        refine ⟨z, l, gE_cons.mpr (.inr (.inr e1)), ?_⟩
        have zv : z ≠ v := fun e => h1 (e ▸ (gE_in g x z l h4 e1).2.1)
        simp [gd, ky, kx, zv, e2]
theorem gd_two {r : Int} : ∀ (g : List Rd) (x z w l m : Int), WF r g → gE g x z l → gE g x w m → z ≠ w → gd g z w = l + m
  | [], _, _, _, _, _, _, h, _, _ => by simp [gE] at h
  | (v, p, k) :: g, x, z, w, l, m, h, a, b, n => by
    obtain ⟨h1, h2, h3, h4⟩ := h
    have pv : p ≠ v := fun e => h1 (e ▸ h2)
    have no : ∀ x y l, gE g x y l → x ≠ v ∧ y ≠ v := fun x y l q => ⟨fun e => h1 (e ▸ (gE_in g x y l h4 q).1), fun e => h1 (e ▸ (gE_in g x y l h4 q).2.1)⟩
    rw [gE_cons] at a b
    rcases a with ⟨a1, a2, a3⟩ | ⟨a1, a2, a3⟩ | a <;> rcases b with ⟨b1, b2, b3⟩ | ⟨b1, b2, b3⟩ | b
    · exact absurd (a2.trans b2.symm) n
    · exact absurd (b1.symm.trans a1) pv
    · exact absurd a1 (no _ _ _ b).1
    · exact absurd (a1.symm.trans b1) pv
    · exact absurd (a2.trans b2.symm) n
    · have wv := (no _ _ _ b).2
      have := (gE_in g x w m h4 b).2.2.2.2
      simp [gd, a2, wv, a3, ← a1, this]
    · exact absurd b1 (no _ _ _ a).1
    · have wv := (no _ _ _ a).2
      have := (gE_in g x z l h4 a).2.2.2.2
      simp [gd, b2, wv, b3, ← b1, gd_symm g z x, this]; omega
    · simp [gd, (no _ _ _ a).2, (no _ _ _ b).2, gd_two g x z w l m h4 a b n]
theorem gd_side {r : Int} : ∀ (g : List Rd) (x z l y : Int), WF r g → gE g x z l → y ∈ gvs r g → gd g x y = l + gd g z y ∨ gd g z y = l + gd g x y
  | [], _, _, _, _, _, h, _ => by simp [gE] at h
  | (v, p, k) :: g, x, z, l, y, h, a, hy => by
    obtain ⟨h1, h2, h3, h4⟩ := h
    have pv : p ≠ v := fun e => h1 (e ▸ h2)
    have no : ∀ x y l, gE g x y l → x ≠ v ∧ y ≠ v := fun x y l q => ⟨fun e => h1 (e ▸ (gE_in g x y l h4 q).1), fun e => h1 (e ▸ (gE_in g x y l h4 q).2.1)⟩
    rw [gE_cons] at a
    rw [gvs_cons] at hy
    have ps := gd_self g p h4
    rcases a with ⟨a1, a2, a3⟩ | ⟨a1, a2, a3⟩ | a
    · by_cases ky : y = v
      · right; simp [gd, a1, a2, a3, ky, pv, ps]
      · left; simp [gd, a1, a2, a3, ky, pv]
    · by_cases ky : y = v
      · left; simp [gd, a1, a2, a3, ky, pv, ps]
      · right; simp [gd, a1, a2, a3, ky, pv]
    · have ⟨xv, zv⟩ := no _ _ _ a
      by_cases ky : y = v
      · have := gd_side g x z l p h4 a h2
        simp only [gd, xv, zv, ky, if_true, if_false]; omega
      · have := gd_side g x z l y h4 a (hy.resolve_left ky)
        simp only [gd, xv, zv, ky, if_false]; omega
theorem gTM {r : Int} {g : List Rd} (h : WF r g) : TM (· ∈ gvs r g) (gE g) (gd g) where
  symm := gd_symm g
  self := fun x _ => gd_self g x h
  pos := fun x y => gd_pos g x y h
  four := fun x y z w => gd_four g x y z w h
  e := fun x y l => gE_in g x y l h
  esym := fun x y l => Or.symm
  step := fun x y => gd_step g x y h
  two := fun x z w l m => gd_two g x z w l m h
  side := fun x z l y => gd_side g x z l y h
end TW.M

namespace TW.M
/-- come to from a place, along roads, to none that is barred -/
inductive Rch (rs : List Rd) (bar : List Int) (s : Int) : Int → Prop
  | base : Rch rs bar s s
  | step {u v l : Int} : Rch rs bar s u → gE rs u v l → v ∉ bar → Rch rs bar s v
abbrev Pl (n : Nat) (x : Int) : Prop := 0 ≤ x ∧ x < n
def RdOk (n : Nat) (r : Rd) : Prop := Pl n r.1 ∧ Pl n r.2.1 ∧ r.1 ≠ r.2.1 ∧ 1 ≤ r.2.2
structure IsT (n : Nat) (rs : List Rd) : Prop where
  len : rs.length + 1 = n
  ok : ∀ r ∈ rs, RdOk n r
  conn : ∀ v, Pl n v → Rch rs [] 0 v
def nm (r : Rd) : Rd := (min r.1 r.2.1, max r.1 r.2.1, r.2.2)
def nm2 (r : Rd) : Int × Int := (min r.1 r.2.1, max r.1 r.2.1)
theorem nm_eq {a b l x y m : Int} : nm (a, b, l) = nm (x, y, m) ↔ ((a = x ∧ b = y) ∨ (a = y ∧ b = x)) ∧ l = m := by
  simp only [nm, Prod.mk.injEq]; omega
theorem nm2_eq {a b l x y m : Int} : nm2 (a, b, l) = nm2 (x, y, m) ↔ ((a = x ∧ b = y) ∨ (a = y ∧ b = x)) := by
  simp only [nm2, Prod.mk.injEq]; omega
theorem gE_nm {rs : List Rd} {x y l : Int} : gE rs x y l ↔ nm (x, y, l) ∈ rs.map nm := by
  simp only [gE, List.mem_map]
  constructor
  · rintro (h | h)
    · exact ⟨_, h, rfl⟩
    · exact ⟨_, h, nm_eq.mpr ⟨.inr ⟨rfl, rfl⟩, rfl⟩⟩
  · rintro ⟨⟨a, b, c⟩, h, e⟩
    rw [nm_eq] at e
    obtain ⟨⟨rfl, rfl⟩ | ⟨rfl, rfl⟩, rfl⟩ := e
    · exact .inl h
    · exact .inr h
theorem len_of_sub {α : Type} [DecidableEq α] : ∀ {l1 l2 : List α}, l1.Nodup → (∀ x ∈ l1, x ∈ l2) → l1.length ≤ l2.length
  | [], _, _, _ => by simp
  | x :: l1, l2, h, s => by
    rw [List.nodup_cons] at h
    have m := s x (by simp)
    have := len_of_sub (l1 := l1) (l2 := l2.erase x) h.2 fun y hy => by
      have yx : y ≠ x := fun e => h.1 (e ▸ hy)
      exact (List.mem_erase_of_ne yx).mpr (s y (by simp [hy]))
    rw [List.length_erase_of_mem m] at this
    have := List.length_pos_of_mem m
    simp; omega
theorem sub_of_len {α : Type} [DecidableEq α] {l1 l2 : List α} (h : l1.Nodup) (s : ∀ x ∈ l1, x ∈ l2) (l : l2.length ≤ l1.length) : ∀ x ∈ l2, x ∈ l1 := fun x hx => Classical.byContradiction fun n => by
  have := len_of_sub (l1 := x :: l1) (l2 := l2) (List.nodup_cons.mpr ⟨n, h⟩) fun y hy => by
    rcases List.mem_cons.mp hy with rfl | hy
    · exact hx
    · exact s y hy
  simp at this; omega
def plc (n : Nat) : List Int := (List.range n).map fun (k : Nat) => (k : Int)
theorem plc_mem {n : Nat} {x : Int} : x ∈ plc n ↔ Pl n x := by
  simp only [plc, List.mem_map, List.mem_range]
  constructor
  · rintro ⟨k, h, rfl⟩; constructor <;> omega
  · rintro ⟨a, b⟩; exact ⟨x.toNat, by omega, by omega⟩
theorem plc_len {n : Nat} : (plc n).length = n := by simp [plc]
theorem nodup_map {α β : Type} {f : α → β} (hf : ∀ a b, f a = f b → a = b) : ∀ {l : List α}, l.Nodup → (l.map f).Nodup
  | [], _ => by simp
  | x :: l, h => by
    rw [List.nodup_cons] at h
    rw [List.map_cons, List.nodup_cons]
    refine ⟨fun m => ?_, nodup_map hf h.2⟩
    obtain ⟨y, hy, e⟩ := List.mem_map.mp m
    exact h.1 (hf _ _ e ▸ hy)
theorem plc_nd {n : Nat} : (plc n).Nodup := nodup_map (fun a b h => by omega) List.nodup_range
theorem gvs_nd {r : Int} : ∀ {g : List Rd}, WF r g → (gvs r g).Nodup
  | [], _ => by simp [gvs]
  | (v, p, l) :: g, h => by
    show (v :: gvs r g).Nodup
    exact List.nodup_cons.mpr ⟨h.1, gvs_nd h.2.2.2⟩
theorem gvs_len {r : Int} {g : List Rd} : (gvs r g).length = g.length + 1 := by simp [gvs]
theorem cross {rs : List Rd} {s : Int} {S : List Int} (h0 : s ∈ S) {v : Int} (h : Rch rs [] s v) : v ∈ S ∨ ∃ u w l, u ∈ S ∧ w ∉ S ∧ gE rs u w l := by
  induction h with
  | base => exact .inl h0
  | @step u v l a e b ih =>
    rcases ih with ih | ih
    · by_cases m : v ∈ S
      · exact .inl m
      · exact .inr ⟨u, v, l, ih, m, e⟩
    · exact .inr ih
theorem gE_ok {n : Nat} {rs : List Rd} (ok : ∀ r ∈ rs, RdOk n r) {x y l : Int} (h : gE rs x y l) : Pl n x ∧ Pl n y ∧ x ≠ y ∧ 1 ≤ l := by
  rcases h with h | h
  · exact ok _ h
  · obtain ⟨a, b, c, d⟩ := ok _ h
    exact ⟨b, a, Ne.symm c, d⟩
theorem grow {n : Nat} {rs : List Rd} (h : IsT n rs) : ∀ k, k ≤ rs.length → ∃ g R : List Rd, WF 0 g ∧ g.length = k ∧ (rs.map nm).Perm (g.map nm ++ R.map nm) ∧ ∀ x ∈ gvs 0 g, Pl n x
  | 0, _ => ⟨[], rs, trivial, rfl, by simp, fun x hx => by
      simp [gvs] at hx; subst hx; have := h.len; constructor <;> omega⟩
  | k + 1, hk => by
    obtain ⟨g, R, w, gl, pm, sub⟩ := grow h k (by omega)
    have nd := gvs_nd w
    have : ∃ v, Pl n v ∧ v ∉ gvs 0 g := Classical.byContradiction fun no => by
      have := len_of_sub (l1 := plc n) (l2 := gvs 0 g) plc_nd fun x hx => Classical.byContradiction fun z => no ⟨x, plc_mem.mp hx, z⟩
      rw [plc_len, gvs_len, gl] at this
      have := h.len; omega
    obtain ⟨v, pv, nv⟩ := this
    rcases cross (S := gvs 0 g) (by simp [gvs]) (h.conn v pv) with m | ⟨u, x, l, mu, mx, e⟩
    · exact absurd m nv
    obtain ⟨pu, px, ne, hl⟩ := gE_ok h.ok e
    have e1 := gE_nm.mp (Or.symm e : gE rs x u l)
    rw [pm.mem_iff, List.mem_append] at e1
    rcases e1 with e1 | e1
    · exact absurd (gE_in g x u l w (gE_nm.mpr e1)).1 mx
    obtain ⟨r', m', er⟩ := List.mem_map.mp e1
    obtain ⟨R1, R2, rfl⟩ := List.append_of_mem m'
    refine ⟨(x, u, l) :: g, R1 ++ R2, ⟨mx, mu, hl, w⟩, by simp [gl], pm.trans ?_, fun y hy => ?_⟩
    · simp only [List.map_append, List.map_cons, er]
      rw [← List.append_assoc, List.cons_append, ← List.append_assoc]
      exact List.perm_middle
    · rcases gvs_cons.mp hy with rfl | hy
      · exact px
      · exact sub y hy
/-- a tree with its metric -/
structure Tr (n : Nat) (rs : List Rd) (d : Int → Int → Int) : Prop where
  tm : TM (Pl n) (gE rs) d
  len : rs.length + 1 = n
  ok : ∀ r ∈ rs, RdOk n r
  nd : (rs.map nm2).Nodup
theorem g_nd {r : Int} : ∀ {g : List Rd}, WF r g → (g.map nm2).Nodup
  | [], _ => by simp
  | (v, p, l) :: g, h => by
    rw [List.map_cons, List.nodup_cons]
    refine ⟨fun m => ?_, g_nd h.2.2.2⟩
    obtain ⟨⟨a, b, c⟩, ma, e⟩ := List.mem_map.mp m
    rw [nm2_eq] at e
    have := gE_in g a b c h.2.2.2 (.inl ma)
    rcases e with ⟨rfl, rfl⟩ | ⟨rfl, rfl⟩
    · exact h.1 this.1
    · exact h.1 this.2.1
theorem tree_tr {n : Nat} {rs : List Rd} (h : IsT n rs) : ∃ d, Tr n rs d := by
  obtain ⟨g, R, w, gl, pm, sub⟩ := grow h rs.length (Nat.le_refl _)
  have R0 : R = [] := by
    have := pm.length_eq
    simp [gl] at this
    exact this
  subst R0
  simp only [List.map_nil, List.append_nil] at pm
  have gE_iff : ∀ x y l, gE rs x y l ↔ gE g x y l := fun x y l => by rw [gE_nm, gE_nm, pm.mem_iff]
  have all : ∀ x, Pl n x ↔ x ∈ gvs 0 g := fun x => ⟨fun p => sub_of_len (gvs_nd w) (l2 := plc n) (fun y hy => plc_mem.mpr (sub y hy)) (by rw [plc_len, gvs_len, gl]; have := h.len; omega) x (plc_mem.mpr p), sub x⟩
  have T := gTM w
  have e1 : (fun x => x ∈ gvs 0 g) = Pl n := funext fun x => propext (all x).symm
  have e2 : gE g = gE rs := funext fun x => funext fun y => funext fun l => propext (gE_iff x y l).symm
  rw [e1, e2] at T
  refine ⟨gd g, T, h.len, h.ok, ?_⟩
  have p2 := pm.map (fun r : Rd => (r.1, r.2.1))
  simp only [List.map_map] at p2
  exact (p2.nodup_iff).mpr (g_nd w)
end TW.M

namespace TW.M
open PySem
def rd (r : Rd) : D := .lst [.int r.1, .int r.2.1, .int r.2.2]
def rds (rs : List Rd) : D := .lst (rs.map rd)
def pr (p : Int × Int) : D := .tup [.int p.1, .int p.2]
def nb1 (r : Rd) (p : Int) : List (Int × Int) := (if r.1 = p then [(r.2.1, r.2.2)] else []) ++ (if r.2.1 = p then [(r.1, r.2.2)] else [])
/-- the neighbours of a place -/
def nbs (rs : List Rd) (p : Int) : List (Int × Int) := rs.flatMap fun r => nb1 r p
theorem nb1_len (r : Rd) (p : Int) : (nb1 r p).length ≤ 2 := by
  unfold nb1
  by_cases h : r.1 = p <;> by_cases k : r.2.1 = p <;> simp [h, k]
theorem nbs_len (p : Int) : ∀ rs : List Rd, (nbs rs p).length ≤ 2 * rs.length
  | [] => by simp [nbs]
  | r :: rs => by
    have := nbs_len p rs
    have := nb1_len r p
    simp only [nbs, List.flatMap_cons, List.length_append, List.length_cons] at *
    omega
theorem nbs_snoc (rs : List Rd) (r : Rd) (p : Int) : nbs (rs ++ [r]) p = nbs rs p ++ nb1 r p := by
  simp [nbs, List.flatMap_append]
theorem nbs_mem {rs : List Rd} {p v l : Int} : (v, l) ∈ nbs rs p ↔ gE rs p v l := by
  simp only [nbs, List.mem_flatMap, gE, nb1, List.mem_append]
  constructor
  · rintro ⟨⟨a, b, c⟩, h, m | m⟩
    · by_cases e : a = p
      · simp [e] at m; obtain ⟨rfl, rfl⟩ := m; exact .inl (e ▸ h)
      · simp [e] at m
    · by_cases e : b = p
      · simp [e] at m; obtain ⟨rfl, rfl⟩ := m; exact .inr (e ▸ h)
      · simp [e] at m
  · rintro (h | h)
    · exact ⟨_, h, .inl (by simp)⟩
    · exact ⟨_, h, .inr (by simp)⟩
theorem run_steps {n : Nat} (hn : 1 ≤ n) (rs : List Rd) (hl : rs.length ≤ 1000) (p : Int) : (sems defs n 1).run [rds rs, .int p] = .ok (.lst ((nbs rs p).map pr), []) := by
  obtain ⟨n, rfl, -⟩ := suc_of hn
  refine run_at (d := d_steps_from) rfl rfl ?_
  simp only [d_steps_from, evE.eq_1, evE.eq_2, evE.eq_3, evE.eq_4, evE.eq_5, evE.eq_6, evE.eq_7, evE.eq_8, evE.eq_9, evE.eq_10, evE.eq_11, evE.eq_12, evE.eq_13, evE.eq_14, evE.eq_15, evE.eq_16, evE.eq_17, evE.eq_18, evE.eq_19, evE.eq_20, evE.eq_21, evE.eq_22, evEs.eq_1, evEs.eq_2, evS.eq_1, evS.eq_2, evS.eq_3, evS.eq_4, evS.eq_5, evS.eq_6, evS.eq_7, evS.eq_8, evS.eq_9, evS.eq_10, evS.eq_11, evS.eq_12, evS.eq_13, evS.eq_14, evS.eq_15, evS.eq_16, evS.eq_17, evS.eq_18, evS.eq_19, evS.eq_20, evSs.eq_1, evSs.eq_2, TW.gt, TW.st, TW.sts, TW.start, List.map_cons, List.map_nil, List.length_cons, List.length_nil, List.length_map, List.replicate_succ, List.replicate_zero, Nat.reduceAdd, Nat.reduceSub, List.cons_append, List.nil_append, Tg.put, Tg.names, srcRes, srcOf, Sk.out, Sk.pure, wipeE, Op1.run, Op2.run, slc3, okI, okB, okA, isSc_i, isSc_b, isSc_s, isSc_n, isNon_i, isNon_b, isNon_l, isNon_n, eqS_ii, eqS_bb, inF_ints, ints_map, ints_mapf, bit, IDef.mut, kAt, ownK, if_true, if_false, ↓reduceIte, Bool.false_eq_true, decide_true, decide_false, Bool.not_true, Bool.not_false, true_and, and_true, and_self, Option.isSome_some, Option.isSome_none, eq_self, rds]
  generalize hF : forGo _ _ _ _ = o
  obtain ⟨ρ, rfl, a, b, c, rfl⟩ := for_inv hF rd rs (fun pre ρ => ∃ a b c, ρ = [some (rds rs), some (.int p), some (.lst ((nbs pre p).map pr)), a, b, c]) rfl ⟨_, _, _, rfl⟩ (by
    rintro pre ⟨a, b, l⟩ r ρ e ⟨x, y, z, rfl⟩
    refine ⟨_, rfl, ?_⟩
    have len : (nbs pre p).length ≤ 2000 := Nat.le_trans (nbs_len p pre) (by have := congrArg List.length e; simp at this; omega)
    have l1 : (nbs pre p).length < 100000 := by omega
    have l2 : (nbs pre p).length + 1 < 100000 := by omega
    rw [nbs_snoc]
    by_cases h1 : a = p <;> by_cases h2 : b = p <;> simp [h1, h2, l1, l2, evE.eq_1, evE.eq_2, evE.eq_3, evE.eq_4, evE.eq_5, evE.eq_6, evE.eq_7, evE.eq_8, evE.eq_9, evE.eq_10, evE.eq_11, evE.eq_12, evE.eq_13, evE.eq_14, evE.eq_15, evE.eq_16, evE.eq_17, evE.eq_18, evE.eq_19, evE.eq_20, evE.eq_21, evE.eq_22, evEs.eq_1, evEs.eq_2, evS.eq_1, evS.eq_2, evS.eq_3, evS.eq_4, evS.eq_5, evS.eq_6, evS.eq_7, evS.eq_8, evS.eq_9, evS.eq_10, evS.eq_11, evS.eq_12, evS.eq_13, evS.eq_14, evS.eq_15, evS.eq_16, evS.eq_17, evS.eq_18, evS.eq_19, evS.eq_20, evSs.eq_1, evSs.eq_2, TW.gt, TW.st, TW.sts, TW.start, List.map_cons, List.map_nil, List.length_cons, List.length_nil, List.length_map, List.replicate_succ, List.replicate_zero, Nat.reduceAdd, Nat.reduceSub, List.cons_append, List.nil_append, Tg.put, Tg.names, srcRes, srcOf, Sk.out, Sk.pure, wipeE, Op1.run, Op2.run, slc3, okI, okB, okA, isSc_i, isSc_b, isSc_s, isSc_n, isNon_i, isNon_b, isNon_l, isNon_n, eqS_ii, eqS_bb, inF_ints, ints_map, ints_mapf, bit, IDef.mut, kAt, ownK, if_true, if_false, ↓reduceIte, Bool.false_eq_true, decide_true, decide_false, Bool.not_true, Bool.not_false, true_and, and_true, and_self, Option.isSome_some, Option.isSome_none, eq_self, lim, nb1, pr])
  simp [evE.eq_1, evE.eq_2, evE.eq_3, evE.eq_4, evE.eq_5, evE.eq_6, evE.eq_7, evE.eq_8, evE.eq_9, evE.eq_10, evE.eq_11, evE.eq_12, evE.eq_13, evE.eq_14, evE.eq_15, evE.eq_16, evE.eq_17, evE.eq_18, evE.eq_19, evE.eq_20, evE.eq_21, evE.eq_22, evEs.eq_1, evEs.eq_2, evS.eq_1, evS.eq_2, evS.eq_3, evS.eq_4, evS.eq_5, evS.eq_6, evS.eq_7, evS.eq_8, evS.eq_9, evS.eq_10, evS.eq_11, evS.eq_12, evS.eq_13, evS.eq_14, evS.eq_15, evS.eq_16, evS.eq_17, evS.eq_18, evS.eq_19, evS.eq_20, evSs.eq_1, evSs.eq_2, TW.gt, TW.st, TW.sts, TW.start, List.map_cons, List.map_nil, List.length_cons, List.length_nil, List.length_map, List.replicate_succ, List.replicate_zero, Nat.reduceAdd, Nat.reduceSub, List.cons_append, List.nil_append, Tg.put, Tg.names, srcRes, srcOf, Sk.out, Sk.pure, wipeE, Op1.run, Op2.run, slc3, okI, okB, okA, isSc_i, isSc_b, isSc_s, isSc_n, isNon_i, isNon_b, isNon_l, isNon_n, eqS_ii, eqS_bb, inF_ints, ints_map, ints_mapf, bit, IDef.mut, kAt, ownK, if_true, if_false, ↓reduceIte, Bool.false_eq_true, decide_true, decide_false, Bool.not_true, Bool.not_false, true_and, and_true, and_self, Option.isSome_some, Option.isSome_none, eq_self]
theorem dedup_mem {x : Int} : ∀ {xs : List Int}, x ∈ dedup xs ↔ x ∈ xs
  | [] => by simp [dedup]
  | y :: xs => by
    simp only [dedup]
    split
    · rename_i h
      rw [dedup_mem, List.mem_cons]
      constructor
      · exact .inr
      · rintro (rfl | h2)
        · simpa using h
        · exact h2
    · simp [dedup_mem]
theorem dedup_nd : ∀ {xs : List Int}, (dedup xs).Nodup
  | [] => by simp [dedup]
  | y :: xs => by
    simp only [dedup]
    split
    · exact dedup_nd
    · rename_i h
      exact List.nodup_cons.mpr ⟨fun m => h (by simpa using dedup_mem.mp m), dedup_nd⟩
theorem dedup_le : ∀ {xs : List Int}, (dedup xs).length ≤ xs.length
  | [] => by simp [dedup]
  | y :: xs => by
    have := dedup_le (xs := xs)
    simp only [dedup]
    split <;> simp <;> omega
theorem dedup_len : ∀ {xs : List Int}, (dedup xs).length = xs.length ↔ xs.Nodup
  | [] => by simp [dedup]
  | y :: xs => by
    have l := dedup_le (xs := xs)
    simp only [dedup]
    rw [List.nodup_cons]
    split
    · rename_i h
      have m : y ∈ xs := by simpa using h
      constructor
      · intro e; simp at e; omega
      · exact fun z => absurd m z.1
    · rename_i h
      have m : y ∉ xs := by simpa using h
      simp only [List.length_cons, Nat.add_right_cancel_iff, dedup_len]
      exact ⟨fun a => ⟨m, a⟩, fun a => a.2⟩
theorem run_unl {n : Nat} (hn : 1 ≤ n) (many : Int) (xs : List Int) (hl : xs.length < 4000) : (sems defs n 0).run [.int many, li xs] = .ok (.bl (decide ((∀ x ∈ xs, 0 ≤ x ∧ x < many) ∧ xs.Nodup)), []) := by
  obtain ⟨n, rfl, -⟩ := suc_of hn
  refine run_at (d := d_are_unlike_places) rfl rfl ?_
  simp only [d_are_unlike_places, evE.eq_1, evE.eq_2, evE.eq_3, evE.eq_4, evE.eq_5, evE.eq_6, evE.eq_7, evE.eq_8, evE.eq_9, evE.eq_10, evE.eq_11, evE.eq_12, evE.eq_13, evE.eq_14, evE.eq_15, evE.eq_16, evE.eq_17, evE.eq_18, evE.eq_19, evE.eq_20, evE.eq_21, evE.eq_22, evEs.eq_1, evEs.eq_2, evS.eq_1, evS.eq_2, evS.eq_3, evS.eq_4, evS.eq_5, evS.eq_6, evS.eq_7, evS.eq_8, evS.eq_9, evS.eq_10, evS.eq_11, evS.eq_12, evS.eq_13, evS.eq_14, evS.eq_15, evS.eq_16, evS.eq_17, evS.eq_18, evS.eq_19, evS.eq_20, evSs.eq_1, evSs.eq_2, TW.gt, TW.st, TW.sts, TW.start, List.map_cons, List.map_nil, List.length_cons, List.length_nil, List.length_map, List.replicate_succ, List.replicate_zero, Nat.reduceAdd, Nat.reduceSub, List.cons_append, List.nil_append, Tg.put, Tg.names, srcRes, srcOf, Sk.out, Sk.pure, wipeE, Op1.run, Op2.run, slc3, okI, okB, okA, isSc_i, isSc_b, isSc_s, isSc_n, isNon_i, isNon_b, isNon_l, isNon_n, eqS_ii, eqS_bb, inF_ints, ints_map, ints_mapf, bit, IDef.mut, kAt, ownK, if_true, if_false, ↓reduceIte, Bool.false_eq_true, decide_true, decide_false, Bool.not_true, Bool.not_false, true_and, and_true, and_self, Option.isSome_some, Option.isSome_none, eq_self, li]
  generalize hF : forGo _ _ _ _ = o
  rcases for_stop hF D.int xs (fun pre ρ => (∀ x ∈ pre, 0 ≤ x ∧ x < many) ∧ ∃ a, ρ = [some (.int many), some (li xs), a]) (fun o => ∃ ρ, o = .rt (.bl false) ρ ∧ ¬ ∀ x ∈ xs, 0 ≤ x ∧ x < many) rfl ⟨by simp, _, rfl⟩ (by
    rintro pre x r ρ e ⟨h, a, rfl⟩
    refine ⟨_, rfl, ?_⟩
    by_cases h1 : x < 0
    · right
      have m : x ∈ xs := by rw [e]; simp
      refine ⟨⟨_, by simp [h1, evE.eq_1, evE.eq_2, evE.eq_3, evE.eq_4, evE.eq_5, evE.eq_6, evE.eq_7, evE.eq_8, evE.eq_9, evE.eq_10, evE.eq_11, evE.eq_12, evE.eq_13, evE.eq_14, evE.eq_15, evE.eq_16, evE.eq_17, evE.eq_18, evE.eq_19, evE.eq_20, evE.eq_21, evE.eq_22, evEs.eq_1, evEs.eq_2, evS.eq_1, evS.eq_2, evS.eq_3, evS.eq_4, evS.eq_5, evS.eq_6, evS.eq_7, evS.eq_8, evS.eq_9, evS.eq_10, evS.eq_11, evS.eq_12, evS.eq_13, evS.eq_14, evS.eq_15, evS.eq_16, evS.eq_17, evS.eq_18, evS.eq_19, evS.eq_20, evSs.eq_1, evSs.eq_2, TW.gt, TW.st, TW.sts, TW.start, List.map_cons, List.map_nil, List.length_cons, List.length_nil, List.length_map, List.replicate_succ, List.replicate_zero, Nat.reduceAdd, Nat.reduceSub, List.cons_append, List.nil_append, Tg.put, Tg.names, srcRes, srcOf, Sk.out, Sk.pure, wipeE, Op1.run, Op2.run, slc3, okI, okB, okA, isSc_i, isSc_b, isSc_s, isSc_n, isNon_i, isNon_b, isNon_l, isNon_n, eqS_ii, eqS_bb, inF_ints, ints_map, ints_mapf, bit, IDef.mut, kAt, ownK, if_true, if_false, ↓reduceIte, Bool.false_eq_true, decide_true, decide_false, Bool.not_true, Bool.not_false, true_and, and_true, and_self, Option.isSome_some, Option.isSome_none, eq_self] <;> rfl, fun z => by have := z x m; omega⟩, by simp [h1, evE.eq_1, evE.eq_2, evE.eq_3, evE.eq_4, evE.eq_5, evE.eq_6, evE.eq_7, evE.eq_8, evE.eq_9, evE.eq_10, evE.eq_11, evE.eq_12, evE.eq_13, evE.eq_14, evE.eq_15, evE.eq_16, evE.eq_17, evE.eq_18, evE.eq_19, evE.eq_20, evE.eq_21, evE.eq_22, evEs.eq_1, evEs.eq_2, evS.eq_1, evS.eq_2, evS.eq_3, evS.eq_4, evS.eq_5, evS.eq_6, evS.eq_7, evS.eq_8, evS.eq_9, evS.eq_10, evS.eq_11, evS.eq_12, evS.eq_13, evS.eq_14, evS.eq_15, evS.eq_16, evS.eq_17, evS.eq_18, evS.eq_19, evS.eq_20, evSs.eq_1, evSs.eq_2, TW.gt, TW.st, TW.sts, TW.start, List.map_cons, List.map_nil, List.length_cons, List.length_nil, List.length_map, List.replicate_succ, List.replicate_zero, Nat.reduceAdd, Nat.reduceSub, List.cons_append, List.nil_append, Tg.put, Tg.names, srcRes, srcOf, Sk.out, Sk.pure, wipeE, Op1.run, Op2.run, slc3, okI, okB, okA, isSc_i, isSc_b, isSc_s, isSc_n, isNon_i, isNon_b, isNon_l, isNon_n, eqS_ii, eqS_bb, inF_ints, ints_map, ints_mapf, bit, IDef.mut, kAt, ownK, if_true, if_false, ↓reduceIte, Bool.false_eq_true, decide_true, decide_false, Bool.not_true, Bool.not_false, true_and, and_true, and_self, Option.isSome_some, Option.isSome_none, eq_self]⟩
    · by_cases h2 : many ≤ x
      · right
        have m : x ∈ xs := by rw [e]; simp
        refine ⟨⟨_, by simp [h1, h2, evE.eq_1, evE.eq_2, evE.eq_3, evE.eq_4, evE.eq_5, evE.eq_6, evE.eq_7, evE.eq_8, evE.eq_9, evE.eq_10, evE.eq_11, evE.eq_12, evE.eq_13, evE.eq_14, evE.eq_15, evE.eq_16, evE.eq_17, evE.eq_18, evE.eq_19, evE.eq_20, evE.eq_21, evE.eq_22, evEs.eq_1, evEs.eq_2, evS.eq_1, evS.eq_2, evS.eq_3, evS.eq_4, evS.eq_5, evS.eq_6, evS.eq_7, evS.eq_8, evS.eq_9, evS.eq_10, evS.eq_11, evS.eq_12, evS.eq_13, evS.eq_14, evS.eq_15, evS.eq_16, evS.eq_17, evS.eq_18, evS.eq_19, evS.eq_20, evSs.eq_1, evSs.eq_2, TW.gt, TW.st, TW.sts, TW.start, List.map_cons, List.map_nil, List.length_cons, List.length_nil, List.length_map, List.replicate_succ, List.replicate_zero, Nat.reduceAdd, Nat.reduceSub, List.cons_append, List.nil_append, Tg.put, Tg.names, srcRes, srcOf, Sk.out, Sk.pure, wipeE, Op1.run, Op2.run, slc3, okI, okB, okA, isSc_i, isSc_b, isSc_s, isSc_n, isNon_i, isNon_b, isNon_l, isNon_n, eqS_ii, eqS_bb, inF_ints, ints_map, ints_mapf, bit, IDef.mut, kAt, ownK, if_true, if_false, ↓reduceIte, Bool.false_eq_true, decide_true, decide_false, Bool.not_true, Bool.not_false, true_and, and_true, and_self, Option.isSome_some, Option.isSome_none, eq_self] <;> rfl, fun z => by have := z x m; omega⟩, by simp [h1, h2, evE.eq_1, evE.eq_2, evE.eq_3, evE.eq_4, evE.eq_5, evE.eq_6, evE.eq_7, evE.eq_8, evE.eq_9, evE.eq_10, evE.eq_11, evE.eq_12, evE.eq_13, evE.eq_14, evE.eq_15, evE.eq_16, evE.eq_17, evE.eq_18, evE.eq_19, evE.eq_20, evE.eq_21, evE.eq_22, evEs.eq_1, evEs.eq_2, evS.eq_1, evS.eq_2, evS.eq_3, evS.eq_4, evS.eq_5, evS.eq_6, evS.eq_7, evS.eq_8, evS.eq_9, evS.eq_10, evS.eq_11, evS.eq_12, evS.eq_13, evS.eq_14, evS.eq_15, evS.eq_16, evS.eq_17, evS.eq_18, evS.eq_19, evS.eq_20, evSs.eq_1, evSs.eq_2, TW.gt, TW.st, TW.sts, TW.start, List.map_cons, List.map_nil, List.length_cons, List.length_nil, List.length_map, List.replicate_succ, List.replicate_zero, Nat.reduceAdd, Nat.reduceSub, List.cons_append, List.nil_append, Tg.put, Tg.names, srcRes, srcOf, Sk.out, Sk.pure, wipeE, Op1.run, Op2.run, slc3, okI, okB, okA, isSc_i, isSc_b, isSc_s, isSc_n, isNon_i, isNon_b, isNon_l, isNon_n, eqS_ii, eqS_bb, inF_ints, ints_map, ints_mapf, bit, IDef.mut, kAt, ownK, if_true, if_false, ↓reduceIte, Bool.false_eq_true, decide_true, decide_false, Bool.not_true, Bool.not_false, true_and, and_true, and_self, Option.isSome_some, Option.isSome_none, eq_self]⟩
      · left
        refine ⟨_, by simp [h1, h2, evE.eq_1, evE.eq_2, evE.eq_3, evE.eq_4, evE.eq_5, evE.eq_6, evE.eq_7, evE.eq_8, evE.eq_9, evE.eq_10, evE.eq_11, evE.eq_12, evE.eq_13, evE.eq_14, evE.eq_15, evE.eq_16, evE.eq_17, evE.eq_18, evE.eq_19, evE.eq_20, evE.eq_21, evE.eq_22, evEs.eq_1, evEs.eq_2, evS.eq_1, evS.eq_2, evS.eq_3, evS.eq_4, evS.eq_5, evS.eq_6, evS.eq_7, evS.eq_8, evS.eq_9, evS.eq_10, evS.eq_11, evS.eq_12, evS.eq_13, evS.eq_14, evS.eq_15, evS.eq_16, evS.eq_17, evS.eq_18, evS.eq_19, evS.eq_20, evSs.eq_1, evSs.eq_2, TW.gt, TW.st, TW.sts, TW.start, List.map_cons, List.map_nil, List.length_cons, List.length_nil, List.length_map, List.replicate_succ, List.replicate_zero, Nat.reduceAdd, Nat.reduceSub, List.cons_append, List.nil_append, Tg.put, Tg.names, srcRes, srcOf, Sk.out, Sk.pure, wipeE, Op1.run, Op2.run, slc3, okI, okB, okA, isSc_i, isSc_b, isSc_s, isSc_n, isNon_i, isNon_b, isNon_l, isNon_n, eqS_ii, eqS_bb, inF_ints, ints_map, ints_mapf, bit, IDef.mut, kAt, ownK, if_true, if_false, ↓reduceIte, Bool.false_eq_true, decide_true, decide_false, Bool.not_true, Bool.not_false, true_and, and_true, and_self, Option.isSome_some, Option.isSome_none, eq_self] <;> rfl, ?_, _, rfl⟩
        intro y hy
        rcases List.mem_append.mp hy with hy | hy
        · exact h y hy
        · simp at hy; subst hy; omega) with ⟨ρ, rfl, h, a, rfl⟩ | ⟨ρ, rfl, h⟩
  · simp only [evE.eq_1, evE.eq_2, evE.eq_3, evE.eq_4, evE.eq_5, evE.eq_6, evE.eq_7, evE.eq_8, evE.eq_9, evE.eq_10, evE.eq_11, evE.eq_12, evE.eq_13, evE.eq_14, evE.eq_15, evE.eq_16, evE.eq_17, evE.eq_18, evE.eq_19, evE.eq_20, evE.eq_21, evE.eq_22, evEs.eq_1, evEs.eq_2, evS.eq_1, evS.eq_2, evS.eq_3, evS.eq_4, evS.eq_5, evS.eq_6, evS.eq_7, evS.eq_8, evS.eq_9, evS.eq_10, evS.eq_11, evS.eq_12, evS.eq_13, evS.eq_14, evS.eq_15, evS.eq_16, evS.eq_17, evS.eq_18, evS.eq_19, evS.eq_20, evSs.eq_1, evSs.eq_2, TW.gt, TW.st, TW.sts, TW.start, List.map_cons, List.map_nil, List.length_cons, List.length_nil, List.length_map, List.replicate_succ, List.replicate_zero, Nat.reduceAdd, Nat.reduceSub, List.cons_append, List.nil_append, Tg.put, Tg.names, srcRes, srcOf, Sk.out, Sk.pure, wipeE, Op1.run, Op2.run, slc3, okI, okB, okA, isSc_i, isSc_b, isSc_s, isSc_n, isNon_i, isNon_b, isNon_l, isNon_n, eqS_ii, eqS_bb, inF_ints, ints_map, ints_mapf, bit, IDef.mut, kAt, ownK, if_true, if_false, ↓reduceIte, Bool.false_eq_true, decide_true, decide_false, Bool.not_true, Bool.not_false, true_and, and_true, and_self, Option.isSome_some, Option.isSome_none, eq_self, li, if_pos hl, List.length_map]
    have : (∀ x ∈ xs, 0 ≤ x ∧ x < many) ∧ xs.Nodup ↔ (dedup xs).length = xs.length := by rw [dedup_len]; exact ⟨fun a => a.2, fun a => ⟨h, a⟩⟩
    simp [this]; omega
  · simp [evE.eq_1, evE.eq_2, evE.eq_3, evE.eq_4, evE.eq_5, evE.eq_6, evE.eq_7, evE.eq_8, evE.eq_9, evE.eq_10, evE.eq_11, evE.eq_12, evE.eq_13, evE.eq_14, evE.eq_15, evE.eq_16, evE.eq_17, evE.eq_18, evE.eq_19, evE.eq_20, evE.eq_21, evE.eq_22, evEs.eq_1, evEs.eq_2, evS.eq_1, evS.eq_2, evS.eq_3, evS.eq_4, evS.eq_5, evS.eq_6, evS.eq_7, evS.eq_8, evS.eq_9, evS.eq_10, evS.eq_11, evS.eq_12, evS.eq_13, evS.eq_14, evS.eq_15, evS.eq_16, evS.eq_17, evS.eq_18, evS.eq_19, evS.eq_20, evSs.eq_1, evSs.eq_2, TW.gt, TW.st, TW.sts, TW.start, List.map_cons, List.map_nil, List.length_cons, List.length_nil, List.length_map, List.replicate_succ, List.replicate_zero, Nat.reduceAdd, Nat.reduceSub, List.cons_append, List.nil_append, Tg.put, Tg.names, srcRes, srcOf, Sk.out, Sk.pure, wipeE, Op1.run, Op2.run, slc3, okI, okB, okA, isSc_i, isSc_b, isSc_s, isSc_n, isNon_i, isNon_b, isNon_l, isNon_n, eqS_ii, eqS_bb, inF_ints, ints_map, ints_mapf, bit, IDef.mut, kAt, ownK, if_true, if_false, ↓reduceIte, Bool.false_eq_true, decide_true, decide_false, Bool.not_true, Bool.not_false, true_and, and_true, and_self, Option.isSome_some, Option.isSome_none, eq_self, h]
theorem run_mbp {n : Nat} (hn : 1 ≤ n) (many : Int) (xs : List Int) : (sems defs n 16).run [.int many, li xs] = if (∀ x ∈ xs, 0 ≤ x ∧ x < many) then .ok (.non, []) else .exc 2 := by
  obtain ⟨n, rfl, -⟩ := suc_of hn
  refine run_at (d := d_must_be_places) rfl rfl ?_
  simp only [d_must_be_places, evE.eq_1, evE.eq_2, evE.eq_3, evE.eq_4, evE.eq_5, evE.eq_6, evE.eq_7, evE.eq_8, evE.eq_9, evE.eq_10, evE.eq_11, evE.eq_12, evE.eq_13, evE.eq_14, evE.eq_15, evE.eq_16, evE.eq_17, evE.eq_18, evE.eq_19, evE.eq_20, evE.eq_21, evE.eq_22, evEs.eq_1, evEs.eq_2, evS.eq_1, evS.eq_2, evS.eq_3, evS.eq_4, evS.eq_5, evS.eq_6, evS.eq_7, evS.eq_8, evS.eq_9, evS.eq_10, evS.eq_11, evS.eq_12, evS.eq_13, evS.eq_14, evS.eq_15, evS.eq_16, evS.eq_17, evS.eq_18, evS.eq_19, evS.eq_20, evSs.eq_1, evSs.eq_2, TW.gt, TW.st, TW.sts, TW.start, List.map_cons, List.map_nil, List.length_cons, List.length_nil, List.length_map, List.replicate_succ, List.replicate_zero, Nat.reduceAdd, Nat.reduceSub, List.cons_append, List.nil_append, Tg.put, Tg.names, srcRes, srcOf, Sk.out, Sk.pure, wipeE, Op1.run, Op2.run, slc3, okI, okB, okA, isSc_i, isSc_b, isSc_s, isSc_n, isNon_i, isNon_b, isNon_l, isNon_n, eqS_ii, eqS_bb, inF_ints, ints_map, ints_mapf, bit, IDef.mut, kAt, ownK, if_true, if_false, ↓reduceIte, Bool.false_eq_true, decide_true, decide_false, Bool.not_true, Bool.not_false, true_and, and_true, and_self, Option.isSome_some, Option.isSome_none, eq_self, li]
  generalize hF : forGo _ _ _ _ = o
  rcases for_stop hF D.int xs (fun pre ρ => (∀ x ∈ pre, 0 ≤ x ∧ x < many) ∧ ∃ a, ρ = [some (.int many), some (li xs), a]) (fun o => o = .exc 2 ∧ ¬ ∀ x ∈ xs, 0 ≤ x ∧ x < many) rfl ⟨by simp, _, rfl⟩ (by
    rintro pre x r ρ e ⟨h, a, rfl⟩
    refine ⟨_, rfl, ?_⟩
    by_cases h1 : x < 0
    · right
      have m : x ∈ xs := by rw [e]; simp
      refine ⟨⟨by simp [h1, evE.eq_1, evE.eq_2, evE.eq_3, evE.eq_4, evE.eq_5, evE.eq_6, evE.eq_7, evE.eq_8, evE.eq_9, evE.eq_10, evE.eq_11, evE.eq_12, evE.eq_13, evE.eq_14, evE.eq_15, evE.eq_16, evE.eq_17, evE.eq_18, evE.eq_19, evE.eq_20, evE.eq_21, evE.eq_22, evEs.eq_1, evEs.eq_2, evS.eq_1, evS.eq_2, evS.eq_3, evS.eq_4, evS.eq_5, evS.eq_6, evS.eq_7, evS.eq_8, evS.eq_9, evS.eq_10, evS.eq_11, evS.eq_12, evS.eq_13, evS.eq_14, evS.eq_15, evS.eq_16, evS.eq_17, evS.eq_18, evS.eq_19, evS.eq_20, evSs.eq_1, evSs.eq_2, TW.gt, TW.st, TW.sts, TW.start, List.map_cons, List.map_nil, List.length_cons, List.length_nil, List.length_map, List.replicate_succ, List.replicate_zero, Nat.reduceAdd, Nat.reduceSub, List.cons_append, List.nil_append, Tg.put, Tg.names, srcRes, srcOf, Sk.out, Sk.pure, wipeE, Op1.run, Op2.run, slc3, okI, okB, okA, isSc_i, isSc_b, isSc_s, isSc_n, isNon_i, isNon_b, isNon_l, isNon_n, eqS_ii, eqS_bb, inF_ints, ints_map, ints_mapf, bit, IDef.mut, kAt, ownK, if_true, if_false, ↓reduceIte, Bool.false_eq_true, decide_true, decide_false, Bool.not_true, Bool.not_false, true_and, and_true, and_self, Option.isSome_some, Option.isSome_none, eq_self], fun z => by have := z x m; omega⟩, by simp [h1, evE.eq_1, evE.eq_2, evE.eq_3, evE.eq_4, evE.eq_5, evE.eq_6, evE.eq_7, evE.eq_8, evE.eq_9, evE.eq_10, evE.eq_11, evE.eq_12, evE.eq_13, evE.eq_14, evE.eq_15, evE.eq_16, evE.eq_17, evE.eq_18, evE.eq_19, evE.eq_20, evE.eq_21, evE.eq_22, evEs.eq_1, evEs.eq_2, evS.eq_1, evS.eq_2, evS.eq_3, evS.eq_4, evS.eq_5, evS.eq_6, evS.eq_7, evS.eq_8, evS.eq_9, evS.eq_10, evS.eq_11, evS.eq_12, evS.eq_13, evS.eq_14, evS.eq_15, evS.eq_16, evS.eq_17, evS.eq_18, evS.eq_19, evS.eq_20, evSs.eq_1, evSs.eq_2, TW.gt, TW.st, TW.sts, TW.start, List.map_cons, List.map_nil, List.length_cons, List.length_nil, List.length_map, List.replicate_succ, List.replicate_zero, Nat.reduceAdd, Nat.reduceSub, List.cons_append, List.nil_append, Tg.put, Tg.names, srcRes, srcOf, Sk.out, Sk.pure, wipeE, Op1.run, Op2.run, slc3, okI, okB, okA, isSc_i, isSc_b, isSc_s, isSc_n, isNon_i, isNon_b, isNon_l, isNon_n, eqS_ii, eqS_bb, inF_ints, ints_map, ints_mapf, bit, IDef.mut, kAt, ownK, if_true, if_false, ↓reduceIte, Bool.false_eq_true, decide_true, decide_false, Bool.not_true, Bool.not_false, true_and, and_true, and_self, Option.isSome_some, Option.isSome_none, eq_self]⟩
    · by_cases h2 : many ≤ x
      · right
        have m : x ∈ xs := by rw [e]; simp
        refine ⟨⟨by simp [h1, h2, evE.eq_1, evE.eq_2, evE.eq_3, evE.eq_4, evE.eq_5, evE.eq_6, evE.eq_7, evE.eq_8, evE.eq_9, evE.eq_10, evE.eq_11, evE.eq_12, evE.eq_13, evE.eq_14, evE.eq_15, evE.eq_16, evE.eq_17, evE.eq_18, evE.eq_19, evE.eq_20, evE.eq_21, evE.eq_22, evEs.eq_1, evEs.eq_2, evS.eq_1, evS.eq_2, evS.eq_3, evS.eq_4, evS.eq_5, evS.eq_6, evS.eq_7, evS.eq_8, evS.eq_9, evS.eq_10, evS.eq_11, evS.eq_12, evS.eq_13, evS.eq_14, evS.eq_15, evS.eq_16, evS.eq_17, evS.eq_18, evS.eq_19, evS.eq_20, evSs.eq_1, evSs.eq_2, TW.gt, TW.st, TW.sts, TW.start, List.map_cons, List.map_nil, List.length_cons, List.length_nil, List.length_map, List.replicate_succ, List.replicate_zero, Nat.reduceAdd, Nat.reduceSub, List.cons_append, List.nil_append, Tg.put, Tg.names, srcRes, srcOf, Sk.out, Sk.pure, wipeE, Op1.run, Op2.run, slc3, okI, okB, okA, isSc_i, isSc_b, isSc_s, isSc_n, isNon_i, isNon_b, isNon_l, isNon_n, eqS_ii, eqS_bb, inF_ints, ints_map, ints_mapf, bit, IDef.mut, kAt, ownK, if_true, if_false, ↓reduceIte, Bool.false_eq_true, decide_true, decide_false, Bool.not_true, Bool.not_false, true_and, and_true, and_self, Option.isSome_some, Option.isSome_none, eq_self], fun z => by have := z x m; omega⟩, by simp [h1, h2, evE.eq_1, evE.eq_2, evE.eq_3, evE.eq_4, evE.eq_5, evE.eq_6, evE.eq_7, evE.eq_8, evE.eq_9, evE.eq_10, evE.eq_11, evE.eq_12, evE.eq_13, evE.eq_14, evE.eq_15, evE.eq_16, evE.eq_17, evE.eq_18, evE.eq_19, evE.eq_20, evE.eq_21, evE.eq_22, evEs.eq_1, evEs.eq_2, evS.eq_1, evS.eq_2, evS.eq_3, evS.eq_4, evS.eq_5, evS.eq_6, evS.eq_7, evS.eq_8, evS.eq_9, evS.eq_10, evS.eq_11, evS.eq_12, evS.eq_13, evS.eq_14, evS.eq_15, evS.eq_16, evS.eq_17, evS.eq_18, evS.eq_19, evS.eq_20, evSs.eq_1, evSs.eq_2, TW.gt, TW.st, TW.sts, TW.start, List.map_cons, List.map_nil, List.length_cons, List.length_nil, List.length_map, List.replicate_succ, List.replicate_zero, Nat.reduceAdd, Nat.reduceSub, List.cons_append, List.nil_append, Tg.put, Tg.names, srcRes, srcOf, Sk.out, Sk.pure, wipeE, Op1.run, Op2.run, slc3, okI, okB, okA, isSc_i, isSc_b, isSc_s, isSc_n, isNon_i, isNon_b, isNon_l, isNon_n, eqS_ii, eqS_bb, inF_ints, ints_map, ints_mapf, bit, IDef.mut, kAt, ownK, if_true, if_false, ↓reduceIte, Bool.false_eq_true, decide_true, decide_false, Bool.not_true, Bool.not_false, true_and, and_true, and_self, Option.isSome_some, Option.isSome_none, eq_self]⟩
      · left
        refine ⟨_, by simp [h1, h2, evE.eq_1, evE.eq_2, evE.eq_3, evE.eq_4, evE.eq_5, evE.eq_6, evE.eq_7, evE.eq_8, evE.eq_9, evE.eq_10, evE.eq_11, evE.eq_12, evE.eq_13, evE.eq_14, evE.eq_15, evE.eq_16, evE.eq_17, evE.eq_18, evE.eq_19, evE.eq_20, evE.eq_21, evE.eq_22, evEs.eq_1, evEs.eq_2, evS.eq_1, evS.eq_2, evS.eq_3, evS.eq_4, evS.eq_5, evS.eq_6, evS.eq_7, evS.eq_8, evS.eq_9, evS.eq_10, evS.eq_11, evS.eq_12, evS.eq_13, evS.eq_14, evS.eq_15, evS.eq_16, evS.eq_17, evS.eq_18, evS.eq_19, evS.eq_20, evSs.eq_1, evSs.eq_2, TW.gt, TW.st, TW.sts, TW.start, List.map_cons, List.map_nil, List.length_cons, List.length_nil, List.length_map, List.replicate_succ, List.replicate_zero, Nat.reduceAdd, Nat.reduceSub, List.cons_append, List.nil_append, Tg.put, Tg.names, srcRes, srcOf, Sk.out, Sk.pure, wipeE, Op1.run, Op2.run, slc3, okI, okB, okA, isSc_i, isSc_b, isSc_s, isSc_n, isNon_i, isNon_b, isNon_l, isNon_n, eqS_ii, eqS_bb, inF_ints, ints_map, ints_mapf, bit, IDef.mut, kAt, ownK, if_true, if_false, ↓reduceIte, Bool.false_eq_true, decide_true, decide_false, Bool.not_true, Bool.not_false, true_and, and_true, and_self, Option.isSome_some, Option.isSome_none, eq_self] <;> rfl, ?_, _, rfl⟩
        intro y hy
        rcases List.mem_append.mp hy with hy | hy
        · exact h y hy
        · simp at hy; subst hy; omega) with ⟨ρ, rfl, h, a, rfl⟩ | ⟨rfl, h⟩
  · rw [if_pos h]
    simp [evE.eq_1, evE.eq_2, evE.eq_3, evE.eq_4, evE.eq_5, evE.eq_6, evE.eq_7, evE.eq_8, evE.eq_9, evE.eq_10, evE.eq_11, evE.eq_12, evE.eq_13, evE.eq_14, evE.eq_15, evE.eq_16, evE.eq_17, evE.eq_18, evE.eq_19, evE.eq_20, evE.eq_21, evE.eq_22, evEs.eq_1, evEs.eq_2, evS.eq_1, evS.eq_2, evS.eq_3, evS.eq_4, evS.eq_5, evS.eq_6, evS.eq_7, evS.eq_8, evS.eq_9, evS.eq_10, evS.eq_11, evS.eq_12, evS.eq_13, evS.eq_14, evS.eq_15, evS.eq_16, evS.eq_17, evS.eq_18, evS.eq_19, evS.eq_20, evSs.eq_1, evSs.eq_2, TW.gt, TW.st, TW.sts, TW.start, List.map_cons, List.map_nil, List.length_cons, List.length_nil, List.length_map, List.replicate_succ, List.replicate_zero, Nat.reduceAdd, Nat.reduceSub, List.cons_append, List.nil_append, Tg.put, Tg.names, srcRes, srcOf, Sk.out, Sk.pure, wipeE, Op1.run, Op2.run, slc3, okI, okB, okA, isSc_i, isSc_b, isSc_s, isSc_n, isNon_i, isNon_b, isNon_l, isNon_n, eqS_ii, eqS_bb, inF_ints, ints_map, ints_mapf, bit, IDef.mut, kAt, ownK, if_true, if_false, ↓reduceIte, Bool.false_eq_true, decide_true, decide_false, Bool.not_true, Bool.not_false, true_and, and_true, and_self, Option.isSome_some, Option.isSome_none, eq_self]
  · rw [if_neg h]
/-- what a spreading tells -/
structure Spr (rs : List Rd) (bar : List Int) (s : Int) (ks : List (Int × Int)) : Prop where
  head : ∃ r, ks = (s, s) :: r
  nd : (ks.map (·.1)).Nodup
  mem : ∀ v, v ∈ ks.map (·.1) ↔ Rch rs bar s v
  par : ∀ pre v p post, ks = pre ++ (v, p) :: post → pre ≠ [] → p ∈ pre.map (·.1) ∧ (∃ l, gE rs p v l) ∧ v ∉ bar
def dks (ks : List (Int × Int)) : List (Int × D) := ks.map fun k => (k.1, .int k.2)
theorem look_dks (i : Int) : ∀ ks : List (Int × Int), (look (dks ks) i).isSome = decide (i ∈ ks.map (·.1))
  | [] => rfl
  | (j, p) :: ks => by
    simp only [dks, List.map_cons, look]
    by_cases h : j = i
    · simp [h]
    · have := look_dks i ks
      simp only [dks] at this
      have h2 : ¬ i = j := fun e => h e.symm
      simp [h, h2, this]
theorem put_dks {i p : Int} {ks : List (Int × Int)} (h : i ∉ ks.map (·.1)) : put (dks ks) i (.int p) = dks (ks ++ [(i, p)]) := by
  unfold put
  rw [if_neg]
  · simp [dks]
  · simp only [dks, List.any_map, List.any_eq_true, Function.comp_apply, decide_eq_true_eq, not_exists, not_and]
    exact fun k hk e => h (List.mem_map.mpr ⟨k, hk, e⟩)
end TW.M

namespace TW.M
open PySem
/-- on the way -/
structure Spr0 (rs : List Rd) (bar : List Int) (s : Int) (ks : List (Int × Int)) : Prop where
  head : ∃ r, ks = (s, s) :: r
  nd : (ks.map (·.1)).Nodup
  mem : ∀ v, v ∈ ks.map (·.1) → Rch rs bar s v
  par : ∀ pre v p post, ks = pre ++ (v, p) :: post → pre ≠ [] → p ∈ pre.map (·.1) ∧ (∃ l, gE rs p v l) ∧ v ∉ bar
def ends (rs : List Rd) : List Int := rs.flatMap fun r => [r.1, r.2.1]
theorem ends_len : ∀ rs : List Rd, (ends rs).length = 2 * rs.length
  | [] => rfl
  | r :: rs => by have := ends_len rs; simp only [ends, List.flatMap_cons, List.length_append, List.length_cons] at *; simp at *; omega
theorem Spr0.len {rs : List Rd} {bar : List Int} {s : Int} {ks : List (Int × Int)} (h : Spr0 rs bar s ks) : ks.length ≤ 2 * rs.length + 1 := by
  have := len_of_sub (l2 := s :: ends rs) h.nd fun v hv => by
    have r := h.mem v hv
    cases r with
    | base => simp
    | step a e b =>
      refine List.mem_cons_of_mem _ (List.mem_flatMap.mpr ?_)
      rcases e with e | e
      · exact ⟨_, e, by simp⟩
      · exact ⟨_, e, by simp⟩
  simp [ends_len] at this; omega
theorem Spr0.push {rs : List Rd} {bar : List Int} {s u v l : Int} {ks : List (Int × Int)} (h : Spr0 rs bar s ks) (mu : u ∈ ks.map (·.1)) (e : gE rs u v l) (nv : v ∉ ks.map (·.1)) (nb : v ∉ bar) : Spr0 rs bar s (ks ++ [(v, u)]) := by
  obtain ⟨r, hr⟩ := h.head
  refine ⟨⟨r ++ [(v, u)], by rw [hr]; rfl⟩, ?_, fun w hw => ?_, fun pre w p post eq ne => ?_⟩
  · rw [List.map_append, List.nodup_append]
    refine ⟨h.nd, by simp, fun a ha b hb z => ?_⟩
    simp at hb
    subst hb
    exact nv (z ▸ ha)
  · rw [List.map_append, List.mem_append] at hw
    rcases hw with hw | hw
    · exact h.mem w hw
    · simp at hw; subst hw; exact .step (h.mem u mu) e nb
  · rcases List.eq_nil_or_concat post with rfl | ⟨post', q, rfl⟩
    · have := List.append_inj' eq rfl
      obtain ⟨rfl, e2⟩ := this
      simp at e2
      obtain ⟨rfl, rfl⟩ := e2
      exact ⟨mu, ⟨l, e⟩, nb⟩
    · have eq2 : ks ++ [(v, u)] = (pre ++ (w, p) :: post') ++ [q] := by rw [eq]; simp
      have := List.append_inj' eq2 rfl
      exact h.par pre w p post' this.1 ne
/-- all that is come to from what was looked at is there -/
def Clo (rs : List Rd) (bar : List Int) (us ks : List Int) : Prop := ∀ u ∈ us, ∀ v l, gE rs u v l → v ∈ ks ∨ v ∈ bar
theorem Spr0.fin {rs : List Rd} {bar : List Int} {s : Int} {ks : List (Int × Int)} (h : Spr0 rs bar s ks) (c : Clo rs bar (ks.map (·.1)) (ks.map (·.1))) : Spr rs bar s ks := by
  refine ⟨h.head, h.nd, fun v => ⟨h.mem v, fun r => ?_⟩, h.par⟩
  induction r with
  | base => obtain ⟨r, hr⟩ := h.head; rw [hr]; simp
  | step a e b ih =>
    rcases c _ ih _ _ e with z | z
    · exact z
    · exact absurd z b
theorem run_spread {n : Nat} (hn : 2 ≤ n) (rs : List Rd) (hl : rs.length ≤ 1000) (s : Int) (bar : List Int) : ∃ ks, (sems defs n 2).run [rds rs, .int s, li bar] = .ok (.dic (dks ks), []) ∧ Spr rs bar s ks := by
  obtain ⟨n, rfl, hm⟩ := suc_of hn
  suffices H : ∃ ρ ks, evSs (sems defs n) d_spread.body (start d_spread.ns [rds rs, .int s, li bar]) = .rt (.dic (dks ks)) ρ ∧ Spr rs bar s ks by
    obtain ⟨ρ, ks, h1, h2⟩ := H
    exact ⟨ks, run_rt (d := d_spread) rfl rfl rfl h1, h2⟩
  obtain ⟨o1, ho⟩ : ∃ o1, evSs (sems defs n) d_spread.body (start d_spread.ns [rds rs, .int s, li bar]) = o1 := ⟨_, rfl⟩
  rw [ho]
  simp only [d_spread, evE.eq_1, evE.eq_2, evE.eq_3, evE.eq_4, evE.eq_5, evE.eq_6, evE.eq_7, evE.eq_8, evE.eq_9, evE.eq_10, evE.eq_11, evE.eq_12, evE.eq_13, evE.eq_14, evE.eq_15, evE.eq_16, evE.eq_17, evE.eq_18, evE.eq_19, evE.eq_20, evE.eq_21, evE.eq_22, evEs.eq_1, evEs.eq_2, evS.eq_1, evS.eq_2, evS.eq_3, evS.eq_4, evS.eq_5, evS.eq_6, evS.eq_7, evS.eq_8, evS.eq_9, evS.eq_10, evS.eq_11, evS.eq_12, evS.eq_13, evS.eq_14, evS.eq_15, evS.eq_16, evS.eq_17, evS.eq_18, evS.eq_19, evS.eq_20, evSs.eq_1, evSs.eq_2, TW.gt, TW.st, TW.sts, TW.start, List.map_cons, List.map_nil, List.length_cons, List.length_nil, List.length_map, List.replicate_succ, List.replicate_zero, Nat.reduceAdd, Nat.reduceSub, List.cons_append, List.nil_append, Tg.put, Tg.names, srcRes, srcOf, Sk.out, Sk.pure, wipeE, Op1.run, Op2.run, slc3, okI, okB, okA, isSc_i, isSc_b, isSc_s, isSc_n, isNon_i, isNon_b, isNon_l, isNon_n, eqS_ii, eqS_bb, inF_ints, ints_map, ints_mapf, bit, IDef.mut, kAt, ownK, if_true, if_false, ↓reduceIte, Bool.false_eq_true, decide_true, decide_false, Bool.not_true, Bool.not_false, true_and, and_true, and_self, Option.isSome_some, Option.isSome_none, eq_self] at ho
  generalize hW : whlGo _ _ _ _ = o at ho
  obtain ⟨ρ, rfl, ks, a, b, c, d, rfl, sp⟩ := whl_inv hW
    (fun ρ => ∃ (ks : List (Int × Int)) (k : Nat) (a b : Option D), ρ = [some (rds rs), some (.int s), some (li bar), some (.dic (dks ks)), some (li (ks.map (·.1))), some (.int k), a, b] ∧ Spr0 rs bar s ks ∧ k ≤ ks.length ∧ Clo rs bar ((ks.map (·.1)).take k) (ks.map (·.1)))
    (fun ρ => ∃ (ks : List (Int × Int)) (a b c d : Option D), ρ = [some (rds rs), some (.int s), some (li bar), some (.dic (dks ks)), a, b, c, d] ∧ Spr rs bar s ks)
    (fun ρ => match gt ρ 5 with | some (.int i) => 3000 - i.toNat | _ => 0)
    ⟨[(s, s)], 0, none, none, rfl, ⟨⟨[], rfl⟩, by simp, fun v hv => by simp at hv; subst hv; exact .base, fun pre v p post e ne => by
      cases pre with
      | nil => exact absurd rfl ne
      | cons x y => simp at e⟩, by simp, by intro u hu; simp at hu⟩
    (by simp [gt])
    (by
      rintro ρ ⟨ks, k, a, b, rfl, s0, hk, cl⟩
      have len := s0.len
      by_cases h : k < ks.length
      · left
        have hd : decide ((k : Int) < (ks.length : Int)) = true := by simp [h]
        refine ⟨_, by simp only [evE.eq_1, evE.eq_2, evE.eq_3, evE.eq_4, evE.eq_5, evE.eq_6, evE.eq_7, evE.eq_8, evE.eq_9, evE.eq_10, evE.eq_11, evE.eq_12, evE.eq_13, evE.eq_14, evE.eq_15, evE.eq_16, evE.eq_17, evE.eq_18, evE.eq_19, evE.eq_20, evE.eq_21, evE.eq_22, evEs.eq_1, evEs.eq_2, evS.eq_1, evS.eq_2, evS.eq_3, evS.eq_4, evS.eq_5, evS.eq_6, evS.eq_7, evS.eq_8, evS.eq_9, evS.eq_10, evS.eq_11, evS.eq_12, evS.eq_13, evS.eq_14, evS.eq_15, evS.eq_16, evS.eq_17, evS.eq_18, evS.eq_19, evS.eq_20, evSs.eq_1, evSs.eq_2, TW.gt, TW.st, TW.sts, TW.start, List.map_cons, List.map_nil, List.length_cons, List.length_nil, List.length_map, List.replicate_succ, List.replicate_zero, Nat.reduceAdd, Nat.reduceSub, List.cons_append, List.nil_append, Tg.put, Tg.names, srcRes, srcOf, Sk.out, Sk.pure, wipeE, Op1.run, Op2.run, slc3, okI, okB, okA, isSc_i, isSc_b, isSc_s, isSc_n, isNon_i, isNon_b, isNon_l, isNon_n, eqS_ii, eqS_bb, inF_ints, ints_map, ints_mapf, bit, IDef.mut, kAt, ownK, if_true, if_false, ↓reduceIte, Bool.false_eq_true, decide_true, decide_false, Bool.not_true, Bool.not_false, true_and, and_true, and_self, Option.isSome_some, Option.isSome_none, eq_self, li, List.length_map, hd] <;> rfl, ?_⟩
        obtain ⟨u, hu⟩ : ∃ u, (ks.map (·.1))[k]? = some u := ⟨_, List.getElem?_eq_getElem (by simpa using h)⟩
        have hn1 : nth ((ks.map (·.1)).map D.int) (k : Int) = some (.int u) := by rw [nth_nat, List.getElem?_map, hu]; rfl
        have mu : u ∈ ks.map (·.1) := List.mem_of_getElem? hu
        have hst := run_steps hm rs hl u
        simp only [evE.eq_1, evE.eq_2, evE.eq_3, evE.eq_4, evE.eq_5, evE.eq_6, evE.eq_7, evE.eq_8, evE.eq_9, evE.eq_10, evE.eq_11, evE.eq_12, evE.eq_13, evE.eq_14, evE.eq_15, evE.eq_16, evE.eq_17, evE.eq_18, evE.eq_19, evE.eq_20, evE.eq_21, evE.eq_22, evEs.eq_1, evEs.eq_2, evS.eq_1, evS.eq_2, evS.eq_3, evS.eq_4, evS.eq_5, evS.eq_6, evS.eq_7, evS.eq_8, evS.eq_9, evS.eq_10, evS.eq_11, evS.eq_12, evS.eq_13, evS.eq_14, evS.eq_15, evS.eq_16, evS.eq_17, evS.eq_18, evS.eq_19, evS.eq_20, evSs.eq_1, evSs.eq_2, TW.gt, TW.st, TW.sts, TW.start, List.map_cons, List.map_nil, List.length_cons, List.length_nil, List.length_map, List.replicate_succ, List.replicate_zero, Nat.reduceAdd, Nat.reduceSub, List.cons_append, List.nil_append, Tg.put, Tg.names, srcRes, srcOf, Sk.out, Sk.pure, wipeE, Op1.run, Op2.run, slc3, okI, okB, okA, isSc_i, isSc_b, isSc_s, isSc_n, isNon_i, isNon_b, isNon_l, isNon_n, eqS_ii, eqS_bb, inF_ints, ints_map, ints_mapf, bit, IDef.mut, kAt, ownK, if_true, if_false, ↓reduceIte, Bool.false_eq_true, decide_true, decide_false, Bool.not_true, Bool.not_false, true_and, and_true, and_self, Option.isSome_some, Option.isSome_none, eq_self, li, hn1, hst]
        generalize hF : forGo _ _ _ _ = o
        obtain ⟨ρ, rfl, ks', a', b', rfl, s1, ex, cl1⟩ := for_inv hF pr (nbs rs u) (fun pre ρ => ∃ (ks' : List (Int × Int)) (a b : Option D), ρ = [some (rds rs), some (.int s), some (li bar), some (.dic (dks ks')), some (li (ks'.map (·.1))), some (.int k), a, b] ∧ Spr0 rs bar s ks' ∧ (∃ e, ks' = ks ++ e) ∧ ∀ v l, (v, l) ∈ pre → v ∈ ks'.map (·.1) ∨ v ∈ bar) rfl ⟨ks, _, _, rfl, s0, ⟨[], by simp⟩, by simp⟩ (by
          rintro pre ⟨v, l⟩ r ρ e ⟨ks', a, b, rfl, s1, ⟨ex, rfl⟩, cl1⟩
          refine ⟨_, rfl, ?_⟩
          have len1 := s1.len
          have l1 : (ks ++ ex).length < lim := Nat.lt_of_le_of_lt len1 (by unfold lim; omega)
          have ev : gE rs u v l := nbs_mem.mp (by rw [e]; simp)
          by_cases h1 : v ∈ (ks ++ ex).map (·.1)
          · have d1 := decide_eq_true h1
            refine ⟨_, by simp only [evE.eq_1, evE.eq_2, evE.eq_3, evE.eq_4, evE.eq_5, evE.eq_6, evE.eq_7, evE.eq_8, evE.eq_9, evE.eq_10, evE.eq_11, evE.eq_12, evE.eq_13, evE.eq_14, evE.eq_15, evE.eq_16, evE.eq_17, evE.eq_18, evE.eq_19, evE.eq_20, evE.eq_21, evE.eq_22, evEs.eq_1, evEs.eq_2, evS.eq_1, evS.eq_2, evS.eq_3, evS.eq_4, evS.eq_5, evS.eq_6, evS.eq_7, evS.eq_8, evS.eq_9, evS.eq_10, evS.eq_11, evS.eq_12, evS.eq_13, evS.eq_14, evS.eq_15, evS.eq_16, evS.eq_17, evS.eq_18, evS.eq_19, evS.eq_20, evSs.eq_1, evSs.eq_2, TW.gt, TW.st, TW.sts, TW.start, List.map_cons, List.map_nil, List.length_cons, List.length_nil, List.length_map, List.replicate_succ, List.replicate_zero, Nat.reduceAdd, Nat.reduceSub, List.cons_append, List.nil_append, Tg.put, Tg.names, srcRes, srcOf, Sk.out, Sk.pure, wipeE, Op1.run, Op2.run, slc3, okI, okB, okA, isSc_i, isSc_b, isSc_s, isSc_n, isNon_i, isNon_b, isNon_l, isNon_n, eqS_ii, eqS_bb, inF_ints, ints_map, ints_mapf, bit, IDef.mut, kAt, ownK, if_true, if_false, ↓reduceIte, Bool.false_eq_true, decide_true, decide_false, Bool.not_true, Bool.not_false, true_and, and_true, and_self, Option.isSome_some, Option.isSome_none, eq_self, look_dks, d1] <;> rfl, ks ++ ex, _, _, rfl, s1, ⟨ex, rfl⟩, fun w m hw => ?_⟩
            rcases List.mem_append.mp hw with hw | hw
            · exact cl1 w m hw
            · simp at hw; exact .inl (hw.1 ▸ h1)
          have d1 := decide_eq_false h1
          by_cases h2 : v ∈ bar
          · have d2 := decide_eq_true h2
            refine ⟨_, by simp only [evE.eq_1, evE.eq_2, evE.eq_3, evE.eq_4, evE.eq_5, evE.eq_6, evE.eq_7, evE.eq_8, evE.eq_9, evE.eq_10, evE.eq_11, evE.eq_12, evE.eq_13, evE.eq_14, evE.eq_15, evE.eq_16, evE.eq_17, evE.eq_18, evE.eq_19, evE.eq_20, evE.eq_21, evE.eq_22, evEs.eq_1, evEs.eq_2, evS.eq_1, evS.eq_2, evS.eq_3, evS.eq_4, evS.eq_5, evS.eq_6, evS.eq_7, evS.eq_8, evS.eq_9, evS.eq_10, evS.eq_11, evS.eq_12, evS.eq_13, evS.eq_14, evS.eq_15, evS.eq_16, evS.eq_17, evS.eq_18, evS.eq_19, evS.eq_20, evSs.eq_1, evSs.eq_2, TW.gt, TW.st, TW.sts, TW.start, List.map_cons, List.map_nil, List.length_cons, List.length_nil, List.length_map, List.replicate_succ, List.replicate_zero, Nat.reduceAdd, Nat.reduceSub, List.cons_append, List.nil_append, Tg.put, Tg.names, srcRes, srcOf, Sk.out, Sk.pure, wipeE, Op1.run, Op2.run, slc3, okI, okB, okA, isSc_i, isSc_b, isSc_s, isSc_n, isNon_i, isNon_b, isNon_l, isNon_n, eqS_ii, eqS_bb, inF_ints, ints_map, ints_mapf, bit, IDef.mut, kAt, ownK, if_true, if_false, ↓reduceIte, Bool.false_eq_true, decide_true, decide_false, Bool.not_true, Bool.not_false, true_and, and_true, and_self, Option.isSome_some, Option.isSome_none, eq_self, look_dks, d1, d2, li] <;> rfl, ks ++ ex, _, _, rfl, s1, ⟨ex, rfl⟩, fun w m hw => ?_⟩
            rcases List.mem_append.mp hw with hw | hw
            · exact cl1 w m hw
            · simp at hw; exact .inr (hw.1 ▸ h2)
          have d2 := decide_eq_false h2
          have l2 : (dks (ks ++ ex)).length < lim := by simp only [dks, List.length_map]; exact l1
          have hn2 : nth (((ks ++ ex).map (·.1)).map D.int) (k : Int) = some (.int u) := by
            rw [nth_nat, List.getElem?_map, List.map_append, List.getElem?_append_left (by simpa using h), hu]; rfl
          refine ⟨_, by
            simp only [evE.eq_1, evE.eq_2, evE.eq_3, evE.eq_4, evE.eq_5, evE.eq_6, evE.eq_7, evE.eq_8, evE.eq_9, evE.eq_10, evE.eq_11, evE.eq_12, evE.eq_13, evE.eq_14, evE.eq_15, evE.eq_16, evE.eq_17, evE.eq_18, evE.eq_19, evE.eq_20, evE.eq_21, evE.eq_22, evEs.eq_1, evEs.eq_2, evS.eq_1, evS.eq_2, evS.eq_3, evS.eq_4, evS.eq_5, evS.eq_6, evS.eq_7, evS.eq_8, evS.eq_9, evS.eq_10, evS.eq_11, evS.eq_12, evS.eq_13, evS.eq_14, evS.eq_15, evS.eq_16, evS.eq_17, evS.eq_18, evS.eq_19, evS.eq_20, evSs.eq_1, evSs.eq_2, TW.gt, TW.st, TW.sts, TW.start, List.map_cons, List.map_nil, List.length_cons, List.length_nil, List.length_map, List.replicate_succ, List.replicate_zero, Nat.reduceAdd, Nat.reduceSub, List.cons_append, List.nil_append, Tg.put, Tg.names, srcRes, srcOf, Sk.out, Sk.pure, wipeE, Op1.run, Op2.run, slc3, okI, okB, okA, isSc_i, isSc_b, isSc_s, isSc_n, isNon_i, isNon_b, isNon_l, isNon_n, eqS_ii, eqS_bb, inF_ints, ints_map, ints_mapf, bit, IDef.mut, kAt, ownK, if_true, if_false, ↓reduceIte, Bool.false_eq_true, decide_true, decide_false, Bool.not_true, Bool.not_false, true_and, and_true, and_self, Option.isSome_some, Option.isSome_none, eq_self, look_dks, d1, d2, li, hn2, List.length_map, l2, l1]
            rfl, ks ++ ex ++ [(v, u)], some (.int v), some (.int l), ?_, s1.push (by simp at mu ⊢; exact .inl mu) ev h1 h2, ⟨ex ++ [(v, u)], by simp⟩, fun w m hw => ?_⟩
          · rw [put_dks h1]
            simp [li]
          · rcases List.mem_append.mp hw with hw | hw
            · rcases cl1 w m hw with z | z
              · exact .inl (by rw [List.map_append]; exact List.mem_append_left _ z)
              · exact .inr z
            · simp at hw; exact .inl (by rw [hw.1]; simp))
        obtain ⟨e, rfl⟩ := ex
        refine ⟨_, by simp only [evE.eq_1, evE.eq_2, evE.eq_3, evE.eq_4, evE.eq_5, evE.eq_6, evE.eq_7, evE.eq_8, evE.eq_9, evE.eq_10, evE.eq_11, evE.eq_12, evE.eq_13, evE.eq_14, evE.eq_15, evE.eq_16, evE.eq_17, evE.eq_18, evE.eq_19, evE.eq_20, evE.eq_21, evE.eq_22, evEs.eq_1, evEs.eq_2, evS.eq_1, evS.eq_2, evS.eq_3, evS.eq_4, evS.eq_5, evS.eq_6, evS.eq_7, evS.eq_8, evS.eq_9, evS.eq_10, evS.eq_11, evS.eq_12, evS.eq_13, evS.eq_14, evS.eq_15, evS.eq_16, evS.eq_17, evS.eq_18, evS.eq_19, evS.eq_20, evSs.eq_1, evSs.eq_2, TW.gt, TW.st, TW.sts, TW.start, List.map_cons, List.map_nil, List.length_cons, List.length_nil, List.length_map, List.replicate_succ, List.replicate_zero, Nat.reduceAdd, Nat.reduceSub, List.cons_append, List.nil_append, Tg.put, Tg.names, srcRes, srcOf, Sk.out, Sk.pure, wipeE, Op1.run, Op2.run, slc3, okI, okB, okA, isSc_i, isSc_b, isSc_s, isSc_n, isNon_i, isNon_b, isNon_l, isNon_n, eqS_ii, eqS_bb, inF_ints, ints_map, ints_mapf, bit, IDef.mut, kAt, ownK, if_true, if_false, ↓reduceIte, Bool.false_eq_true, decide_true, decide_false, Bool.not_true, Bool.not_false, true_and, and_true, and_self, Option.isSome_some, Option.isSome_none, eq_self] <;> rfl, ⟨ks ++ e, k + 1, _, _, rfl, s1, by simp; omega, ?_⟩, by simp [gt]; omega⟩
        intro w hw v l ev
        rw [List.map_append, List.take_append_of_le_length (by simp; omega), List.take_succ, hu, List.mem_append] at hw
        rcases hw with hw | hw
        · rcases cl w hw v l ev with z | z
          · exact .inl (by rw [List.map_append]; exact List.mem_append_left _ z)
          · exact .inr z
        · simp at hw
          subst hw
          exact cl1 v l (nbs_mem.mpr ev)
      · right
        have hd : decide ((k : Int) < (ks.length : Int)) = false := by simp [h]
        refine ⟨_, by simp only [evE.eq_1, evE.eq_2, evE.eq_3, evE.eq_4, evE.eq_5, evE.eq_6, evE.eq_7, evE.eq_8, evE.eq_9, evE.eq_10, evE.eq_11, evE.eq_12, evE.eq_13, evE.eq_14, evE.eq_15, evE.eq_16, evE.eq_17, evE.eq_18, evE.eq_19, evE.eq_20, evE.eq_21, evE.eq_22, evEs.eq_1, evEs.eq_2, evS.eq_1, evS.eq_2, evS.eq_3, evS.eq_4, evS.eq_5, evS.eq_6, evS.eq_7, evS.eq_8, evS.eq_9, evS.eq_10, evS.eq_11, evS.eq_12, evS.eq_13, evS.eq_14, evS.eq_15, evS.eq_16, evS.eq_17, evS.eq_18, evS.eq_19, evS.eq_20, evSs.eq_1, evSs.eq_2, TW.gt, TW.st, TW.sts, TW.start, List.map_cons, List.map_nil, List.length_cons, List.length_nil, List.length_map, List.replicate_succ, List.replicate_zero, Nat.reduceAdd, Nat.reduceSub, List.cons_append, List.nil_append, Tg.put, Tg.names, srcRes, srcOf, Sk.out, Sk.pure, wipeE, Op1.run, Op2.run, slc3, okI, okB, okA, isSc_i, isSc_b, isSc_s, isSc_n, isNon_i, isNon_b, isNon_l, isNon_n, eqS_ii, eqS_bb, inF_ints, ints_map, ints_mapf, bit, IDef.mut, kAt, ownK, if_true, if_false, ↓reduceIte, Bool.false_eq_true, decide_true, decide_false, Bool.not_true, Bool.not_false, true_and, and_true, and_self, Option.isSome_some, Option.isSome_none, eq_self, li, List.length_map, hd] <;> rfl, ks, _, _, _, _, rfl, s0.fin ?_⟩
        rw [List.take_of_length_le (by simp; omega)] at cl
        exact cl)
  simp only [evE.eq_1, evE.eq_2, evE.eq_3, evE.eq_4, evE.eq_5, evE.eq_6, evE.eq_7, evE.eq_8, evE.eq_9, evE.eq_10, evE.eq_11, evE.eq_12, evE.eq_13, evE.eq_14, evE.eq_15, evE.eq_16, evE.eq_17, evE.eq_18, evE.eq_19, evE.eq_20, evE.eq_21, evE.eq_22, evEs.eq_1, evEs.eq_2, evS.eq_1, evS.eq_2, evS.eq_3, evS.eq_4, evS.eq_5, evS.eq_6, evS.eq_7, evS.eq_8, evS.eq_9, evS.eq_10, evS.eq_11, evS.eq_12, evS.eq_13, evS.eq_14, evS.eq_15, evS.eq_16, evS.eq_17, evS.eq_18, evS.eq_19, evS.eq_20, evSs.eq_1, evSs.eq_2, TW.gt, TW.st, TW.sts, TW.start, List.map_cons, List.map_nil, List.length_cons, List.length_nil, List.length_map, List.replicate_succ, List.replicate_zero, Nat.reduceAdd, Nat.reduceSub, List.cons_append, List.nil_append, Tg.put, Tg.names, srcRes, srcOf, Sk.out, Sk.pure, wipeE, Op1.run, Op2.run, slc3, okI, okB, okA, isSc_i, isSc_b, isSc_s, isSc_n, isNon_i, isNon_b, isNon_l, isNon_n, eqS_ii, eqS_bb, inF_ints, ints_map, ints_mapf, bit, IDef.mut, kAt, ownK, if_true, if_false, ↓reduceIte, Bool.false_eq_true, decide_true, decide_false, Bool.not_true, Bool.not_false, true_and, and_true, and_self, Option.isSome_some, Option.isSome_none, eq_self] at ho
  exact ⟨_, ks, ho.symm, sp⟩
end TW.M

namespace TW.M
section
variable {V : Int → Prop} {E : Int → Int → Int → Prop} {d : Int → Int → Int}
namespace TM
variable (T : TM V E d)
include T
theorem nn {x y : Int} (hx : V x) (hy : V y) : 0 ≤ d x y := by
  by_cases e : x = y
  · rw [e, T.self y hy]; exact Int.le_refl _
  · have := T.pos x y hx hy e; omega
theorem zero {x y : Int} (hx : V x) (hy : V y) (h : d x y ≤ 0) : x = y := Classical.byContradiction fun e => by
  have := T.pos x y hx hy e; omega
theorem tri {x y z : Int} (hx : V x) (hy : V y) (hz : V z) : d x y ≤ d x z + d z y := by
  have := T.four x y z z hx hy hz hz
  have := T.self z hz
  have := T.symm y z; omega
theorem uniq {x y z w l m : Int} (a : E x z l) (b : E x w m) (hy : V y) (h : d x y = l + d z y) (k : d x y = m + d w y) : z = w := Classical.byContradiction fun n => by
  obtain ⟨hx, hz, _, _, dz⟩ := T.e _ _ _ a
  obtain ⟨_, hw, _, _, dw⟩ := T.e _ _ _ b
  have t := T.two x z w l m a b n
  have f := T.four z w x y hz hw hx hy
  have := T.symm z x; have := T.symm w x
  omega
theorem lab {x z l m : Int} (a : E x z l) (b : E x z m) : l = m := (T.e _ _ _ a).2.2.2.2.symm.trans (T.e _ _ _ b).2.2.2.2
/-- the sides of a road -/
theorem cut_step {a b l u v m : Int} (e : E a b l) (f : E u v m) (h : d u b < d u a) (n : v ≠ a) : d v b < d v a := by
  obtain ⟨ha, hb, ab, hl, dab⟩ := T.e _ _ _ e
  obtain ⟨hu, hv, uv, hm, duv⟩ := T.e _ _ _ f
  have s1 := T.side a b l u e hu
  have s2 := T.side a b l v e hv
  have s3 := T.side u v m a f ha
  have s4 := T.side u v m b f hb
  have c1 := T.symm a u; have c2 := T.symm b u; have c3 := T.symm a v; have c4 := T.symm b v
  refine Classical.byContradiction fun no => ?_
  have h1 : l = m ∧ d v b = m + d u b ∧ d u a = m + d v a := by omega
  obtain ⟨z, k, g, hz⟩ := T.step v a hv ha n
  obtain ⟨_, vz, _, hk, _⟩ := T.e _ _ _ g
  have s5 := T.side a b l z e vz
  have s6 := T.side v z k b g hb
  have c5 := T.symm a z; have c6 := T.symm b z
  have h2 : d v b = k + d z b := by omega
  have := T.uniq g (T.esym _ _ _ f) hb h2 h1.2.1
  subst this
  omega
end TM
end
theorem cut_rch {n : Nat} {rs : List Rd} {d : Int → Int → Int} (T : TM (Pl n) (gE rs) d) {a b l : Int} (e : gE rs a b l) {v : Int} : Rch rs [a] b v ↔ Pl n v ∧ d v b < d v a := by
  obtain ⟨ha, hb, ab, hl, dab⟩ := T.e _ _ _ e
  constructor
  · intro h
    induction h with
    | base =>
      have := T.self b hb; have := T.symm a b
      exact ⟨hb, by omega⟩
    | step _ f nb ih =>
      exact ⟨(T.e _ _ _ f).2.1, T.cut_step e f ih.2 (by simpa using nb)⟩
  · rintro ⟨hv, h⟩
    generalize hk : (d v b).toNat = k
    induction k using Nat.strongRecOn generalizing v with
    | _ k ih =>
      by_cases vb : v = b
      · subst vb; exact .base
      obtain ⟨z, m, g, hz⟩ := T.step v b hv hb vb
      obtain ⟨_, vz, _, hm, _⟩ := T.e _ _ _ g
      have s1 := T.side a b l z e vz
      have s2 := T.side v z m a g ha
      have s3 := T.side a b l v e hv
      have c1 := T.symm a z; have c2 := T.symm b z; have c3 := T.symm a v; have c4 := T.symm b v
      have p1 := T.nn vz hb
      have hr := ih _ (by omega) vz (by omega) rfl
      refine .step hr (T.esym _ _ _ g) ?_
      have := T.self a ha
      have c5 := T.symm a b
      simp
      rintro rfl
      omega
theorem all_rch {n : Nat} {rs : List Rd} {d : Int → Int → Int} (T : TM (Pl n) (gE rs) d) {s v : Int} (hs : Pl n s) : Rch rs [] s v ↔ Pl n v := by
  constructor
  · intro h
    induction h with
    | base => exact hs
    | step _ f _ _ => exact (T.e _ _ _ f).2.1
  · intro hv
    generalize hk : (d v s).toNat = k
    induction k using Nat.strongRecOn generalizing v with
    | _ k ih =>
      by_cases vb : v = s
      · subst vb; exact .base
      obtain ⟨z, m, g, hz⟩ := T.step v s hv hs vb
      obtain ⟨_, vz, _, hm, _⟩ := T.e _ _ _ g
      have p1 := T.nn vz hs
      exact .step (ih _ (by omega) vz rfl) (T.esym _ _ _ g) (by simp)
/-- a way to b -/
def IsWay (rs : List Rd) (d : Int → Int → Int) (b : Int) : List Int → Prop
  | [] => False
  | [x] => x = b
  | x :: y :: r => (∃ l, gE rs x y l ∧ d x b = l + d y b) ∧ IsWay rs d b (y :: r)
theorem IsWay.last {rs : List Rd} {d : Int → Int → Int} {b : Int} : ∀ {ps : List Int}, IsWay rs d b ps → ps.getLast? = some b
  | [x], h => by have h : x = b := h; subst h; rfl
  | x :: y :: r, h => by
    have := h.2.last
    rw [List.getLast?_cons_cons]; exact this
theorem IsWay.mem {n : Nat} {rs : List Rd} {d : Int → Int → Int} (T : TM (Pl n) (gE rs) d) {b : Int} (hb : Pl n b) : ∀ {a : Int} {ps : List Int}, Pl n a → IsWay rs d b (a :: ps) → ∀ z, z ∈ a :: ps ↔ Pl n z ∧ d a z + d z b = d a b
  | a, [], ha, h, z => by
    have h : a = b := h
    subst h
    have s := T.self a ha
    simp only [List.mem_singleton]
    constructor
    · rintro rfl; exact ⟨ha, by omega⟩
    · rintro ⟨hz, e⟩
      have := T.nn hz ha
      have c := T.symm z a
      exact (T.zero hz ha (by omega))
  | a, y :: r, ha, ⟨⟨l, e, hd⟩, h⟩, z => by
    obtain ⟨_, hy, ay, hl, day⟩ := T.e _ _ _ e
    have ih := IsWay.mem T hb hy h z
    rw [List.mem_cons, ih]
    have sa := T.self a ha
    constructor
    · rintro (rfl | ⟨hz, k⟩)
      · exact ⟨ha, by omega⟩
      · refine ⟨hz, ?_⟩
        have t1 := T.tri ha hz hy
        have t2 := T.tri ha hb hz
        omega
    · rintro ⟨hz, k⟩
      by_cases az : z = a
      · exact .inl az
      right
      refine ⟨hz, ?_⟩
      obtain ⟨y', l', e', h'⟩ := T.step a z ha hz (Ne.symm az)
      obtain ⟨_, hy', _, hl', _⟩ := T.e _ _ _ e'
      have t1 := T.tri hy' hb hz
      have s1 := T.side a y' l' b e' hb
      have : d a b = l' + d y' b := by omega
      have := T.uniq e e' hb hd this
      subst this
      have := T.lab e e'
      omega
theorem IsWay.nodup {n : Nat} {rs : List Rd} {d : Int → Int → Int} (T : TM (Pl n) (gE rs) d) {b : Int} (hb : Pl n b) : ∀ {a : Int} {ps : List Int}, Pl n a → IsWay rs d b (a :: ps) → (a :: ps).Nodup
  | a, [], ha, h => by simp
  | a, y :: r, ha, ⟨⟨l, e, hd⟩, h⟩ => by
    obtain ⟨_, hy, ay, hl, day⟩ := T.e _ _ _ e
    refine List.nodup_cons.mpr ⟨fun m => ?_, IsWay.nodup T hb hy h⟩
    have := ((IsWay.mem T hb hy h a).mp m).2
    have := T.nn hy ha
    omega
theorem IsWay.uniq {n : Nat} {rs : List Rd} {d : Int → Int → Int} (T : TM (Pl n) (gE rs) d) {b : Int} (hb : Pl n b) : ∀ {a : Int} {ps qs : List Int}, Pl n a → IsWay rs d b (a :: ps) → IsWay rs d b (a :: qs) → ps = qs
  | a, [], [], _, _, _ => rfl
  | a, [], y :: r, ha, h, ⟨⟨l, e, hd⟩, k⟩ => by
    have h : a = b := h
    subst h
    obtain ⟨_, hy, ay, hl, day⟩ := T.e _ _ _ e
    have := T.self a ha; have := T.nn hy ha; omega
  | a, y :: r, [], ha, ⟨⟨l, e, hd⟩, k⟩, h => by
    have h : a = b := h
    subst h
    obtain ⟨_, hy, ay, hl, day⟩ := T.e _ _ _ e
    have := T.self a ha; have := T.nn hy ha; omega
  | a, y :: r, y' :: r', ha, ⟨⟨l, e, hd⟩, k⟩, ⟨⟨l', e', hd'⟩, k'⟩ => by
    have := T.uniq e e' hb hd hd'
    subst this
    rw [IsWay.uniq T hb (T.e _ _ _ e).2.1 k k']
end TW.M

namespace TW.M
open PySem
theorem rng0 (n : Nat) : rng 0 (n : Int) 1 = plc n := by
  unfold rng plc
  rw [if_pos (by decide)]
  have : (((n : Int) - 0 + 1 - 1) / 1).toNat = n := by simp
  rw [this]
  exact List.map_congr_left fun k _ => by omega
theorem rng1 (n : Nat) : rng 1 (n : Int) 1 = (List.range (n - 1)).map fun (k : Nat) => (k : Int) + 1 := by
  unfold rng
  rw [if_pos (by decide)]
  have : (((n : Int) - 1 + 1 - 1) / 1).toNat = n - 1 := by simp
  rw [this]
  exact List.map_congr_left fun k _ => by omega
theorem rdok_iff {n : Nat} {a b l : Int} : RdOk n (a, b, l) ↔ Pl n a ∧ Pl n b ∧ a ≠ b ∧ 1 ≤ l := Iff.rfl
def rl (r : Rd) : List Int := [r.1, r.2.1, r.2.2]
theorem rds_lli (rs : List Rd) : rds rs = lli (rs.map rl) := by simp [rds, lli, rd, li, rl, Function.comp_def]
/-- rows that make a tree of so many places -/
def TreeOf (many : Int) (rows : List (List Int)) : Prop := ∃ (n : Nat) (rs : List Rd), many = n ∧ n ≤ 12 ∧ rows = rs.map rl ∧ IsT n rs
theorem pl_iff {n : Nat} {many : Int} (h : many = n) (x : Int) : (0 ≤ x ∧ x < many) ↔ Pl n x := by subst h; rfl
theorem spread_all {n : Nat} {rs : List Rd} (h1 : 1 ≤ n) (ok : ∀ r ∈ rs, RdOk n r) {ks : List (Int × Int)} (sp : Spr rs [] 0 ks) : ks.length = n ↔ ∀ v, Pl n v → Rch rs [] 0 v := by
  have sub : ∀ v ∈ ks.map (·.1), v ∈ plc n := fun v hv => by
    have := (sp.mem v).mp hv
    cases this with
    | base => exact plc_mem.mpr ⟨by omega, by omega⟩
    | step a e b => exact plc_mem.mpr (gE_ok ok e).2.1
  constructor
  · intro h v hv
    exact (sp.mem v).mp (sub_of_len sp.nd sub (by rw [plc_len]; simp [h]) v (plc_mem.mpr hv))
  · intro h
    have a := len_of_sub sp.nd sub
    have b := len_of_sub (l2 := ks.map (·.1)) (plc_nd (n := n)) fun v hv => (sp.mem v).mpr (h v (plc_mem.mp hv))
    simp [plc_len] at a b; omega
theorem run_is_tree {n : Nat} (hn : 3 ≤ n) (many : Int) (rows : List (List Int)) (hl : rows.length ≤ 1000) : ∃ b, (sems defs n 3).run [.int many, lli rows] = .ok (.bl b, []) ∧ (b = true ↔ TreeOf many rows) := by
  obtain ⟨n, rfl, hm⟩ := suc_of hn
  suffices H : ∃ ρ b, evSs (sems defs n) d_is_tree.body (start d_is_tree.ns [.int many, lli rows]) = .rt (.bl b) ρ ∧ (b = true ↔ TreeOf many rows) by
    obtain ⟨ρ, b, h1, h2⟩ := H
    exact ⟨b, run_rt (d := d_is_tree) rfl rfl rfl h1, h2⟩
  obtain ⟨o1, ho⟩ : ∃ o1, evSs (sems defs n) d_is_tree.body (start d_is_tree.ns [.int many, lli rows]) = o1 := ⟨_, rfl⟩
  rw [ho]
  simp only [d_is_tree, evE.eq_1, evE.eq_2, evE.eq_3, evE.eq_4, evE.eq_5, evE.eq_6, evE.eq_7, evE.eq_8, evE.eq_9, evE.eq_10, evE.eq_11, evE.eq_12, evE.eq_13, evE.eq_14, evE.eq_15, evE.eq_16, evE.eq_17, evE.eq_18, evE.eq_19, evE.eq_20, evE.eq_21, evE.eq_22, evEs.eq_1, evEs.eq_2, evS.eq_1, evS.eq_2, evS.eq_3, evS.eq_4, evS.eq_5, evS.eq_6, evS.eq_7, evS.eq_8, evS.eq_9, evS.eq_10, evS.eq_11, evS.eq_12, evS.eq_13, evS.eq_14, evS.eq_15, evS.eq_16, evS.eq_17, evS.eq_18, evS.eq_19, evS.eq_20, evSs.eq_1, evSs.eq_2, TW.gt, TW.st, TW.sts, TW.start, List.map_cons, List.map_nil, List.length_cons, List.length_nil, List.length_map, List.replicate_succ, List.replicate_zero, Nat.reduceAdd, Nat.reduceSub, List.cons_append, List.nil_append, Tg.put, Tg.names, srcRes, srcOf, Sk.out, Sk.pure, wipeE, Op1.run, Op2.run, slc3, okI, okB, okA, isSc_i, isSc_b, isSc_s, isSc_n, isNon_i, isNon_b, isNon_l, isNon_n, eqS_ii, eqS_bb, inF_ints, ints_map, ints_mapf, bit, IDef.mut, kAt, ownK, if_true, if_false, ↓reduceIte, Bool.false_eq_true, decide_true, decide_false, Bool.not_true, Bool.not_false, true_and, and_true, and_self, Option.isSome_some, Option.isSome_none, eq_self, lli, List.length_map] at ho
  have no : ∀ ρ, o1 = .rt (.bl false) ρ → ¬ TreeOf many rows → ∃ ρ b, o1 = .rt (.bl b) ρ ∧ (b = true ↔ TreeOf many rows) := fun ρ h k => ⟨ρ, false, h, by simp [k]⟩
  by_cases c1 : many < 1
  · simp only [decide_eq_true c1, evE.eq_1, evE.eq_2, evE.eq_3, evE.eq_4, evE.eq_5, evE.eq_6, evE.eq_7, evE.eq_8, evE.eq_9, evE.eq_10, evE.eq_11, evE.eq_12, evE.eq_13, evE.eq_14, evE.eq_15, evE.eq_16, evE.eq_17, evE.eq_18, evE.eq_19, evE.eq_20, evE.eq_21, evE.eq_22, evEs.eq_1, evEs.eq_2, evS.eq_1, evS.eq_2, evS.eq_3, evS.eq_4, evS.eq_5, evS.eq_6, evS.eq_7, evS.eq_8, evS.eq_9, evS.eq_10, evS.eq_11, evS.eq_12, evS.eq_13, evS.eq_14, evS.eq_15, evS.eq_16, evS.eq_17, evS.eq_18, evS.eq_19, evS.eq_20, evSs.eq_1, evSs.eq_2, TW.gt, TW.st, TW.sts, TW.start, List.map_cons, List.map_nil, List.length_cons, List.length_nil, List.length_map, List.replicate_succ, List.replicate_zero, Nat.reduceAdd, Nat.reduceSub, List.cons_append, List.nil_append, Tg.put, Tg.names, srcRes, srcOf, Sk.out, Sk.pure, wipeE, Op1.run, Op2.run, slc3, okI, okB, okA, isSc_i, isSc_b, isSc_s, isSc_n, isNon_i, isNon_b, isNon_l, isNon_n, eqS_ii, eqS_bb, inF_ints, ints_map, ints_mapf, bit, IDef.mut, kAt, ownK, if_true, if_false, ↓reduceIte, Bool.false_eq_true, decide_true, decide_false, Bool.not_true, Bool.not_false, true_and, and_true, and_self, Option.isSome_some, Option.isSome_none, eq_self] at ho
    exact no _ ho.symm fun ⟨n, rs, h1, h2, h3, h4⟩ => by have := h4.len; omega
  simp only [decide_eq_false c1, evE.eq_1, evE.eq_2, evE.eq_3, evE.eq_4, evE.eq_5, evE.eq_6, evE.eq_7, evE.eq_8, evE.eq_9, evE.eq_10, evE.eq_11, evE.eq_12, evE.eq_13, evE.eq_14, evE.eq_15, evE.eq_16, evE.eq_17, evE.eq_18, evE.eq_19, evE.eq_20, evE.eq_21, evE.eq_22, evEs.eq_1, evEs.eq_2, evS.eq_1, evS.eq_2, evS.eq_3, evS.eq_4, evS.eq_5, evS.eq_6, evS.eq_7, evS.eq_8, evS.eq_9, evS.eq_10, evS.eq_11, evS.eq_12, evS.eq_13, evS.eq_14, evS.eq_15, evS.eq_16, evS.eq_17, evS.eq_18, evS.eq_19, evS.eq_20, evSs.eq_1, evSs.eq_2, TW.gt, TW.st, TW.sts, TW.start, List.map_cons, List.map_nil, List.length_cons, List.length_nil, List.length_map, List.replicate_succ, List.replicate_zero, Nat.reduceAdd, Nat.reduceSub, List.cons_append, List.nil_append, Tg.put, Tg.names, srcRes, srcOf, Sk.out, Sk.pure, wipeE, Op1.run, Op2.run, slc3, okI, okB, okA, isSc_i, isSc_b, isSc_s, isSc_n, isNon_i, isNon_b, isNon_l, isNon_n, eqS_ii, eqS_bb, inF_ints, ints_map, ints_mapf, bit, IDef.mut, kAt, ownK, if_true, if_false, ↓reduceIte, Bool.false_eq_true, decide_true, decide_false, Bool.not_true, Bool.not_false, true_and, and_true, and_self, Option.isSome_some, Option.isSome_none, eq_self] at ho
  by_cases c2 : 12 < many
  · simp only [decide_eq_true c2, evE.eq_1, evE.eq_2, evE.eq_3, evE.eq_4, evE.eq_5, evE.eq_6, evE.eq_7, evE.eq_8, evE.eq_9, evE.eq_10, evE.eq_11, evE.eq_12, evE.eq_13, evE.eq_14, evE.eq_15, evE.eq_16, evE.eq_17, evE.eq_18, evE.eq_19, evE.eq_20, evE.eq_21, evE.eq_22, evEs.eq_1, evEs.eq_2, evS.eq_1, evS.eq_2, evS.eq_3, evS.eq_4, evS.eq_5, evS.eq_6, evS.eq_7, evS.eq_8, evS.eq_9, evS.eq_10, evS.eq_11, evS.eq_12, evS.eq_13, evS.eq_14, evS.eq_15, evS.eq_16, evS.eq_17, evS.eq_18, evS.eq_19, evS.eq_20, evSs.eq_1, evSs.eq_2, TW.gt, TW.st, TW.sts, TW.start, List.map_cons, List.map_nil, List.length_cons, List.length_nil, List.length_map, List.replicate_succ, List.replicate_zero, Nat.reduceAdd, Nat.reduceSub, List.cons_append, List.nil_append, Tg.put, Tg.names, srcRes, srcOf, Sk.out, Sk.pure, wipeE, Op1.run, Op2.run, slc3, okI, okB, okA, isSc_i, isSc_b, isSc_s, isSc_n, isNon_i, isNon_b, isNon_l, isNon_n, eqS_ii, eqS_bb, inF_ints, ints_map, ints_mapf, bit, IDef.mut, kAt, ownK, if_true, if_false, ↓reduceIte, Bool.false_eq_true, decide_true, decide_false, Bool.not_true, Bool.not_false, true_and, and_true, and_self, Option.isSome_some, Option.isSome_none, eq_self] at ho
    exact no _ ho.symm fun ⟨n, rs, h1, h2, h3, h4⟩ => by omega
  simp only [decide_eq_false c2, evE.eq_1, evE.eq_2, evE.eq_3, evE.eq_4, evE.eq_5, evE.eq_6, evE.eq_7, evE.eq_8, evE.eq_9, evE.eq_10, evE.eq_11, evE.eq_12, evE.eq_13, evE.eq_14, evE.eq_15, evE.eq_16, evE.eq_17, evE.eq_18, evE.eq_19, evE.eq_20, evE.eq_21, evE.eq_22, evEs.eq_1, evEs.eq_2, evS.eq_1, evS.eq_2, evS.eq_3, evS.eq_4, evS.eq_5, evS.eq_6, evS.eq_7, evS.eq_8, evS.eq_9, evS.eq_10, evS.eq_11, evS.eq_12, evS.eq_13, evS.eq_14, evS.eq_15, evS.eq_16, evS.eq_17, evS.eq_18, evS.eq_19, evS.eq_20, evSs.eq_1, evSs.eq_2, TW.gt, TW.st, TW.sts, TW.start, List.map_cons, List.map_nil, List.length_cons, List.length_nil, List.length_map, List.replicate_succ, List.replicate_zero, Nat.reduceAdd, Nat.reduceSub, List.cons_append, List.nil_append, Tg.put, Tg.names, srcRes, srcOf, Sk.out, Sk.pure, wipeE, Op1.run, Op2.run, slc3, okI, okB, okA, isSc_i, isSc_b, isSc_s, isSc_n, isNon_i, isNon_b, isNon_l, isNon_n, eqS_ii, eqS_bb, inF_ints, ints_map, ints_mapf, bit, IDef.mut, kAt, ownK, if_true, if_false, ↓reduceIte, Bool.false_eq_true, decide_true, decide_false, Bool.not_true, Bool.not_false, true_and, and_true, and_self, Option.isSome_some, Option.isSome_none, eq_self] at ho
  by_cases c3' : ¬ (rows.length : Int) = many - 1
  · have c3 := c3'
    simp only [decide_eq_false c3, evE.eq_1, evE.eq_2, evE.eq_3, evE.eq_4, evE.eq_5, evE.eq_6, evE.eq_7, evE.eq_8, evE.eq_9, evE.eq_10, evE.eq_11, evE.eq_12, evE.eq_13, evE.eq_14, evE.eq_15, evE.eq_16, evE.eq_17, evE.eq_18, evE.eq_19, evE.eq_20, evE.eq_21, evE.eq_22, evEs.eq_1, evEs.eq_2, evS.eq_1, evS.eq_2, evS.eq_3, evS.eq_4, evS.eq_5, evS.eq_6, evS.eq_7, evS.eq_8, evS.eq_9, evS.eq_10, evS.eq_11, evS.eq_12, evS.eq_13, evS.eq_14, evS.eq_15, evS.eq_16, evS.eq_17, evS.eq_18, evS.eq_19, evS.eq_20, evSs.eq_1, evSs.eq_2, TW.gt, TW.st, TW.sts, TW.start, List.map_cons, List.map_nil, List.length_cons, List.length_nil, List.length_map, List.replicate_succ, List.replicate_zero, Nat.reduceAdd, Nat.reduceSub, List.cons_append, List.nil_append, Tg.put, Tg.names, srcRes, srcOf, Sk.out, Sk.pure, wipeE, Op1.run, Op2.run, slc3, okI, okB, okA, isSc_i, isSc_b, isSc_s, isSc_n, isNon_i, isNon_b, isNon_l, isNon_n, eqS_ii, eqS_bb, inF_ints, ints_map, ints_mapf, bit, IDef.mut, kAt, ownK, if_true, if_false, ↓reduceIte, Bool.false_eq_true, decide_true, decide_false, Bool.not_true, Bool.not_false, true_and, and_true, and_self, Option.isSome_some, Option.isSome_none, eq_self] at ho
    exact no _ ho.symm fun ⟨n, rs, h1, h2, h3, h4⟩ => by have := h4.len; rw [h3] at c3; simp at c3; omega
  have c3 := Classical.not_not.mp c3'
  simp only [decide_eq_true c3, evE.eq_1, evE.eq_2, evE.eq_3, evE.eq_4, evE.eq_5, evE.eq_6, evE.eq_7, evE.eq_8, evE.eq_9, evE.eq_10, evE.eq_11, evE.eq_12, evE.eq_13, evE.eq_14, evE.eq_15, evE.eq_16, evE.eq_17, evE.eq_18, evE.eq_19, evE.eq_20, evE.eq_21, evE.eq_22, evEs.eq_1, evEs.eq_2, evS.eq_1, evS.eq_2, evS.eq_3, evS.eq_4, evS.eq_5, evS.eq_6, evS.eq_7, evS.eq_8, evS.eq_9, evS.eq_10, evS.eq_11, evS.eq_12, evS.eq_13, evS.eq_14, evS.eq_15, evS.eq_16, evS.eq_17, evS.eq_18, evS.eq_19, evS.eq_20, evSs.eq_1, evSs.eq_2, TW.gt, TW.st, TW.sts, TW.start, List.map_cons, List.map_nil, List.length_cons, List.length_nil, List.length_map, List.replicate_succ, List.replicate_zero, Nat.reduceAdd, Nat.reduceSub, List.cons_append, List.nil_append, Tg.put, Tg.names, srcRes, srcOf, Sk.out, Sk.pure, wipeE, Op1.run, Op2.run, slc3, okI, okB, okA, isSc_i, isSc_b, isSc_s, isSc_n, isNon_i, isNon_b, isNon_l, isNon_n, eqS_ii, eqS_bb, inF_ints, ints_map, ints_mapf, bit, IDef.mut, kAt, ownK, if_true, if_false, ↓reduceIte, Bool.false_eq_true, decide_true, decide_false, Bool.not_true, Bool.not_false, true_and, and_true, and_self, Option.isSome_some, Option.isSome_none, eq_self] at ho
  obtain ⟨m, em⟩ : ∃ m : Nat, many = m := ⟨many.toNat, by omega⟩
  generalize hF : forGo _ _ _ _ = o at ho
  rcases for_stop hF li rows (fun pre ρ => (∃ rs : List Rd, pre = rs.map rl ∧ ∀ r ∈ rs, RdOk m r) ∧ ∃ a, ρ = [some (.int many), some (lli rows), a]) (fun o => ∃ ρ, o = .rt (.bl false) ρ ∧ ¬ TreeOf many rows) rfl ⟨⟨[], rfl, by simp⟩, _, rfl⟩ (by
    rintro pre row r ρ e ⟨⟨rs, h, hr⟩, a, rfl⟩
    refine ⟨_, rfl, ?_⟩
    have mrow : row ∈ rows := by rw [e]; simp
    have notT : (¬ ∃ r, row = rl r ∧ RdOk m r) → ¬ TreeOf many rows := fun z ⟨n, rs, h1, h2, h3, h4⟩ => by
      rw [h3] at mrow
      obtain ⟨r, m1, m2⟩ := List.mem_map.mp mrow
      have : n = m := by omega
      subst this
      exact z ⟨r, m2.symm, h4.ok r m1⟩
    by_cases d1x : ¬ (row.length : Int) = 3
    · have d1 := d1x
      have d1' := decide_eq_false d1
      right
      refine ⟨⟨[some (.int many), some (lli rows), some (li row)], by simp only [evE.eq_1, evE.eq_2, evE.eq_3, evE.eq_4, evE.eq_5, evE.eq_6, evE.eq_7, evE.eq_8, evE.eq_9, evE.eq_10, evE.eq_11, evE.eq_12, evE.eq_13, evE.eq_14, evE.eq_15, evE.eq_16, evE.eq_17, evE.eq_18, evE.eq_19, evE.eq_20, evE.eq_21, evE.eq_22, evEs.eq_1, evEs.eq_2, evS.eq_1, evS.eq_2, evS.eq_3, evS.eq_4, evS.eq_5, evS.eq_6, evS.eq_7, evS.eq_8, evS.eq_9, evS.eq_10, evS.eq_11, evS.eq_12, evS.eq_13, evS.eq_14, evS.eq_15, evS.eq_16, evS.eq_17, evS.eq_18, evS.eq_19, evS.eq_20, evSs.eq_1, evSs.eq_2, TW.gt, TW.st, TW.sts, TW.start, List.map_cons, List.map_nil, List.length_cons, List.length_nil, List.length_map, List.replicate_succ, List.replicate_zero, Nat.reduceAdd, Nat.reduceSub, List.cons_append, List.nil_append, Tg.put, Tg.names, srcRes, srcOf, Sk.out, Sk.pure, wipeE, Op1.run, Op2.run, slc3, okI, okB, okA, isSc_i, isSc_b, isSc_s, isSc_n, isNon_i, isNon_b, isNon_l, isNon_n, eqS_ii, eqS_bb, inF_ints, ints_map, ints_mapf, bit, IDef.mut, kAt, ownK, if_true, if_false, ↓reduceIte, Bool.false_eq_true, decide_true, decide_false, Bool.not_true, Bool.not_false, true_and, and_true, and_self, Option.isSome_some, Option.isSome_none, eq_self, li, List.length_map, d1'], notT ?_⟩, by simp only [evE.eq_1, evE.eq_2, evE.eq_3, evE.eq_4, evE.eq_5, evE.eq_6, evE.eq_7, evE.eq_8, evE.eq_9, evE.eq_10, evE.eq_11, evE.eq_12, evE.eq_13, evE.eq_14, evE.eq_15, evE.eq_16, evE.eq_17, evE.eq_18, evE.eq_19, evE.eq_20, evE.eq_21, evE.eq_22, evEs.eq_1, evEs.eq_2, evS.eq_1, evS.eq_2, evS.eq_3, evS.eq_4, evS.eq_5, evS.eq_6, evS.eq_7, evS.eq_8, evS.eq_9, evS.eq_10, evS.eq_11, evS.eq_12, evS.eq_13, evS.eq_14, evS.eq_15, evS.eq_16, evS.eq_17, evS.eq_18, evS.eq_19, evS.eq_20, evSs.eq_1, evSs.eq_2, TW.gt, TW.st, TW.sts, TW.start, List.map_cons, List.map_nil, List.length_cons, List.length_nil, List.length_map, List.replicate_succ, List.replicate_zero, Nat.reduceAdd, Nat.reduceSub, List.cons_append, List.nil_append, Tg.put, Tg.names, srcRes, srcOf, Sk.out, Sk.pure, wipeE, Op1.run, Op2.run, slc3, okI, okB, okA, isSc_i, isSc_b, isSc_s, isSc_n, isNon_i, isNon_b, isNon_l, isNon_n, eqS_ii, eqS_bb, inF_ints, ints_map, ints_mapf, bit, IDef.mut, kAt, ownK, if_true, if_false, ↓reduceIte, Bool.false_eq_true, decide_true, decide_false, Bool.not_true, Bool.not_false, true_and, and_true, and_self, Option.isSome_some, Option.isSome_none, eq_self, li, List.length_map, d1']; simp⟩
      rintro ⟨r, rfl, _⟩
      exact d1 rfl
    have d1 := Classical.not_not.mp d1x
    obtain ⟨a, b, l, rfl⟩ : ∃ a b l, row = [a, b, l] := by
      match row, d1 with
      | [a, b, l], _ => exact ⟨a, b, l, rfl⟩
      | [], h => simp at h
      | [_], h => simp at h
      | [_, _], h => simp at h
      | _ :: _ :: _ :: _ :: _, h => simp at h; omega
    have d1' : decide (((0 + 1 + 1 + 1 : Nat) : Int) = 3) = true := rfl
    have n2 : nth [D.int a, .int b, .int l] 2 = some (.int l) := rfl
    have ct : TW.cut [D.int a, .int b, .int l] none (some 2) = [.int a, .int b] := rfl
    have un := run_unl (n := n) (by omega) many [a, b] (by simp)
    simp only [li, List.map_cons, List.map_nil] at un
    by_cases d2 : l < 1
    · have d2' := decide_eq_true d2
      right
      refine ⟨⟨[some (.int many), some (lli rows), some (li [a, b, l])], by simp only [evE.eq_1, evE.eq_2, evE.eq_3, evE.eq_4, evE.eq_5, evE.eq_6, evE.eq_7, evE.eq_8, evE.eq_9, evE.eq_10, evE.eq_11, evE.eq_12, evE.eq_13, evE.eq_14, evE.eq_15, evE.eq_16, evE.eq_17, evE.eq_18, evE.eq_19, evE.eq_20, evE.eq_21, evE.eq_22, evEs.eq_1, evEs.eq_2, evS.eq_1, evS.eq_2, evS.eq_3, evS.eq_4, evS.eq_5, evS.eq_6, evS.eq_7, evS.eq_8, evS.eq_9, evS.eq_10, evS.eq_11, evS.eq_12, evS.eq_13, evS.eq_14, evS.eq_15, evS.eq_16, evS.eq_17, evS.eq_18, evS.eq_19, evS.eq_20, evSs.eq_1, evSs.eq_2, TW.gt, TW.st, TW.sts, TW.start, List.map_cons, List.map_nil, List.length_cons, List.length_nil, List.length_map, List.replicate_succ, List.replicate_zero, Nat.reduceAdd, Nat.reduceSub, List.cons_append, List.nil_append, Tg.put, Tg.names, srcRes, srcOf, Sk.out, Sk.pure, wipeE, Op1.run, Op2.run, slc3, okI, okB, okA, isSc_i, isSc_b, isSc_s, isSc_n, isNon_i, isNon_b, isNon_l, isNon_n, eqS_ii, eqS_bb, inF_ints, ints_map, ints_mapf, bit, IDef.mut, kAt, ownK, if_true, if_false, ↓reduceIte, Bool.false_eq_true, decide_true, decide_false, Bool.not_true, Bool.not_false, true_and, and_true, and_self, Option.isSome_some, Option.isSome_none, eq_self, li, List.length_map, d1', n2, d2'], notT ?_⟩, by simp only [evE.eq_1, evE.eq_2, evE.eq_3, evE.eq_4, evE.eq_5, evE.eq_6, evE.eq_7, evE.eq_8, evE.eq_9, evE.eq_10, evE.eq_11, evE.eq_12, evE.eq_13, evE.eq_14, evE.eq_15, evE.eq_16, evE.eq_17, evE.eq_18, evE.eq_19, evE.eq_20, evE.eq_21, evE.eq_22, evEs.eq_1, evEs.eq_2, evS.eq_1, evS.eq_2, evS.eq_3, evS.eq_4, evS.eq_5, evS.eq_6, evS.eq_7, evS.eq_8, evS.eq_9, evS.eq_10, evS.eq_11, evS.eq_12, evS.eq_13, evS.eq_14, evS.eq_15, evS.eq_16, evS.eq_17, evS.eq_18, evS.eq_19, evS.eq_20, evSs.eq_1, evSs.eq_2, TW.gt, TW.st, TW.sts, TW.start, List.map_cons, List.map_nil, List.length_cons, List.length_nil, List.length_map, List.replicate_succ, List.replicate_zero, Nat.reduceAdd, Nat.reduceSub, List.cons_append, List.nil_append, Tg.put, Tg.names, srcRes, srcOf, Sk.out, Sk.pure, wipeE, Op1.run, Op2.run, slc3, okI, okB, okA, isSc_i, isSc_b, isSc_s, isSc_n, isNon_i, isNon_b, isNon_l, isNon_n, eqS_ii, eqS_bb, inF_ints, ints_map, ints_mapf, bit, IDef.mut, kAt, ownK, if_true, if_false, ↓reduceIte, Bool.false_eq_true, decide_true, decide_false, Bool.not_true, Bool.not_false, true_and, and_true, and_self, Option.isSome_some, Option.isSome_none, eq_self, li, List.length_map, d1', n2, d2']; simp⟩
      rintro ⟨⟨x, y, w⟩, e, z⟩
      simp only [rl, List.cons.injEq] at e
      have h4 : 1 ≤ w := z.2.2.2
      omega
    have d2' := decide_eq_false d2
    by_cases d3 : (∀ x ∈ [a, b], 0 ≤ x ∧ x < many) ∧ [a, b].Nodup
    · left
      have d3' := decide_eq_true d3
      refine ⟨[some (.int many), some (lli rows), some (li [a, b, l])], by
        simp only [evE.eq_1, evE.eq_2, evE.eq_3, evE.eq_4, evE.eq_5, evE.eq_6, evE.eq_7, evE.eq_8, evE.eq_9, evE.eq_10, evE.eq_11, evE.eq_12, evE.eq_13, evE.eq_14, evE.eq_15, evE.eq_16, evE.eq_17, evE.eq_18, evE.eq_19, evE.eq_20, evE.eq_21, evE.eq_22, evEs.eq_1, evEs.eq_2, evS.eq_1, evS.eq_2, evS.eq_3, evS.eq_4, evS.eq_5, evS.eq_6, evS.eq_7, evS.eq_8, evS.eq_9, evS.eq_10, evS.eq_11, evS.eq_12, evS.eq_13, evS.eq_14, evS.eq_15, evS.eq_16, evS.eq_17, evS.eq_18, evS.eq_19, evS.eq_20, evSs.eq_1, evSs.eq_2, TW.gt, TW.st, TW.sts, TW.start, List.map_cons, List.map_nil, List.length_cons, List.length_nil, List.length_map, List.replicate_succ, List.replicate_zero, Nat.reduceAdd, Nat.reduceSub, List.cons_append, List.nil_append, Tg.put, Tg.names, srcRes, srcOf, Sk.out, Sk.pure, wipeE, Op1.run, Op2.run, slc3, okI, okB, okA, isSc_i, isSc_b, isSc_s, isSc_n, isNon_i, isNon_b, isNon_l, isNon_n, eqS_ii, eqS_bb, inF_ints, ints_map, ints_mapf, bit, IDef.mut, kAt, ownK, if_true, if_false, ↓reduceIte, Bool.false_eq_true, decide_true, decide_false, Bool.not_true, Bool.not_false, true_and, and_true, and_self, Option.isSome_some, Option.isSome_none, eq_self, li, List.length_map, d1', n2, d2', ct, List.all_cons, List.all_nil, Bool.and_true, Bool.and_self, un, d3'], ⟨rs ++ [(a, b, l)], by simp [h, rl], ?_⟩, _, rfl⟩
      intro r hr'
      rcases List.mem_append.mp hr' with hr' | hr'
      · exact hr r hr'
      · simp at hr'; subst hr'
        have := d3.1 a (by simp)
        have := d3.1 b (by simp)
        have h3 := d3.2
        simp at h3
        exact rdok_iff.mpr ⟨⟨by omega, by omega⟩, ⟨by omega, by omega⟩, h3, by omega⟩
    · have d3' := decide_eq_false d3
      right
      refine ⟨⟨[some (.int many), some (lli rows), some (li [a, b, l])], by
        simp only [evE.eq_1, evE.eq_2, evE.eq_3, evE.eq_4, evE.eq_5, evE.eq_6, evE.eq_7, evE.eq_8, evE.eq_9, evE.eq_10, evE.eq_11, evE.eq_12, evE.eq_13, evE.eq_14, evE.eq_15, evE.eq_16, evE.eq_17, evE.eq_18, evE.eq_19, evE.eq_20, evE.eq_21, evE.eq_22, evEs.eq_1, evEs.eq_2, evS.eq_1, evS.eq_2, evS.eq_3, evS.eq_4, evS.eq_5, evS.eq_6, evS.eq_7, evS.eq_8, evS.eq_9, evS.eq_10, evS.eq_11, evS.eq_12, evS.eq_13, evS.eq_14, evS.eq_15, evS.eq_16, evS.eq_17, evS.eq_18, evS.eq_19, evS.eq_20, evSs.eq_1, evSs.eq_2, TW.gt, TW.st, TW.sts, TW.start, List.map_cons, List.map_nil, List.length_cons, List.length_nil, List.length_map, List.replicate_succ, List.replicate_zero, Nat.reduceAdd, Nat.reduceSub, List.cons_append, List.nil_append, Tg.put, Tg.names, srcRes, srcOf, Sk.out, Sk.pure, wipeE, Op1.run, Op2.run, slc3, okI, okB, okA, isSc_i, isSc_b, isSc_s, isSc_n, isNon_i, isNon_b, isNon_l, isNon_n, eqS_ii, eqS_bb, inF_ints, ints_map, ints_mapf, bit, IDef.mut, kAt, ownK, if_true, if_false, ↓reduceIte, Bool.false_eq_true, decide_true, decide_false, Bool.not_true, Bool.not_false, true_and, and_true, and_self, Option.isSome_some, Option.isSome_none, eq_self, li, List.length_map, d1', n2, d2', ct, List.all_cons, List.all_nil, Bool.and_true, Bool.and_self, un, d3'], notT ?_⟩, by
        simp only [evE.eq_1, evE.eq_2, evE.eq_3, evE.eq_4, evE.eq_5, evE.eq_6, evE.eq_7, evE.eq_8, evE.eq_9, evE.eq_10, evE.eq_11, evE.eq_12, evE.eq_13, evE.eq_14, evE.eq_15, evE.eq_16, evE.eq_17, evE.eq_18, evE.eq_19, evE.eq_20, evE.eq_21, evE.eq_22, evEs.eq_1, evEs.eq_2, evS.eq_1, evS.eq_2, evS.eq_3, evS.eq_4, evS.eq_5, evS.eq_6, evS.eq_7, evS.eq_8, evS.eq_9, evS.eq_10, evS.eq_11, evS.eq_12, evS.eq_13, evS.eq_14, evS.eq_15, evS.eq_16, evS.eq_17, evS.eq_18, evS.eq_19, evS.eq_20, evSs.eq_1, evSs.eq_2, TW.gt, TW.st, TW.sts, TW.start, List.map_cons, List.map_nil, List.length_cons, List.length_nil, List.length_map, List.replicate_succ, List.replicate_zero, Nat.reduceAdd, Nat.reduceSub, List.cons_append, List.nil_append, Tg.put, Tg.names, srcRes, srcOf, Sk.out, Sk.pure, wipeE, Op1.run, Op2.run, slc3, okI, okB, okA, isSc_i, isSc_b, isSc_s, isSc_n, isNon_i, isNon_b, isNon_l, isNon_n, eqS_ii, eqS_bb, inF_ints, ints_map, ints_mapf, bit, IDef.mut, kAt, ownK, if_true, if_false, ↓reduceIte, Bool.false_eq_true, decide_true, decide_false, Bool.not_true, Bool.not_false, true_and, and_true, and_self, Option.isSome_some, Option.isSome_none, eq_self, li, List.length_map, d1', n2, d2', ct, List.all_cons, List.all_nil, Bool.and_true, Bool.and_self, un, d3']; simp⟩
      rintro ⟨⟨x, y, w⟩, e, z⟩
      simp only [rl, List.cons.injEq] at e
      obtain ⟨rfl, rfl, rfl, -⟩ := e
      obtain ⟨z1, z2, z3, z4⟩ := rdok_iff.mp z
      refine d3 ⟨fun x hx => ?_, by simp; exact z3⟩
      simp only [Pl] at z1 z2
      simp at hx
      rcases hx with rfl | rfl <;> omega) with ⟨ρ, rfl, ⟨rs, e, ok⟩, a, rfl⟩ | ⟨ρ, rfl, h⟩
  · obtain ⟨ks, sp1, sp2⟩ := run_spread (n := n) (by omega) rs (by rw [e] at hl; simpa using hl) 0 []
    have er : rds rs = lli rows := by rw [rds_lli, e]
    rw [er] at sp1
    simp only [li, List.map_nil] at sp1
    simp only [evE.eq_1, evE.eq_2, evE.eq_3, evE.eq_4, evE.eq_5, evE.eq_6, evE.eq_7, evE.eq_8, evE.eq_9, evE.eq_10, evE.eq_11, evE.eq_12, evE.eq_13, evE.eq_14, evE.eq_15, evE.eq_16, evE.eq_17, evE.eq_18, evE.eq_19, evE.eq_20, evE.eq_21, evE.eq_22, evEs.eq_1, evEs.eq_2, evS.eq_1, evS.eq_2, evS.eq_3, evS.eq_4, evS.eq_5, evS.eq_6, evS.eq_7, evS.eq_8, evS.eq_9, evS.eq_10, evS.eq_11, evS.eq_12, evS.eq_13, evS.eq_14, evS.eq_15, evS.eq_16, evS.eq_17, evS.eq_18, evS.eq_19, evS.eq_20, evSs.eq_1, evSs.eq_2, TW.gt, TW.st, TW.sts, TW.start, List.map_cons, List.map_nil, List.length_cons, List.length_nil, List.length_map, List.replicate_succ, List.replicate_zero, Nat.reduceAdd, Nat.reduceSub, List.cons_append, List.nil_append, Tg.put, Tg.names, srcRes, srcOf, Sk.out, Sk.pure, wipeE, Op1.run, Op2.run, slc3, okI, okB, okA, isSc_i, isSc_b, isSc_s, isSc_n, isNon_i, isNon_b, isNon_l, isNon_n, eqS_ii, eqS_bb, inF_ints, ints_map, ints_mapf, bit, IDef.mut, kAt, ownK, if_true, if_false, ↓reduceIte, Bool.false_eq_true, decide_true, decide_false, Bool.not_true, Bool.not_false, true_and, and_true, and_self, Option.isSome_some, Option.isSome_none, eq_self, sp1, dks, List.length_map] at ho
    refine ⟨_, decide ((ks.length : Int) = many), ho.symm, ?_⟩
    rw [decide_eq_true_eq]
    have key := spread_all (n := m) (by omega) ok sp2
    have ln : rs.length = rows.length := by rw [e]; simp
    constructor
    · intro h
      exact ⟨m, rs, em, by omega, e, by omega, ok, key.mp (by omega)⟩
    · rintro ⟨n', rs', h1, h2, h3, h4⟩
      have : n' = m := by omega
      subst this
      have : rs' = rs := by
        have h5 := h3.symm.trans e
        have inj : ∀ a b, rl a = rl b → a = b := by rintro ⟨a, b, c⟩ ⟨x, y, z⟩ h; simp [rl] at h; simp [h]
        exact (List.map_inj_right inj).mp h5
      subst this
      have := key.mpr h4.conn
      omega
  · simp only [evE.eq_1, evE.eq_2, evE.eq_3, evE.eq_4, evE.eq_5, evE.eq_6, evE.eq_7, evE.eq_8, evE.eq_9, evE.eq_10, evE.eq_11, evE.eq_12, evE.eq_13, evE.eq_14, evE.eq_15, evE.eq_16, evE.eq_17, evE.eq_18, evE.eq_19, evE.eq_20, evE.eq_21, evE.eq_22, evEs.eq_1, evEs.eq_2, evS.eq_1, evS.eq_2, evS.eq_3, evS.eq_4, evS.eq_5, evS.eq_6, evS.eq_7, evS.eq_8, evS.eq_9, evS.eq_10, evS.eq_11, evS.eq_12, evS.eq_13, evS.eq_14, evS.eq_15, evS.eq_16, evS.eq_17, evS.eq_18, evS.eq_19, evS.eq_20, evSs.eq_1, evSs.eq_2, TW.gt, TW.st, TW.sts, TW.start, List.map_cons, List.map_nil, List.length_cons, List.length_nil, List.length_map, List.replicate_succ, List.replicate_zero, Nat.reduceAdd, Nat.reduceSub, List.cons_append, List.nil_append, Tg.put, Tg.names, srcRes, srcOf, Sk.out, Sk.pure, wipeE, Op1.run, Op2.run, slc3, okI, okB, okA, isSc_i, isSc_b, isSc_s, isSc_n, isNon_i, isNon_b, isNon_l, isNon_n, eqS_ii, eqS_bb, inF_ints, ints_map, ints_mapf, bit, IDef.mut, kAt, ownK, if_true, if_false, ↓reduceIte, Bool.false_eq_true, decide_true, decide_false, Bool.not_true, Bool.not_false, true_and, and_true, and_self, Option.isSome_some, Option.isSome_none, eq_self] at ho
    exact no _ ho.symm h
theorem run_mbt {n : Nat} (hn : 4 ≤ n) (many : Int) (rows : List (List Int)) (hl : rows.length ≤ 1000) : (TreeOf many rows ∧ (sems defs n 15).run [.int many, lli rows] = .ok (.non, [])) ∨ (¬ TreeOf many rows ∧ (sems defs n 15).run [.int many, lli rows] = .exc 1) := by
  obtain ⟨n, rfl, hm⟩ := suc_of hn
  obtain ⟨b, h1, h2⟩ := run_is_tree hm many rows hl
  cases b with
  | true =>
    refine .inl ⟨h2.mp rfl, run_nx (ρ := [some (.int many), some (lli rows)]) (d := d_must_be_tree) rfl rfl rfl ?_⟩
    simp only [d_must_be_tree, evE.eq_1, evE.eq_2, evE.eq_3, evE.eq_4, evE.eq_5, evE.eq_6, evE.eq_7, evE.eq_8, evE.eq_9, evE.eq_10, evE.eq_11, evE.eq_12, evE.eq_13, evE.eq_14, evE.eq_15, evE.eq_16, evE.eq_17, evE.eq_18, evE.eq_19, evE.eq_20, evE.eq_21, evE.eq_22, evEs.eq_1, evEs.eq_2, evS.eq_1, evS.eq_2, evS.eq_3, evS.eq_4, evS.eq_5, evS.eq_6, evS.eq_7, evS.eq_8, evS.eq_9, evS.eq_10, evS.eq_11, evS.eq_12, evS.eq_13, evS.eq_14, evS.eq_15, evS.eq_16, evS.eq_17, evS.eq_18, evS.eq_19, evS.eq_20, evSs.eq_1, evSs.eq_2, TW.gt, TW.st, TW.sts, TW.start, List.map_cons, List.map_nil, List.length_cons, List.length_nil, List.length_map, List.replicate_succ, List.replicate_zero, Nat.reduceAdd, Nat.reduceSub, List.cons_append, List.nil_append, Tg.put, Tg.names, srcRes, srcOf, Sk.out, Sk.pure, wipeE, Op1.run, Op2.run, slc3, okI, okB, okA, isSc_i, isSc_b, isSc_s, isSc_n, isNon_i, isNon_b, isNon_l, isNon_n, eqS_ii, eqS_bb, inF_ints, ints_map, ints_mapf, bit, IDef.mut, kAt, ownK, if_true, if_false, ↓reduceIte, Bool.false_eq_true, decide_true, decide_false, Bool.not_true, Bool.not_false, true_and, and_true, and_self, Option.isSome_some, Option.isSome_none, eq_self, h1]
  | false =>
    refine .inr ⟨fun z => by have := h2.mpr z; simp at this, run_ex (d := d_must_be_tree) rfl rfl ?_⟩
    simp only [d_must_be_tree, evE.eq_1, evE.eq_2, evE.eq_3, evE.eq_4, evE.eq_5, evE.eq_6, evE.eq_7, evE.eq_8, evE.eq_9, evE.eq_10, evE.eq_11, evE.eq_12, evE.eq_13, evE.eq_14, evE.eq_15, evE.eq_16, evE.eq_17, evE.eq_18, evE.eq_19, evE.eq_20, evE.eq_21, evE.eq_22, evEs.eq_1, evEs.eq_2, evS.eq_1, evS.eq_2, evS.eq_3, evS.eq_4, evS.eq_5, evS.eq_6, evS.eq_7, evS.eq_8, evS.eq_9, evS.eq_10, evS.eq_11, evS.eq_12, evS.eq_13, evS.eq_14, evS.eq_15, evS.eq_16, evS.eq_17, evS.eq_18, evS.eq_19, evS.eq_20, evSs.eq_1, evSs.eq_2, TW.gt, TW.st, TW.sts, TW.start, List.map_cons, List.map_nil, List.length_cons, List.length_nil, List.length_map, List.replicate_succ, List.replicate_zero, Nat.reduceAdd, Nat.reduceSub, List.cons_append, List.nil_append, Tg.put, Tg.names, srcRes, srcOf, Sk.out, Sk.pure, wipeE, Op1.run, Op2.run, slc3, okI, okB, okA, isSc_i, isSc_b, isSc_s, isSc_n, isNon_i, isNon_b, isNon_l, isNon_n, eqS_ii, eqS_bb, inF_ints, ints_map, ints_mapf, bit, IDef.mut, kAt, ownK, if_true, if_false, ↓reduceIte, Bool.false_eq_true, decide_true, decide_false, Bool.not_true, Bool.not_false, true_and, and_true, and_self, Option.isSome_some, Option.isSome_none, eq_self, h1]
end TW.M

namespace TW.M
open PySem
section
variable {n : Nat} {rs : List Rd} {d : Int → Int → Int}
theorem Tr.treeOf (T : Tr n rs d) (h12 : n ≤ 12) : TreeOf n (rs.map rl) :=
  ⟨n, rs, rfl, h12, rfl, T.len, T.ok, fun v hv => (all_rch T.tm ⟨by omega, by have := T.len; omega⟩).mpr hv⟩
theorem TreeOf.tr {many : Int} {rows : List (List Int)} (h : TreeOf many rows) : ∃ (n : Nat) (rs : List Rd) (d : Int → Int → Int), many = n ∧ n ≤ 12 ∧ rows = rs.map rl ∧ Tr n rs d := by
  obtain ⟨n, rs, h1, h2, h3, h4⟩ := h
  obtain ⟨d, T⟩ := tree_tr h4
  exact ⟨n, rs, d, h1, h2, h3, T⟩
theorem Tr.small (T : Tr n rs d) (h12 : n ≤ 12) : rs.length ≤ 1000 := by have := T.len; omega
theorem run_mbt_ok (T : Tr n rs d) (h12 : n ≤ 12) {m : Nat} (hm : 4 ≤ m) : (sems defs m 15).run [.int n, rds rs] = .ok (.non, []) := by
  have := T.small h12
  rcases run_mbt hm n (rs.map rl) (by simpa using this) with ⟨h1, h2⟩ | ⟨h1, h2⟩
  · rw [rds_lli]; exact h2
  · exact absurd (T.treeOf h12) h1
theorem run_road_length (T : Tr n rs d) (h12 : n ≤ 12) {m : Nat} (hm : 2 ≤ m) {a b l : Int} (e : gE rs a b l) : (sems defs m 18).run [rds rs, .int a, .int b] = .ok (.int l, []) := by
  obtain ⟨m, rfl, hm1⟩ := suc_of hm
  refine run_rt (ρ := [some (rds rs), some (.int a), some (.int b), none, none]) (d := d_road_length) rfl rfl rfl ?_
  have st1 := run_steps hm1 rs (T.small h12) a
  have len := nbs_len a rs
  have sm := T.small h12
  have l1 : (nbs rs a).length ≤ lim := by unfold lim; omega
  simp only [d_road_length, evE.eq_1, evE.eq_2, evE.eq_3, evE.eq_4, evE.eq_5, evE.eq_6, evE.eq_7, evE.eq_8, evE.eq_9, evE.eq_10, evE.eq_11, evE.eq_12, evE.eq_13, evE.eq_14, evE.eq_15, evE.eq_16, evE.eq_17, evE.eq_18, evE.eq_19, evE.eq_20, evE.eq_21, evE.eq_22, evEs.eq_1, evEs.eq_2, evS.eq_1, evS.eq_2, evS.eq_3, evS.eq_4, evS.eq_5, evS.eq_6, evS.eq_7, evS.eq_8, evS.eq_9, evS.eq_10, evS.eq_11, evS.eq_12, evS.eq_13, evS.eq_14, evS.eq_15, evS.eq_16, evS.eq_17, evS.eq_18, evS.eq_19, evS.eq_20, evSs.eq_1, evSs.eq_2, TW.gt, TW.st, TW.sts, TW.start, List.map_cons, List.map_nil, List.length_cons, List.length_nil, List.length_map, List.replicate_succ, List.replicate_zero, Nat.reduceAdd, Nat.reduceSub, List.cons_append, List.nil_append, Tg.put, Tg.names, srcRes, srcOf, Sk.out, Sk.pure, wipeE, Op1.run, Op2.run, slc3, okI, okB, okA, isSc_i, isSc_b, isSc_s, isSc_n, isNon_i, isNon_b, isNon_l, isNon_n, eqS_ii, eqS_bb, inF_ints, ints_map, ints_mapf, bit, IDef.mut, kAt, ownK, if_true, if_false, ↓reduceIte, Bool.false_eq_true, decide_true, decide_false, Bool.not_true, Bool.not_false, true_and, and_true, and_self, Option.isSome_some, Option.isSome_none, eq_self, st1, l1]
  generalize hL : lcGo _ _ _ _ _ = o
  have := lc_map hL pr (nbs rs a) (fun x => decide (x.1 = b)) (fun x => .int x.2) rfl (by
    rintro ⟨v, k⟩ hx
    refine ⟨_, rfl, [some (rds rs), some (.int a), some (.int b), some (.int v), some (.int k)], by simp only [evE.eq_1, evE.eq_2, evE.eq_3, evE.eq_4, evE.eq_5, evE.eq_6, evE.eq_7, evE.eq_8, evE.eq_9, evE.eq_10, evE.eq_11, evE.eq_12, evE.eq_13, evE.eq_14, evE.eq_15, evE.eq_16, evE.eq_17, evE.eq_18, evE.eq_19, evE.eq_20, evE.eq_21, evE.eq_22, evEs.eq_1, evEs.eq_2, evS.eq_1, evS.eq_2, evS.eq_3, evS.eq_4, evS.eq_5, evS.eq_6, evS.eq_7, evS.eq_8, evS.eq_9, evS.eq_10, evS.eq_11, evS.eq_12, evS.eq_13, evS.eq_14, evS.eq_15, evS.eq_16, evS.eq_17, evS.eq_18, evS.eq_19, evS.eq_20, evSs.eq_1, evSs.eq_2, TW.gt, TW.st, TW.sts, TW.start, List.map_cons, List.map_nil, List.length_cons, List.length_nil, List.length_map, List.replicate_succ, List.replicate_zero, Nat.reduceAdd, Nat.reduceSub, List.cons_append, List.nil_append, Tg.put, Tg.names, srcRes, srcOf, Sk.out, Sk.pure, wipeE, Op1.run, Op2.run, slc3, okI, okB, okA, isSc_i, isSc_b, isSc_s, isSc_n, isNon_i, isNon_b, isNon_l, isNon_n, eqS_ii, eqS_bb, inF_ints, ints_map, ints_mapf, bit, IDef.mut, kAt, ownK, if_true, if_false, ↓reduceIte, Bool.false_eq_true, decide_true, decide_false, Bool.not_true, Bool.not_false, true_and, and_true, and_self, Option.isSome_some, Option.isSome_none, eq_self], fun _ => ⟨[some (rds rs), some (.int a), some (.int b), some (.int v), some (.int k)], by simp only [evE.eq_1, evE.eq_2, evE.eq_3, evE.eq_4, evE.eq_5, evE.eq_6, evE.eq_7, evE.eq_8, evE.eq_9, evE.eq_10, evE.eq_11, evE.eq_12, evE.eq_13, evE.eq_14, evE.eq_15, evE.eq_16, evE.eq_17, evE.eq_18, evE.eq_19, evE.eq_20, evE.eq_21, evE.eq_22, evEs.eq_1, evEs.eq_2, evS.eq_1, evS.eq_2, evS.eq_3, evS.eq_4, evS.eq_5, evS.eq_6, evS.eq_7, evS.eq_8, evS.eq_9, evS.eq_10, evS.eq_11, evS.eq_12, evS.eq_13, evS.eq_14, evS.eq_15, evS.eq_16, evS.eq_17, evS.eq_18, evS.eq_19, evS.eq_20, evSs.eq_1, evSs.eq_2, TW.gt, TW.st, TW.sts, TW.start, List.map_cons, List.map_nil, List.length_cons, List.length_nil, List.length_map, List.replicate_succ, List.replicate_zero, Nat.reduceAdd, Nat.reduceSub, List.cons_append, List.nil_append, Tg.put, Tg.names, srcRes, srcOf, Sk.out, Sk.pure, wipeE, Op1.run, Op2.run, slc3, okI, okB, okA, isSc_i, isSc_b, isSc_s, isSc_n, isNon_i, isNon_b, isNon_l, isNon_n, eqS_ii, eqS_bb, inF_ints, ints_map, ints_mapf, bit, IDef.mut, kAt, ownK, if_true, if_false, ↓reduceIte, Bool.false_eq_true, decide_true, decide_false, Bool.not_true, Bool.not_false, true_and, and_true, and_self, Option.isSome_some, Option.isSome_none, eq_self]⟩⟩)
  subst this
  have key : ∃ w t, (nbs rs a).filter (fun x => decide (x.1 = b)) = (w, l) :: t := by
    cases hf : (nbs rs a).filter (fun x => decide (x.1 = b)) with
    | nil =>
      have : (b, l) ∈ (nbs rs a).filter (fun x => decide (x.1 = b)) := List.mem_filter.mpr ⟨nbs_mem.mpr e, by simp⟩
      rw [hf] at this; cases this
    | cons x t =>
      have : x ∈ (nbs rs a).filter (fun x => decide (x.1 = b)) := by rw [hf]; simp
      obtain ⟨m1, m2⟩ := List.mem_filter.mp this
      have m2 : x.1 = b := by simpa using m2
      have : gE rs a b x.2 := nbs_mem.mp (by rw [← m2]; exact m1)
      have := T.tm.lab this e
      exact ⟨x.1, t, by rw [← this]⟩
  obtain ⟨w, t, hk⟩ := key
  have n0 : nth (D.int l :: t.map fun x => D.int x.2) 0 = some (.int l) := nth_nat _ 0
  simp only [hk, evE.eq_1, evE.eq_2, evE.eq_3, evE.eq_4, evE.eq_5, evE.eq_6, evE.eq_7, evE.eq_8, evE.eq_9, evE.eq_10, evE.eq_11, evE.eq_12, evE.eq_13, evE.eq_14, evE.eq_15, evE.eq_16, evE.eq_17, evE.eq_18, evE.eq_19, evE.eq_20, evE.eq_21, evE.eq_22, evEs.eq_1, evEs.eq_2, evS.eq_1, evS.eq_2, evS.eq_3, evS.eq_4, evS.eq_5, evS.eq_6, evS.eq_7, evS.eq_8, evS.eq_9, evS.eq_10, evS.eq_11, evS.eq_12, evS.eq_13, evS.eq_14, evS.eq_15, evS.eq_16, evS.eq_17, evS.eq_18, evS.eq_19, evS.eq_20, evSs.eq_1, evSs.eq_2, TW.gt, TW.st, TW.sts, TW.start, List.map_cons, List.map_nil, List.length_cons, List.length_nil, List.length_map, List.replicate_succ, List.replicate_zero, Nat.reduceAdd, Nat.reduceSub, List.cons_append, List.nil_append, Tg.put, Tg.names, srcRes, srcOf, Sk.out, Sk.pure, wipeE, Op1.run, Op2.run, slc3, okI, okB, okA, isSc_i, isSc_b, isSc_s, isSc_n, isNon_i, isNon_b, isNon_l, isNon_n, eqS_ii, eqS_bb, inF_ints, ints_map, ints_mapf, bit, IDef.mut, kAt, ownK, if_true, if_false, ↓reduceIte, Bool.false_eq_true, decide_true, decide_false, Bool.not_true, Bool.not_false, true_and, and_true, and_self, Option.isSome_some, Option.isSome_none, eq_self, n0]
theorem Spr.near (T : Tr n rs d) {s : Int} (hs : Pl n s) {ks : List (Int × Int)} (sp : Spr rs [] s ks) {v p : Int} (m : (v, p) ∈ ks) (vs : v ≠ s) : ∃ l, gE rs v p l ∧ d v s = l + d p s := by
  have key : ∀ (k : Nat) (pre : List (Int × Int)), pre.length = k → ∀ v p post, ks = pre ++ (v, p) :: post → v ≠ s → ∃ l, gE rs v p l ∧ d v s = l + d p s := by
    intro k
    induction k using Nat.strongRecOn with
    | _ k ih =>
      intro pre hk v p post e vs
      obtain ⟨r, hr⟩ := sp.head
      have ne : pre ≠ [] := fun z => by rw [z, hr] at e; simp at e; exact vs e.1.1.symm
      obtain ⟨m1, ⟨l, g⟩, _⟩ := sp.par pre v p post e ne
      have g' := T.tm.esym _ _ _ g
      refine ⟨l, g', ?_⟩
      rcases T.tm.side v p l s g' hs with h | h
      · exact h
      obtain ⟨⟨p', q⟩, mq, rfl⟩ := List.mem_map.mp m1
      obtain ⟨pre1, pre2, rfl⟩ := List.append_of_mem mq
      obtain ⟨hv, hp, _, hl, _⟩ := T.tm.e _ _ _ g'
      by_cases ps : p' = s
      · subst ps
        have := T.tm.self p' hs; have := T.tm.nn hv hs
        simp only [] at h
        omega
      obtain ⟨l', g2, h2⟩ := ih pre1.length (by rw [← hk]; simp) pre1 rfl p' q (pre2 ++ (v, p') :: post) (by rw [e]; simp) ps
      have := T.tm.uniq g2 g hs h2 h
      subst this
      -- q = v is ahead of itself
      have ne1 : pre1 ≠ [] := fun z => by rw [z, hr] at e; simp at e; exact ps e.1.1.symm
      obtain ⟨m2, _⟩ := sp.par pre1 p' q (pre2 ++ (q, p') :: post) (by rw [e]; simp) ne1
      have nd := sp.nd
      rw [e] at nd
      simp only [List.map_append, List.map_cons] at nd
      rw [List.nodup_append] at nd
      exact absurd rfl (nd.2.2 q (List.mem_append_left _ m2) q (by simp))
  obtain ⟨pre, post, e⟩ := List.append_of_mem m
  exact key _ pre rfl v p post e vs
theorem look_mem {κ : Type} [DecidableEq κ] {i : κ} {x : D} : ∀ {ks : List (κ × D)}, (ks.map (·.1)).Nodup → (i, x) ∈ ks → look ks i = some x
  | (j, y) :: ks, nd, m => by
    rw [List.map_cons, List.nodup_cons] at nd
    simp only [look]
    rcases List.mem_cons.mp m with e | m
    · cases e; simp
    · have : j ≠ i := fun e => nd.1 (List.mem_map.mpr ⟨_, m, e.symm⟩)
      rw [if_neg this]
      exact look_mem nd.2 m
theorem look_none {κ : Type} [DecidableEq κ] {i : κ} : ∀ {ks : List (κ × D)}, i ∉ ks.map (·.1) → look ks i = none
  | [], _ => rfl
  | (j, y) :: ks, m => by
    rw [List.map_cons, List.mem_cons] at m
    simp only [look]
    rw [if_neg (fun e => m (.inl e.symm))]
    exact look_none fun z => m (.inr z)
theorem dks_keys (ks : List (Int × Int)) : (dks ks).map (·.1) = ks.map (·.1) := by simp [dks]
theorem look_spr {s v p : Int} {bar : List Int} {ks : List (Int × Int)} (sp : Spr rs bar s ks) (m : (v, p) ∈ ks) : look (dks ks) v = some (.int p) :=
  look_mem (by rw [dks_keys]; exact sp.nd) (List.mem_map.mpr ⟨_, m, rfl⟩)
/-- the next place toward s -/
theorem look_near (T : Tr n rs d) {s : Int} (hs : Pl n s) {ks : List (Int × Int)} (sp : Spr rs [] s ks) {v : Int} (hv : Pl n v) (vs : v ≠ s) : ∃ p l, look (dks ks) v = some (.int p) ∧ (v, p) ∈ ks ∧ gE rs v p l ∧ d v s = l + d p s := by
  obtain ⟨⟨v', p⟩, m, rfl⟩ := List.mem_map.mp ((sp.mem v).mpr ((all_rch T.tm hs).mpr hv))
  obtain ⟨l, g, h⟩ := sp.near T hs m vs
  exact ⟨p, l, look_spr sp m, m, g, h⟩
theorem run_way (T : Tr n rs d) (h12 : n ≤ 12) {m : Nat} (hm : 5 ≤ m) {a b : Int} (ha : Pl n a) (hb : Pl n b) : ∃ ps, (sems defs m 17).run [.int n, rds rs, .int a, .int b] = .ok (li (a :: ps), []) ∧ IsWay rs d b (a :: ps) := by
  obtain ⟨m, rfl, hm1⟩ := suc_of hm
  suffices H : ∃ ρ ps, evSs (sems defs m) d_way.body (start d_way.ns [.int n, rds rs, .int a, .int b]) = .rt (li (a :: ps)) ρ ∧ IsWay rs d b (a :: ps) by
    obtain ⟨ρ, ps, h1, h2⟩ := H
    exact ⟨ps, run_rt (d := d_way) rfl rfl rfl h1, h2⟩
  obtain ⟨o1, ho⟩ : ∃ o1, evSs (sems defs m) d_way.body (start d_way.ns [.int n, rds rs, .int a, .int b]) = o1 := ⟨_, rfl⟩
  rw [ho]
  have c1 := run_mbt_ok T h12 hm1
  have c2 := run_mbp (n := m) (by omega) n [a, b]
  rw [if_pos (by intro x hx; simp at hx; rcases hx with rfl | rfl <;> assumption)] at c2
  simp only [li, List.map_cons, List.map_nil] at c2
  obtain ⟨ks, c3, sp⟩ := run_spread (n := m) (by omega) rs (T.small h12) b []
  simp only [li, List.map_nil] at c3
  simp only [d_way, evE.eq_1, evE.eq_2, evE.eq_3, evE.eq_4, evE.eq_5, evE.eq_6, evE.eq_7, evE.eq_8, evE.eq_9, evE.eq_10, evE.eq_11, evE.eq_12, evE.eq_13, evE.eq_14, evE.eq_15, evE.eq_16, evE.eq_17, evE.eq_18, evE.eq_19, evE.eq_20, evE.eq_21, evE.eq_22, evEs.eq_1, evEs.eq_2, evS.eq_1, evS.eq_2, evS.eq_3, evS.eq_4, evS.eq_5, evS.eq_6, evS.eq_7, evS.eq_8, evS.eq_9, evS.eq_10, evS.eq_11, evS.eq_12, evS.eq_13, evS.eq_14, evS.eq_15, evS.eq_16, evS.eq_17, evS.eq_18, evS.eq_19, evS.eq_20, evSs.eq_1, evSs.eq_2, TW.gt, TW.st, TW.sts, TW.start, List.map_cons, List.map_nil, List.length_cons, List.length_nil, List.length_map, List.replicate_succ, List.replicate_zero, Nat.reduceAdd, Nat.reduceSub, List.cons_append, List.nil_append, Tg.put, Tg.names, srcRes, srcOf, Sk.out, Sk.pure, wipeE, Op1.run, Op2.run, slc3, okI, okB, okA, isSc_i, isSc_b, isSc_s, isSc_n, isNon_i, isNon_b, isNon_l, isNon_n, eqS_ii, eqS_bb, inF_ints, ints_map, ints_mapf, bit, IDef.mut, kAt, ownK, if_true, if_false, ↓reduceIte, Bool.false_eq_true, decide_true, decide_false, Bool.not_true, Bool.not_false, true_and, and_true, and_self, Option.isSome_some, Option.isSome_none, eq_self, c1, c2, c3] at ho
  generalize hW : whlGo _ _ _ _ = o at ho
  obtain ⟨ρ, rfl, x, pre, rfl, h1, h2⟩ := whl_inv hW
    (fun ρ => ∃ (x : Int) (pre : List Int), ρ = [some (.int n), some (rds rs), some (.int a), some (.int b), some (.dic (dks ks)), some (li (pre ++ [x]))] ∧ Pl n x ∧ (pre ++ [x]).Nodup ∧ (∀ z ∈ pre ++ [x], Pl n z ∧ d x b ≤ d z b) ∧ (∃ t, pre ++ [x] = a :: t) ∧ ∀ r, IsWay rs d b (x :: r) → IsWay rs d b (pre ++ x :: r))
    (fun ρ => ∃ (x : Int) (pre : List Int), ρ = [some (.int n), some (rds rs), some (.int a), some (.int b), some (.dic (dks ks)), some (li (pre ++ [x]))] ∧ (∃ t, pre ++ [x] = a :: t) ∧ IsWay rs d b (pre ++ [x]))
    (fun ρ => match gt ρ 5 with | some (.lst xs) => 100 - xs.length | _ => 0)
    ⟨a, [], rfl, ha, by simp, fun z hz => by simp at hz; subst hz; exact ⟨ha, Int.le_refl _⟩, ⟨[], rfl⟩, fun r h => h⟩
    (by simp [gt])
    (by
      rintro ρ ⟨x, pre, rfl, hx, nd, cl, ex, wy⟩
      have n1 : nth (List.map D.int (pre ++ [x])) (-1) = some (.int x) := by rw [nth_last]; simp
      by_cases xb : x = b
      · right
        have d1 := decide_eq_true xb
        refine ⟨_, by simp only [evE.eq_1, evE.eq_2, evE.eq_3, evE.eq_4, evE.eq_5, evE.eq_6, evE.eq_7, evE.eq_8, evE.eq_9, evE.eq_10, evE.eq_11, evE.eq_12, evE.eq_13, evE.eq_14, evE.eq_15, evE.eq_16, evE.eq_17, evE.eq_18, evE.eq_19, evE.eq_20, evE.eq_21, evE.eq_22, evEs.eq_1, evEs.eq_2, evS.eq_1, evS.eq_2, evS.eq_3, evS.eq_4, evS.eq_5, evS.eq_6, evS.eq_7, evS.eq_8, evS.eq_9, evS.eq_10, evS.eq_11, evS.eq_12, evS.eq_13, evS.eq_14, evS.eq_15, evS.eq_16, evS.eq_17, evS.eq_18, evS.eq_19, evS.eq_20, evSs.eq_1, evSs.eq_2, TW.gt, TW.st, TW.sts, TW.start, List.map_cons, List.map_nil, List.length_cons, List.length_nil, List.length_map, List.replicate_succ, List.replicate_zero, Nat.reduceAdd, Nat.reduceSub, List.cons_append, List.nil_append, Tg.put, Tg.names, srcRes, srcOf, Sk.out, Sk.pure, wipeE, Op1.run, Op2.run, slc3, okI, okB, okA, isSc_i, isSc_b, isSc_s, isSc_n, isNon_i, isNon_b, isNon_l, isNon_n, eqS_ii, eqS_bb, inF_ints, ints_map, ints_mapf, bit, IDef.mut, kAt, ownK, if_true, if_false, ↓reduceIte, Bool.false_eq_true, decide_true, decide_false, Bool.not_true, Bool.not_false, true_and, and_true, and_self, Option.isSome_some, Option.isSome_none, eq_self, li, n1, d1] <;> rfl, x, pre, rfl, ex, wy [] (by exact xb)⟩
      · left
        have d1 := decide_eq_false xb
        obtain ⟨p, l, lk, mk, g, hd⟩ := look_near T hb sp hx xb
        obtain ⟨_, hp, _, hl, _⟩ := T.tm.e _ _ _ g
        have len := len_of_sub nd (l2 := plc n) fun z hz => plc_mem.mpr (cl z hz).1
        rw [plc_len] at len
        have l1 : (pre ++ [x]).length < lim := by unfold lim; omega
        have np : p ∉ pre ++ [x] := fun z => by have := (cl p z).2; omega
        refine ⟨_, by simp only [evE.eq_1, evE.eq_2, evE.eq_3, evE.eq_4, evE.eq_5, evE.eq_6, evE.eq_7, evE.eq_8, evE.eq_9, evE.eq_10, evE.eq_11, evE.eq_12, evE.eq_13, evE.eq_14, evE.eq_15, evE.eq_16, evE.eq_17, evE.eq_18, evE.eq_19, evE.eq_20, evE.eq_21, evE.eq_22, evEs.eq_1, evEs.eq_2, evS.eq_1, evS.eq_2, evS.eq_3, evS.eq_4, evS.eq_5, evS.eq_6, evS.eq_7, evS.eq_8, evS.eq_9, evS.eq_10, evS.eq_11, evS.eq_12, evS.eq_13, evS.eq_14, evS.eq_15, evS.eq_16, evS.eq_17, evS.eq_18, evS.eq_19, evS.eq_20, evSs.eq_1, evSs.eq_2, TW.gt, TW.st, TW.sts, TW.start, List.map_cons, List.map_nil, List.length_cons, List.length_nil, List.length_map, List.replicate_succ, List.replicate_zero, Nat.reduceAdd, Nat.reduceSub, List.cons_append, List.nil_append, Tg.put, Tg.names, srcRes, srcOf, Sk.out, Sk.pure, wipeE, Op1.run, Op2.run, slc3, okI, okB, okA, isSc_i, isSc_b, isSc_s, isSc_n, isNon_i, isNon_b, isNon_l, isNon_n, eqS_ii, eqS_bb, inF_ints, ints_map, ints_mapf, bit, IDef.mut, kAt, ownK, if_true, if_false, ↓reduceIte, Bool.false_eq_true, decide_true, decide_false, Bool.not_true, Bool.not_false, true_and, and_true, and_self, Option.isSome_some, Option.isSome_none, eq_self, li, n1, d1] <;> rfl, _, by simp only [evE.eq_1, evE.eq_2, evE.eq_3, evE.eq_4, evE.eq_5, evE.eq_6, evE.eq_7, evE.eq_8, evE.eq_9, evE.eq_10, evE.eq_11, evE.eq_12, evE.eq_13, evE.eq_14, evE.eq_15, evE.eq_16, evE.eq_17, evE.eq_18, evE.eq_19, evE.eq_20, evE.eq_21, evE.eq_22, evEs.eq_1, evEs.eq_2, evS.eq_1, evS.eq_2, evS.eq_3, evS.eq_4, evS.eq_5, evS.eq_6, evS.eq_7, evS.eq_8, evS.eq_9, evS.eq_10, evS.eq_11, evS.eq_12, evS.eq_13, evS.eq_14, evS.eq_15, evS.eq_16, evS.eq_17, evS.eq_18, evS.eq_19, evS.eq_20, evSs.eq_1, evSs.eq_2, TW.gt, TW.st, TW.sts, TW.start, List.map_cons, List.map_nil, List.length_cons, List.length_nil, List.length_map, List.replicate_succ, List.replicate_zero, Nat.reduceAdd, Nat.reduceSub, List.cons_append, List.nil_append, Tg.put, Tg.names, srcRes, srcOf, Sk.out, Sk.pure, wipeE, Op1.run, Op2.run, slc3, okI, okB, okA, isSc_i, isSc_b, isSc_s, isSc_n, isNon_i, isNon_b, isNon_l, isNon_n, eqS_ii, eqS_bb, inF_ints, ints_map, ints_mapf, bit, IDef.mut, kAt, ownK, if_true, if_false, ↓reduceIte, Bool.false_eq_true, decide_true, decide_false, Bool.not_true, Bool.not_false, true_and, and_true, and_self, Option.isSome_some, Option.isSome_none, eq_self, n1, lk, l1] <;> rfl, ⟨p, pre ++ [x], by simp [li], hp, ?_, ?_, ?_, ?_⟩, ?_⟩
        · rw [List.nodup_append]
          exact ⟨nd, by simp, fun y hy z hz e => by simp at hz; subst hz; exact np (e ▸ hy)⟩
        · intro z hz
          rcases List.mem_append.mp hz with hz | hz
          · have := cl z hz; exact ⟨this.1, by omega⟩
          · simp at hz; subst hz; exact ⟨hp, Int.le_refl _⟩
        · obtain ⟨t, ht⟩ := ex
          exact ⟨t ++ [p], by rw [ht]; rfl⟩
        · intro r h
          have := wy (p :: r) ⟨⟨l, g, hd⟩, h⟩
          simpa using this
        · simp [gt, li] at len ⊢; omega)
  obtain ⟨t, ht⟩ := h1
  have sc1 : (List.map D.int (pre ++ [x])).all D.isSc = true := by simp [D.isSc]
  simp only [evE.eq_1, evE.eq_2, evE.eq_3, evE.eq_4, evE.eq_5, evE.eq_6, evE.eq_7, evE.eq_8, evE.eq_9, evE.eq_10, evE.eq_11, evE.eq_12, evE.eq_13, evE.eq_14, evE.eq_15, evE.eq_16, evE.eq_17, evE.eq_18, evE.eq_19, evE.eq_20, evE.eq_21, evE.eq_22, evEs.eq_1, evEs.eq_2, evS.eq_1, evS.eq_2, evS.eq_3, evS.eq_4, evS.eq_5, evS.eq_6, evS.eq_7, evS.eq_8, evS.eq_9, evS.eq_10, evS.eq_11, evS.eq_12, evS.eq_13, evS.eq_14, evS.eq_15, evS.eq_16, evS.eq_17, evS.eq_18, evS.eq_19, evS.eq_20, evSs.eq_1, evSs.eq_2, TW.gt, TW.st, TW.sts, TW.start, List.map_cons, List.map_nil, List.length_cons, List.length_nil, List.length_map, List.replicate_succ, List.replicate_zero, Nat.reduceAdd, Nat.reduceSub, List.cons_append, List.nil_append, Tg.put, Tg.names, srcRes, srcOf, Sk.out, Sk.pure, wipeE, Op1.run, Op2.run, slc3, okI, okB, okA, isSc_i, isSc_b, isSc_s, isSc_n, isNon_i, isNon_b, isNon_l, isNon_n, eqS_ii, eqS_bb, inF_ints, ints_map, ints_mapf, bit, IDef.mut, kAt, ownK, if_true, if_false, ↓reduceIte, Bool.false_eq_true, decide_true, decide_false, Bool.not_true, Bool.not_false, true_and, and_true, and_self, Option.isSome_some, Option.isSome_none, eq_self, li, sc1] at ho
  refine ⟨_, t, by rw [← ho, ht] <;> rfl, by rw [← ht]; exact h2⟩
end
end TW.M

namespace TW.M
open PySem
theorem tele (g : Nat → Int) : ∀ m, ((List.range m).map fun k => g k - g (k + 1)).sum = g 0 - g m
  | 0 => by simp
  | m + 1 => by rw [List.range_succ, List.map_append, List.sum_append, tele g m]; simp; omega
theorem sc_ints (xs : List Int) : (xs.map D.int).all D.isSc = true := by simp [D.isSc]
section
variable {n : Nat} {rs : List Rd} {d : Int → Int → Int}
theorem IsWay.at {b : Int} : ∀ {ps : List Int}, IsWay rs d b ps → ∀ k, k + 1 < ps.length → ∃ x y l, ps[k]? = some x ∧ ps[k + 1]? = some y ∧ gE rs x y l ∧ d x b = l + d y b
  | [x], _, k, hk => by simp at hk
  | x :: y :: r, ⟨⟨l, e, hd⟩, h⟩, 0, _ => ⟨x, y, l, rfl, rfl, e, hd⟩
  | x :: y :: r, ⟨_, h⟩, k + 1, hk => by
    obtain ⟨u, v, l, h1, h2, h3⟩ := h.at k (by simpa using hk)
    exact ⟨u, v, l, by simpa using h1, by simpa using h2, h3⟩
theorem run_far (T : Tr n rs d) (h12 : n ≤ 12) {m : Nat} (hm : 6 ≤ m) {a b : Int} (ha : Pl n a) (hb : Pl n b) : (sems defs m 19).run [.int n, rds rs, .int a, .int b] = .ok (.int (d a b), []) := by
  obtain ⟨m, rfl, hm1⟩ := suc_of hm
  obtain ⟨ps, c1, wy⟩ := run_way T h12 hm1 ha hb
  refine run_rt (ρ := [some (.int n), some (rds rs), some (.int a), some (.int b), some (li (a :: ps)), none]) (d := d_far) rfl rfl rfl ?_
  have nd := wy.nodup T.tm hb ha
  have len := len_of_sub nd (l2 := plc n) fun z hz => plc_mem.mpr ((wy.mem T.tm hb ha z).mp hz).1
  rw [plc_len] at len
  generalize hq : a :: ps = q at *
  have rg := rng1 q.length
  have b1 : ((q.length : Int) ≤ (lim : Nat) ∧ -big ≤ (q.length : Int) ∧ (-1000 : Int) ≤ 1 ∧ (1 : Int) ≤ (lim : Nat)) := by unfold lim big; omega
  have b2 : (List.range (q.length - 1)).length ≤ lim := by unfold lim; simp; omega
  simp only [d_far, evE.eq_1, evE.eq_2, evE.eq_3, evE.eq_4, evE.eq_5, evE.eq_6, evE.eq_7, evE.eq_8, evE.eq_9, evE.eq_10, evE.eq_11, evE.eq_12, evE.eq_13, evE.eq_14, evE.eq_15, evE.eq_16, evE.eq_17, evE.eq_18, evE.eq_19, evE.eq_20, evE.eq_21, evE.eq_22, evEs.eq_1, evEs.eq_2, evS.eq_1, evS.eq_2, evS.eq_3, evS.eq_4, evS.eq_5, evS.eq_6, evS.eq_7, evS.eq_8, evS.eq_9, evS.eq_10, evS.eq_11, evS.eq_12, evS.eq_13, evS.eq_14, evS.eq_15, evS.eq_16, evS.eq_17, evS.eq_18, evS.eq_19, evS.eq_20, evSs.eq_1, evSs.eq_2, TW.gt, TW.st, TW.sts, TW.start, List.map_cons, List.map_nil, List.length_cons, List.length_nil, List.length_map, List.replicate_succ, List.replicate_zero, Nat.reduceAdd, Nat.reduceSub, List.cons_append, List.nil_append, Tg.put, Tg.names, srcRes, srcOf, Sk.out, Sk.pure, wipeE, Op1.run, Op2.run, slc3, okI, okB, okA, isSc_i, isSc_b, isSc_s, isSc_n, isNon_i, isNon_b, isNon_l, isNon_n, eqS_ii, eqS_bb, inF_ints, ints_map, ints_mapf, bit, IDef.mut, kAt, ownK, if_true, if_false, ↓reduceIte, Bool.false_eq_true, decide_true, decide_false, Bool.not_true, Bool.not_false, true_and, and_true, and_self, Option.isSome_some, Option.isSome_none, eq_self, c1, li, rg, b1, b2]
  generalize hL : lcGo _ _ _ _ _ = o
  let g : Nat → Int := fun k => d (q.getD k 0) b
  have := lc_all hL (fun (k : Nat) => D.int ((k : Int) + 1)) (List.range (q.length - 1)) (fun k => .int (g k - g (k + 1))) (by simp) (by
    intro k hk
    have hk : k + 1 < q.length := by have := List.mem_range.mp hk; omega
    obtain ⟨x, y, l, h1, h2, h3, h4⟩ := wy.at k hk
    have n1 : nth (q.map D.int) ((k : Int) + 1) = some (.int y) := by
      rw [show (k : Int) + 1 = ((k + 1 : Nat) : Int) by simp, nth_nat, List.getElem?_map, h2]; rfl
    have n2 : nth (q.map D.int) ((k : Int) + 1 - 1) = some (.int x) := by
      rw [show (k : Int) + 1 - 1 = (k : Int) by omega, nth_nat, List.getElem?_map, h1]; rfl
    have c2 := run_road_length T h12 (m := m) (by omega) h3
    refine ⟨_, rfl, [some (.int n), some (rds rs), some (.int a), some (.int b), some (li q), some (.int ((k : Int) + 1))], ?_⟩
    have e1 : q.getD k 0 = x := by simp [List.getD_eq_getElem?_getD, h1]
    have e2 : q.getD (k + 1) 0 = y := by simp [List.getD_eq_getElem?_getD, h2]
    have : g k - g (k + 1) = l := by show d (q.getD k 0) b - d (q.getD (k + 1) 0) b = l; rw [e1, e2]; omega
    simp only [evE.eq_1, evE.eq_2, evE.eq_3, evE.eq_4, evE.eq_5, evE.eq_6, evE.eq_7, evE.eq_8, evE.eq_9, evE.eq_10, evE.eq_11, evE.eq_12, evE.eq_13, evE.eq_14, evE.eq_15, evE.eq_16, evE.eq_17, evE.eq_18, evE.eq_19, evE.eq_20, evE.eq_21, evE.eq_22, evEs.eq_1, evEs.eq_2, evS.eq_1, evS.eq_2, evS.eq_3, evS.eq_4, evS.eq_5, evS.eq_6, evS.eq_7, evS.eq_8, evS.eq_9, evS.eq_10, evS.eq_11, evS.eq_12, evS.eq_13, evS.eq_14, evS.eq_15, evS.eq_16, evS.eq_17, evS.eq_18, evS.eq_19, evS.eq_20, evSs.eq_1, evSs.eq_2, TW.gt, TW.st, TW.sts, TW.start, List.map_cons, List.map_nil, List.length_cons, List.length_nil, List.length_map, List.replicate_succ, List.replicate_zero, Nat.reduceAdd, Nat.reduceSub, List.cons_append, List.nil_append, Tg.put, Tg.names, srcRes, srcOf, Sk.out, Sk.pure, wipeE, Op1.run, Op2.run, slc3, okI, okB, okA, isSc_i, isSc_b, isSc_s, isSc_n, isNon_i, isNon_b, isNon_l, isNon_n, eqS_ii, eqS_bb, inF_ints, ints_map, ints_mapf, bit, IDef.mut, kAt, ownK, if_true, if_false, ↓reduceIte, Bool.false_eq_true, decide_true, decide_false, Bool.not_true, Bool.not_false, true_and, and_true, and_self, Option.isSome_some, Option.isSome_none, eq_self, li, n1, n2, c2, this])
  subst this
  have e0 : g 0 = d a b := by show d (q.getD 0 0) b = _; rw [← hq]; rfl
  have e1 : g (q.length - 1) = 0 := by
    show d (q.getD (q.length - 1) 0) b = _
    have := wy.last
    rw [List.getLast?_eq_getElem?] at this
    rw [List.getD_eq_getElem?_getD, this]
    exact T.tm.self b hb
  simp only [evE.eq_1, evE.eq_2, evE.eq_3, evE.eq_4, evE.eq_5, evE.eq_6, evE.eq_7, evE.eq_8, evE.eq_9, evE.eq_10, evE.eq_11, evE.eq_12, evE.eq_13, evE.eq_14, evE.eq_15, evE.eq_16, evE.eq_17, evE.eq_18, evE.eq_19, evE.eq_20, evE.eq_21, evE.eq_22, evEs.eq_1, evEs.eq_2, evS.eq_1, evS.eq_2, evS.eq_3, evS.eq_4, evS.eq_5, evS.eq_6, evS.eq_7, evS.eq_8, evS.eq_9, evS.eq_10, evS.eq_11, evS.eq_12, evS.eq_13, evS.eq_14, evS.eq_15, evS.eq_16, evS.eq_17, evS.eq_18, evS.eq_19, evS.eq_20, evSs.eq_1, evSs.eq_2, TW.gt, TW.st, TW.sts, TW.start, List.map_cons, List.map_nil, List.length_cons, List.length_nil, List.length_map, List.replicate_succ, List.replicate_zero, Nat.reduceAdd, Nat.reduceSub, List.cons_append, List.nil_append, Tg.put, Tg.names, srcRes, srcOf, Sk.out, Sk.pure, wipeE, Op1.run, Op2.run, slc3, okI, okB, okA, isSc_i, isSc_b, isSc_s, isSc_n, isNon_i, isNon_b, isNon_l, isNon_n, eqS_ii, eqS_bb, inF_ints, ints_map, ints_mapf, bit, IDef.mut, kAt, ownK, if_true, if_false, ↓reduceIte, Bool.false_eq_true, decide_true, decide_false, Bool.not_true, Bool.not_false, true_and, and_true, and_self, Option.isSome_some, Option.isSome_none, eq_self, tele g, e0, e1, Int.sub_zero]
theorem run_leaves (T : Tr n rs d) (h12 : n ≤ 12) {m : Nat} (hm : 5 ≤ m) : (sems defs m 34).run [.int n, rds rs] = .ok (li ((plc n).filter fun p => decide ((nbs rs p).length = 1)), []) := by
  obtain ⟨m, rfl, hm1⟩ := suc_of hm
  refine run_rt (ρ := [some (.int n), some (rds rs), none]) (d := d_leaves) rfl rfl rfl ?_
  have c1 := run_mbt_ok T h12 hm1
  have rg := rng0 n
  have b1 : ((n : Int) ≤ (lim : Nat) ∧ -big ≤ (n : Int)) := by unfold lim big; omega
  have b2 : n ≤ lim := by unfold lim; omega
  simp only [d_leaves, evE.eq_1, evE.eq_2, evE.eq_3, evE.eq_4, evE.eq_5, evE.eq_6, evE.eq_7, evE.eq_8, evE.eq_9, evE.eq_10, evE.eq_11, evE.eq_12, evE.eq_13, evE.eq_14, evE.eq_15, evE.eq_16, evE.eq_17, evE.eq_18, evE.eq_19, evE.eq_20, evE.eq_21, evE.eq_22, evEs.eq_1, evEs.eq_2, evS.eq_1, evS.eq_2, evS.eq_3, evS.eq_4, evS.eq_5, evS.eq_6, evS.eq_7, evS.eq_8, evS.eq_9, evS.eq_10, evS.eq_11, evS.eq_12, evS.eq_13, evS.eq_14, evS.eq_15, evS.eq_16, evS.eq_17, evS.eq_18, evS.eq_19, evS.eq_20, evSs.eq_1, evSs.eq_2, TW.gt, TW.st, TW.sts, TW.start, List.map_cons, List.map_nil, List.length_cons, List.length_nil, List.length_map, List.replicate_succ, List.replicate_zero, Nat.reduceAdd, Nat.reduceSub, List.cons_append, List.nil_append, Tg.put, Tg.names, srcRes, srcOf, Sk.out, Sk.pure, wipeE, Op1.run, Op2.run, slc3, okI, okB, okA, isSc_i, isSc_b, isSc_s, isSc_n, isNon_i, isNon_b, isNon_l, isNon_n, eqS_ii, eqS_bb, inF_ints, ints_map, ints_mapf, bit, IDef.mut, kAt, ownK, if_true, if_false, ↓reduceIte, Bool.false_eq_true, decide_true, decide_false, Bool.not_true, Bool.not_false, true_and, and_true, and_self, Option.isSome_some, Option.isSome_none, eq_self, c1, rg, b1, plc_len, b2]
  generalize hL : lcGo _ _ _ _ _ = o
  have := lc_map hL D.int (plc n) (fun p => decide ((nbs rs p).length = 1)) .int rfl (by
    intro p _
    have st1 := run_steps (n := m) (by omega) rs (T.small h12) p
    have e : decide (((nbs rs p).length : Int) = 1) = decide ((nbs rs p).length = 1) := decide_eq_decide.mpr (by omega)
    refine ⟨_, rfl, [some (.int n), some (rds rs), some (.int p)], by simp only [evE.eq_1, evE.eq_2, evE.eq_3, evE.eq_4, evE.eq_5, evE.eq_6, evE.eq_7, evE.eq_8, evE.eq_9, evE.eq_10, evE.eq_11, evE.eq_12, evE.eq_13, evE.eq_14, evE.eq_15, evE.eq_16, evE.eq_17, evE.eq_18, evE.eq_19, evE.eq_20, evE.eq_21, evE.eq_22, evEs.eq_1, evEs.eq_2, evS.eq_1, evS.eq_2, evS.eq_3, evS.eq_4, evS.eq_5, evS.eq_6, evS.eq_7, evS.eq_8, evS.eq_9, evS.eq_10, evS.eq_11, evS.eq_12, evS.eq_13, evS.eq_14, evS.eq_15, evS.eq_16, evS.eq_17, evS.eq_18, evS.eq_19, evS.eq_20, evSs.eq_1, evSs.eq_2, TW.gt, TW.st, TW.sts, TW.start, List.map_cons, List.map_nil, List.length_cons, List.length_nil, List.length_map, List.replicate_succ, List.replicate_zero, Nat.reduceAdd, Nat.reduceSub, List.cons_append, List.nil_append, Tg.put, Tg.names, srcRes, srcOf, Sk.out, Sk.pure, wipeE, Op1.run, Op2.run, slc3, okI, okB, okA, isSc_i, isSc_b, isSc_s, isSc_n, isNon_i, isNon_b, isNon_l, isNon_n, eqS_ii, eqS_bb, inF_ints, ints_map, ints_mapf, bit, IDef.mut, kAt, ownK, if_true, if_false, ↓reduceIte, Bool.false_eq_true, decide_true, decide_false, Bool.not_true, Bool.not_false, true_and, and_true, and_self, Option.isSome_some, Option.isSome_none, eq_self, st1, e], fun _ => ⟨[some (.int n), some (rds rs), some (.int p)], by simp only [evE.eq_1, evE.eq_2, evE.eq_3, evE.eq_4, evE.eq_5, evE.eq_6, evE.eq_7, evE.eq_8, evE.eq_9, evE.eq_10, evE.eq_11, evE.eq_12, evE.eq_13, evE.eq_14, evE.eq_15, evE.eq_16, evE.eq_17, evE.eq_18, evE.eq_19, evE.eq_20, evE.eq_21, evE.eq_22, evEs.eq_1, evEs.eq_2, evS.eq_1, evS.eq_2, evS.eq_3, evS.eq_4, evS.eq_5, evS.eq_6, evS.eq_7, evS.eq_8, evS.eq_9, evS.eq_10, evS.eq_11, evS.eq_12, evS.eq_13, evS.eq_14, evS.eq_15, evS.eq_16, evS.eq_17, evS.eq_18, evS.eq_19, evS.eq_20, evSs.eq_1, evSs.eq_2, TW.gt, TW.st, TW.sts, TW.start, List.map_cons, List.map_nil, List.length_cons, List.length_nil, List.length_map, List.replicate_succ, List.replicate_zero, Nat.reduceAdd, Nat.reduceSub, List.cons_append, List.nil_append, Tg.put, Tg.names, srcRes, srcOf, Sk.out, Sk.pure, wipeE, Op1.run, Op2.run, slc3, okI, okB, okA, isSc_i, isSc_b, isSc_s, isSc_n, isNon_i, isNon_b, isNon_l, isNon_n, eqS_ii, eqS_bb, inF_ints, ints_map, ints_mapf, bit, IDef.mut, kAt, ownK, if_true, if_false, ↓reduceIte, Bool.false_eq_true, decide_true, decide_false, Bool.not_true, Bool.not_false, true_and, and_true, and_self, Option.isSome_some, Option.isSome_none, eq_self]⟩⟩)
  subst this
  simp only [evE.eq_1, evE.eq_2, evE.eq_3, evE.eq_4, evE.eq_5, evE.eq_6, evE.eq_7, evE.eq_8, evE.eq_9, evE.eq_10, evE.eq_11, evE.eq_12, evE.eq_13, evE.eq_14, evE.eq_15, evE.eq_16, evE.eq_17, evE.eq_18, evE.eq_19, evE.eq_20, evE.eq_21, evE.eq_22, evEs.eq_1, evEs.eq_2, evS.eq_1, evS.eq_2, evS.eq_3, evS.eq_4, evS.eq_5, evS.eq_6, evS.eq_7, evS.eq_8, evS.eq_9, evS.eq_10, evS.eq_11, evS.eq_12, evS.eq_13, evS.eq_14, evS.eq_15, evS.eq_16, evS.eq_17, evS.eq_18, evS.eq_19, evS.eq_20, evSs.eq_1, evSs.eq_2, TW.gt, TW.st, TW.sts, TW.start, List.map_cons, List.map_nil, List.length_cons, List.length_nil, List.length_map, List.replicate_succ, List.replicate_zero, Nat.reduceAdd, Nat.reduceSub, List.cons_append, List.nil_append, Tg.put, Tg.names, srcRes, srcOf, Sk.out, Sk.pure, wipeE, Op1.run, Op2.run, slc3, okI, okB, okA, isSc_i, isSc_b, isSc_s, isSc_n, isNon_i, isNon_b, isNon_l, isNon_n, eqS_ii, eqS_bb, inF_ints, ints_map, ints_mapf, bit, IDef.mut, kAt, ownK, if_true, if_false, ↓reduceIte, Bool.false_eq_true, decide_true, decide_false, Bool.not_true, Bool.not_false, true_and, and_true, and_self, Option.isSome_some, Option.isSome_none, eq_self, li]
theorem run_odd_places (T : Tr n rs d) (h12 : n ≤ 12) {m : Nat} (hm : 5 ≤ m) : (sems defs m 35).run [.int n, rds rs] = .ok (li ((plc n).filter fun p => decide ((nbs rs p).length % 2 = 1)), []) := by
  obtain ⟨m, rfl, hm1⟩ := suc_of hm
  refine run_rt (ρ := [some (.int n), some (rds rs), none]) (d := d_odd_places) rfl rfl rfl ?_
  have c1 := run_mbt_ok T h12 hm1
  have rg := rng0 n
  have b1 : ((n : Int) ≤ (lim : Nat) ∧ -big ≤ (n : Int)) := by unfold lim big; omega
  have b2 : n ≤ lim := by unfold lim; omega
  simp only [d_odd_places, evE.eq_1, evE.eq_2, evE.eq_3, evE.eq_4, evE.eq_5, evE.eq_6, evE.eq_7, evE.eq_8, evE.eq_9, evE.eq_10, evE.eq_11, evE.eq_12, evE.eq_13, evE.eq_14, evE.eq_15, evE.eq_16, evE.eq_17, evE.eq_18, evE.eq_19, evE.eq_20, evE.eq_21, evE.eq_22, evEs.eq_1, evEs.eq_2, evS.eq_1, evS.eq_2, evS.eq_3, evS.eq_4, evS.eq_5, evS.eq_6, evS.eq_7, evS.eq_8, evS.eq_9, evS.eq_10, evS.eq_11, evS.eq_12, evS.eq_13, evS.eq_14, evS.eq_15, evS.eq_16, evS.eq_17, evS.eq_18, evS.eq_19, evS.eq_20, evSs.eq_1, evSs.eq_2, TW.gt, TW.st, TW.sts, TW.start, List.map_cons, List.map_nil, List.length_cons, List.length_nil, List.length_map, List.replicate_succ, List.replicate_zero, Nat.reduceAdd, Nat.reduceSub, List.cons_append, List.nil_append, Tg.put, Tg.names, srcRes, srcOf, Sk.out, Sk.pure, wipeE, Op1.run, Op2.run, slc3, okI, okB, okA, isSc_i, isSc_b, isSc_s, isSc_n, isNon_i, isNon_b, isNon_l, isNon_n, eqS_ii, eqS_bb, inF_ints, ints_map, ints_mapf, bit, IDef.mut, kAt, ownK, if_true, if_false, ↓reduceIte, Bool.false_eq_true, decide_true, decide_false, Bool.not_true, Bool.not_false, true_and, and_true, and_self, Option.isSome_some, Option.isSome_none, eq_self, c1, rg, b1, plc_len, b2]
  generalize hL : lcGo _ _ _ _ _ = o
  have := lc_map hL D.int (plc n) (fun p => decide ((nbs rs p).length % 2 = 1)) .int rfl (by
    intro p _
    have st1 := run_steps (n := m) (by omega) rs (T.small h12) p
    have e : decide (((nbs rs p).length : Int) % 2 = 1) = decide ((nbs rs p).length % 2 = 1) := decide_eq_decide.mpr (by omega)
    have z2 : (0 : Int) < 2 := by decide
    refine ⟨_, rfl, [some (.int n), some (rds rs), some (.int p)], by simp only [evE.eq_1, evE.eq_2, evE.eq_3, evE.eq_4, evE.eq_5, evE.eq_6, evE.eq_7, evE.eq_8, evE.eq_9, evE.eq_10, evE.eq_11, evE.eq_12, evE.eq_13, evE.eq_14, evE.eq_15, evE.eq_16, evE.eq_17, evE.eq_18, evE.eq_19, evE.eq_20, evE.eq_21, evE.eq_22, evEs.eq_1, evEs.eq_2, evS.eq_1, evS.eq_2, evS.eq_3, evS.eq_4, evS.eq_5, evS.eq_6, evS.eq_7, evS.eq_8, evS.eq_9, evS.eq_10, evS.eq_11, evS.eq_12, evS.eq_13, evS.eq_14, evS.eq_15, evS.eq_16, evS.eq_17, evS.eq_18, evS.eq_19, evS.eq_20, evSs.eq_1, evSs.eq_2, TW.gt, TW.st, TW.sts, TW.start, List.map_cons, List.map_nil, List.length_cons, List.length_nil, List.length_map, List.replicate_succ, List.replicate_zero, Nat.reduceAdd, Nat.reduceSub, List.cons_append, List.nil_append, Tg.put, Tg.names, srcRes, srcOf, Sk.out, Sk.pure, wipeE, Op1.run, Op2.run, slc3, okI, okB, okA, isSc_i, isSc_b, isSc_s, isSc_n, isNon_i, isNon_b, isNon_l, isNon_n, eqS_ii, eqS_bb, inF_ints, ints_map, ints_mapf, bit, IDef.mut, kAt, ownK, if_true, if_false, ↓reduceIte, Bool.false_eq_true, decide_true, decide_false, Bool.not_true, Bool.not_false, true_and, and_true, and_self, Option.isSome_some, Option.isSome_none, eq_self, st1, z2, e], fun _ => ⟨[some (.int n), some (rds rs), some (.int p)], by simp only [evE.eq_1, evE.eq_2, evE.eq_3, evE.eq_4, evE.eq_5, evE.eq_6, evE.eq_7, evE.eq_8, evE.eq_9, evE.eq_10, evE.eq_11, evE.eq_12, evE.eq_13, evE.eq_14, evE.eq_15, evE.eq_16, evE.eq_17, evE.eq_18, evE.eq_19, evE.eq_20, evE.eq_21, evE.eq_22, evEs.eq_1, evEs.eq_2, evS.eq_1, evS.eq_2, evS.eq_3, evS.eq_4, evS.eq_5, evS.eq_6, evS.eq_7, evS.eq_8, evS.eq_9, evS.eq_10, evS.eq_11, evS.eq_12, evS.eq_13, evS.eq_14, evS.eq_15, evS.eq_16, evS.eq_17, evS.eq_18, evS.eq_19, evS.eq_20, evSs.eq_1, evSs.eq_2, TW.gt, TW.st, TW.sts, TW.start, List.map_cons, List.map_nil, List.length_cons, List.length_nil, List.length_map, List.replicate_succ, List.replicate_zero, Nat.reduceAdd, Nat.reduceSub, List.cons_append, List.nil_append, Tg.put, Tg.names, srcRes, srcOf, Sk.out, Sk.pure, wipeE, Op1.run, Op2.run, slc3, okI, okB, okA, isSc_i, isSc_b, isSc_s, isSc_n, isNon_i, isNon_b, isNon_l, isNon_n, eqS_ii, eqS_bb, inF_ints, ints_map, ints_mapf, bit, IDef.mut, kAt, ownK, if_true, if_false, ↓reduceIte, Bool.false_eq_true, decide_true, decide_false, Bool.not_true, Bool.not_false, true_and, and_true, and_self, Option.isSome_some, Option.isSome_none, eq_self]⟩⟩)
  subst this
  simp only [evE.eq_1, evE.eq_2, evE.eq_3, evE.eq_4, evE.eq_5, evE.eq_6, evE.eq_7, evE.eq_8, evE.eq_9, evE.eq_10, evE.eq_11, evE.eq_12, evE.eq_13, evE.eq_14, evE.eq_15, evE.eq_16, evE.eq_17, evE.eq_18, evE.eq_19, evE.eq_20, evE.eq_21, evE.eq_22, evEs.eq_1, evEs.eq_2, evS.eq_1, evS.eq_2, evS.eq_3, evS.eq_4, evS.eq_5, evS.eq_6, evS.eq_7, evS.eq_8, evS.eq_9, evS.eq_10, evS.eq_11, evS.eq_12, evS.eq_13, evS.eq_14, evS.eq_15, evS.eq_16, evS.eq_17, evS.eq_18, evS.eq_19, evS.eq_20, evSs.eq_1, evSs.eq_2, TW.gt, TW.st, TW.sts, TW.start, List.map_cons, List.map_nil, List.length_cons, List.length_nil, List.length_map, List.replicate_succ, List.replicate_zero, Nat.reduceAdd, Nat.reduceSub, List.cons_append, List.nil_append, Tg.put, Tg.names, srcRes, srcOf, Sk.out, Sk.pure, wipeE, Op1.run, Op2.run, slc3, okI, okB, okA, isSc_i, isSc_b, isSc_s, isSc_n, isNon_i, isNon_b, isNon_l, isNon_n, eqS_ii, eqS_bb, inF_ints, ints_map, ints_mapf, bit, IDef.mut, kAt, ownK, if_true, if_false, ↓reduceIte, Bool.false_eq_true, decide_true, decide_false, Bool.not_true, Bool.not_false, true_and, and_true, and_self, Option.isSome_some, Option.isSome_none, eq_self, li]
def fks (d : Int → Int → Int) (s : Int) (vs : List Int) : List (Int × D) := vs.map fun v => (v, .int (d s v))
theorem look_fks {s v : Int} {vs : List Int} (h : v ∈ vs) : look (fks d s vs) v = some (.int (d s v)) := by
  induction vs with
  | nil => cases h
  | cons x vs ih =>
    simp only [fks, List.map_cons, look]
    by_cases e : x = v
    · rw [if_pos e, e]
    · rw [if_neg e]
      rcases List.mem_cons.mp h with h | h
      · exact absurd h.symm e
      · exact ih h
theorem put_new {i : Int} {x : D} {ks : List (Int × D)} (h : i ∉ ks.map (·.1)) : put ks i x = ks ++ [(i, x)] := by
  unfold put
  rw [if_neg]
  simp only [List.any_eq_true, decide_eq_true_eq, not_exists, not_and]
  exact fun k hk e => h (List.mem_map.mpr ⟨k, hk, e⟩)
theorem put_last {i : Int} {x y : D} {ks : List (Int × D)} (h : i ∉ ks.map (·.1)) : put (ks ++ [(i, x)]) i y = ks ++ [(i, y)] := by
  unfold put
  rw [if_pos (by simp)]
  rw [List.map_append]
  congr 1
  · rw [List.map_congr_left (g := id)]
    · simp
    · intro k hk
      have : k.1 ≠ i := fun e => h (List.mem_map.mpr ⟨k, hk, e⟩)
      simp [this]
  · simp
theorem run_fars (T : Tr n rs d) (h12 : n ≤ 12) {m : Nat} (hm : 3 ≤ m) {s : Int} (hs : Pl n s) : ∃ vs, (sems defs m 43).run [rds rs, .int s] = .ok (.dic (fks d s vs), []) ∧ vs.Nodup ∧ (∀ v, v ∈ vs ↔ Pl n v) ∧ ∃ t, vs = s :: t := by
  obtain ⟨m, rfl, hm1⟩ := suc_of hm
  obtain ⟨ks, c1, sp⟩ := run_spread (n := m) (by omega) rs (T.small h12) s []
  simp only [li, List.map_nil] at c1
  refine ⟨ks.map (·.1), ?_, sp.nd, fun v => (sp.mem v).trans (all_rch T.tm hs), by
    obtain ⟨r, hr⟩ := sp.head
    exact ⟨r.map (·.1), by rw [hr]; rfl⟩⟩
  suffices H : ∃ ρ, evSs (sems defs m) d_fars.body (start d_fars.ns [rds rs, .int s]) = .rt (.dic (fks d s (ks.map (·.1)))) ρ by
    obtain ⟨ρ, h1⟩ := H
    exact run_rt (d := d_fars) rfl rfl rfl h1
  obtain ⟨o1, ho⟩ : ∃ o1, evSs (sems defs m) d_fars.body (start d_fars.ns [rds rs, .int s]) = o1 := ⟨_, rfl⟩
  rw [ho]
  simp only [d_fars, evE.eq_1, evE.eq_2, evE.eq_3, evE.eq_4, evE.eq_5, evE.eq_6, evE.eq_7, evE.eq_8, evE.eq_9, evE.eq_10, evE.eq_11, evE.eq_12, evE.eq_13, evE.eq_14, evE.eq_15, evE.eq_16, evE.eq_17, evE.eq_18, evE.eq_19, evE.eq_20, evE.eq_21, evE.eq_22, evEs.eq_1, evEs.eq_2, evS.eq_1, evS.eq_2, evS.eq_3, evS.eq_4, evS.eq_5, evS.eq_6, evS.eq_7, evS.eq_8, evS.eq_9, evS.eq_10, evS.eq_11, evS.eq_12, evS.eq_13, evS.eq_14, evS.eq_15, evS.eq_16, evS.eq_17, evS.eq_18, evS.eq_19, evS.eq_20, evSs.eq_1, evSs.eq_2, TW.gt, TW.st, TW.sts, TW.start, List.map_cons, List.map_nil, List.length_cons, List.length_nil, List.length_map, List.replicate_succ, List.replicate_zero, Nat.reduceAdd, Nat.reduceSub, List.cons_append, List.nil_append, Tg.put, Tg.names, srcRes, srcOf, Sk.out, Sk.pure, wipeE, Op1.run, Op2.run, slc3, okI, okB, okA, isSc_i, isSc_b, isSc_s, isSc_n, isNon_i, isNon_b, isNon_l, isNon_n, eqS_ii, eqS_bb, inF_ints, ints_map, ints_mapf, bit, IDef.mut, kAt, ownK, if_true, if_false, ↓reduceIte, Bool.false_eq_true, decide_true, decide_false, Bool.not_true, Bool.not_false, true_and, and_true, and_self, Option.isSome_some, Option.isSome_none, eq_self, c1] at ho
  generalize hF : forGo _ _ _ _ = o at ho
  obtain ⟨ρ, rfl, a, rfl⟩ := for_inv hF (fun k : Int × Int => D.int k.1) ks (fun pre ρ => ∃ a, ρ = [some (rds rs), some (.int s), some (.dic (fks d s (pre.map (·.1)))), some (.dic (dks ks)), a]) (by simp [dks]) ⟨_, rfl⟩ (by
    rintro pre ⟨v, p⟩ r ρ e ⟨a, rfl⟩
    refine ⟨_, rfl, ?_⟩
    have nd := sp.nd
    have ln : pre.length < ks.length := by rw [e]; simp
    have ln2 := len_of_sub nd (l2 := plc n) fun z hz => plc_mem.mpr ((all_rch T.tm hs).mp ((sp.mem z).mp hz))
    rw [plc_len] at ln2
    simp at ln2
    have nv : v ∉ (fks d s (pre.map (·.1))).map (·.1) := fun z => by
      rw [e] at nd
      simp only [List.map_append, List.map_cons] at nd
      rw [List.nodup_append] at nd
      simp only [fks, List.map_map] at z
      exact nd.2.2 v (by simpa using z) v (by simp) rfl
    have pv : Pl n v := (all_rch T.tm hs).mp ((sp.mem v).mp (by rw [e]; simp))
    have l1 : (fks d s (pre.map (·.1))).length < lim := by simp only [fks, List.length_map]; unfold lim; omega
    have l2 : (fks d s (pre.map (·.1)) ++ [(v, D.int 0)]).length < lim := by simp only [fks, List.length_append, List.length_map]; unfold lim; simp; omega
    have pn := put_new (x := .int 0) nv
    by_cases vs : v = s
    · have d1 := decide_eq_true vs
      refine ⟨_, by simp only [evE.eq_1, evE.eq_2, evE.eq_3, evE.eq_4, evE.eq_5, evE.eq_6, evE.eq_7, evE.eq_8, evE.eq_9, evE.eq_10, evE.eq_11, evE.eq_12, evE.eq_13, evE.eq_14, evE.eq_15, evE.eq_16, evE.eq_17, evE.eq_18, evE.eq_19, evE.eq_20, evE.eq_21, evE.eq_22, evEs.eq_1, evEs.eq_2, evS.eq_1, evS.eq_2, evS.eq_3, evS.eq_4, evS.eq_5, evS.eq_6, evS.eq_7, evS.eq_8, evS.eq_9, evS.eq_10, evS.eq_11, evS.eq_12, evS.eq_13, evS.eq_14, evS.eq_15, evS.eq_16, evS.eq_17, evS.eq_18, evS.eq_19, evS.eq_20, evSs.eq_1, evSs.eq_2, TW.gt, TW.st, TW.sts, TW.start, List.map_cons, List.map_nil, List.length_cons, List.length_nil, List.length_map, List.replicate_succ, List.replicate_zero, Nat.reduceAdd, Nat.reduceSub, List.cons_append, List.nil_append, Tg.put, Tg.names, srcRes, srcOf, Sk.out, Sk.pure, wipeE, Op1.run, Op2.run, slc3, okI, okB, okA, isSc_i, isSc_b, isSc_s, isSc_n, isNon_i, isNon_b, isNon_l, isNon_n, eqS_ii, eqS_bb, inF_ints, ints_map, ints_mapf, bit, IDef.mut, kAt, ownK, if_true, if_false, ↓reduceIte, Bool.false_eq_true, decide_true, decide_false, Bool.not_true, Bool.not_false, true_and, and_true, and_self, Option.isSome_some, Option.isSome_none, eq_self, l1, pn, d1] <;> rfl, some (.int v), ?_⟩
      have := T.tm.self v pv
      simp [fks, ← vs, this]
    · have d1 := decide_eq_false vs
      have mk : (v, p) ∈ ks := by rw [e]; simp
      obtain ⟨l, g, hd⟩ := sp.near T hs mk vs
      have c2 := run_road_length T h12 (m := m) (by omega) g
      have lk := look_spr sp mk
      obtain ⟨t, ht⟩ := sp.head
      have ne : pre ≠ [] := fun z => by rw [z, ht] at e; simp at e; exact vs e.1.1.symm
      obtain ⟨mp, _⟩ := sp.par pre v p r e ne
      have pne : v ≠ p := (T.tm.e _ _ _ g).2.2.1
      have lk2 : look (fks d s (pre.map (·.1)) ++ [(v, D.int 0)]) p = some (.int (d s p)) := by
        have := look_fks (d := d) (s := s) mp
        have ap : ∀ (xs ys : List (Int × D)) (i : Int) (x : D), look xs i = some x → look (xs ++ ys) i = some x := by
          intro xs ys i x h
          induction xs with
          | nil => cases h
          | cons k xs ih =>
            obtain ⟨j, y⟩ := k
            simp only [look, List.cons_append] at h ⊢
            by_cases e : j = i
            · rw [if_pos e] at h ⊢; exact h
            · rw [if_neg e] at h ⊢; exact ih h
        exact ap _ _ _ _ this
      have pl2 := put_last (x := .int 0) (y := .int (d s p + l)) nv
      refine ⟨_, by simp only [evE.eq_1, evE.eq_2, evE.eq_3, evE.eq_4, evE.eq_5, evE.eq_6, evE.eq_7, evE.eq_8, evE.eq_9, evE.eq_10, evE.eq_11, evE.eq_12, evE.eq_13, evE.eq_14, evE.eq_15, evE.eq_16, evE.eq_17, evE.eq_18, evE.eq_19, evE.eq_20, evE.eq_21, evE.eq_22, evEs.eq_1, evEs.eq_2, evS.eq_1, evS.eq_2, evS.eq_3, evS.eq_4, evS.eq_5, evS.eq_6, evS.eq_7, evS.eq_8, evS.eq_9, evS.eq_10, evS.eq_11, evS.eq_12, evS.eq_13, evS.eq_14, evS.eq_15, evS.eq_16, evS.eq_17, evS.eq_18, evS.eq_19, evS.eq_20, evSs.eq_1, evSs.eq_2, TW.gt, TW.st, TW.sts, TW.start, List.map_cons, List.map_nil, List.length_cons, List.length_nil, List.length_map, List.replicate_succ, List.replicate_zero, Nat.reduceAdd, Nat.reduceSub, List.cons_append, List.nil_append, Tg.put, Tg.names, srcRes, srcOf, Sk.out, Sk.pure, wipeE, Op1.run, Op2.run, slc3, okI, okB, okA, isSc_i, isSc_b, isSc_s, isSc_n, isNon_i, isNon_b, isNon_l, isNon_n, eqS_ii, eqS_bb, inF_ints, ints_map, ints_mapf, bit, IDef.mut, kAt, ownK, if_true, if_false, ↓reduceIte, Bool.false_eq_true, decide_true, decide_false, Bool.not_true, Bool.not_false, true_and, and_true, and_self, Option.isSome_some, Option.isSome_none, eq_self, l1, pn, d1, lk, lk2, c2, l2, pl2] <;> rfl, some (.int v), ?_⟩
      have e1 := T.tm.symm v s
      have e2 := T.tm.symm p s
      have : d s v = d s p + l := by omega
      simp [fks, this])
  simp only [evE.eq_1, evE.eq_2, evE.eq_3, evE.eq_4, evE.eq_5, evE.eq_6, evE.eq_7, evE.eq_8, evE.eq_9, evE.eq_10, evE.eq_11, evE.eq_12, evE.eq_13, evE.eq_14, evE.eq_15, evE.eq_16, evE.eq_17, evE.eq_18, evE.eq_19, evE.eq_20, evE.eq_21, evE.eq_22, evEs.eq_1, evEs.eq_2, evS.eq_1, evS.eq_2, evS.eq_3, evS.eq_4, evS.eq_5, evS.eq_6, evS.eq_7, evS.eq_8, evS.eq_9, evS.eq_10, evS.eq_11, evS.eq_12, evS.eq_13, evS.eq_14, evS.eq_15, evS.eq_16, evS.eq_17, evS.eq_18, evS.eq_19, evS.eq_20, evSs.eq_1, evSs.eq_2, TW.gt, TW.st, TW.sts, TW.start, List.map_cons, List.map_nil, List.length_cons, List.length_nil, List.length_map, List.replicate_succ, List.replicate_zero, Nat.reduceAdd, Nat.reduceSub, List.cons_append, List.nil_append, Tg.put, Tg.names, srcRes, srcOf, Sk.out, Sk.pure, wipeE, Op1.run, Op2.run, slc3, okI, okB, okA, isSc_i, isSc_b, isSc_s, isSc_n, isNon_i, isNon_b, isNon_l, isNon_n, eqS_ii, eqS_bb, inF_ints, ints_map, ints_mapf, bit, IDef.mut, kAt, ownK, if_true, if_false, ↓reduceIte, Bool.false_eq_true, decide_true, decide_false, Bool.not_true, Bool.not_false, true_and, and_true, and_self, Option.isSome_some, Option.isSome_none, eq_self] at ho
  exact ⟨_, ho.symm⟩
end
end TW.M

namespace TW.M
theorem Rch.trans {rs : List Rd} {u v w : Int} (h : Rch rs [] u v) (k : Rch rs [] v w) : Rch rs [] u w := by
  induction k with
  | base => exact h
  | step _ e b ih => exact .step ih e b
theorem Rch.one {rs : List Rd} {u v l : Int} (e : gE rs u v l) : Rch rs [] u v := .step .base e (by simp)
theorem gE_symm {rs : List Rd} {u v l : Int} (e : gE rs u v l) : gE rs v u l := Or.symm e
theorem Rch.symm {rs : List Rd} {u v : Int} (h : Rch rs [] u v) : Rch rs [] v u := by
  induction h with
  | base => exact .base
  | step _ e b ih => exact (Rch.one (gE_symm e)).trans ih
/-- a map of places that keeps roads, or lets them fall together -/
theorem Rch.map {rs rs' : List Rd} (f : Int → Int) (hf : ∀ x y l, gE rs x y l → f x = f y ∨ ∃ l', gE rs' (f x) (f y) l') {u v : Int} (h : Rch rs [] u v) : Rch rs' [] (f u) (f v) := by
  induction h with
  | base => exact .base
  | step _ e b ih =>
    rcases hf _ _ _ e with h | ⟨l', h⟩
    · rw [← h]; exact ih
    · exact ih.trans (.one h)
theorem Rch.mono {rs rs' : List Rd} (hf : ∀ x y l, gE rs x y l → ∃ l', gE rs' x y l') {u v : Int} (h : Rch rs [] u v) : Rch rs' [] u v :=
  h.map id fun x y l e => .inr (hf x y l e)
/-- a leaf hung to another place -/
def rehang (p o : Int) (t : Bool) (r : Rd) : Rd := if p = r.1 ∨ p = r.2.1 then (if t then (p, o, r.2.2) else (o, p, r.2.2)) else r
theorem isT_rehang {n : Nat} {rs : List Rd} (h : IsT n rs) {p o : Int} {t : Bool} (hp : Pl n p) (ho : Pl n o) (po : o ≠ p) (one : (rs.filter fun r => decide (p = r.1 ∨ p = r.2.1)).length = 1) : IsT n (rs.map (rehang p o t)) := by
  obtain ⟨r0, h0⟩ : ∃ r0, rs.filter (fun r => decide (p = r.1 ∨ p = r.2.1)) = [r0] := by
    exact List.length_eq_one_iff.mp one
  have m0 : ∀ r, r ∈ rs → (p = r.1 ∨ p = r.2.1) → r = r0 := fun r a b => by
    have : r ∈ rs.filter (fun r => decide (p = r.1 ∨ p = r.2.1)) := List.mem_filter.mpr ⟨a, by simpa using b⟩
    rw [h0] at this; simpa using this
  have i0 : r0 ∈ rs ∧ (p = r0.1 ∨ p = r0.2.1) := by
    have : r0 ∈ rs.filter (fun r => decide (p = r.1 ∨ p = r.2.1)) := by rw [h0]; simp
    have := List.mem_filter.mp this
    exact ⟨this.1, by simpa using this.2⟩
  obtain ⟨a0, b0, l0⟩ := r0
  obtain ⟨ok1, ok2, ok3, ok4⟩ := h.ok _ i0.1
  simp only at ok1 ok2 ok3 ok4 i0
  -- the neighbour
  obtain ⟨q, hq, qp⟩ : ∃ q, (∀ y l, gE rs p y l → y = q) ∧ q ≠ p := by
    rcases i0.2 with e | e
    · refine ⟨b0, fun y l g => ?_, fun z => ok3 (by omega)⟩
      rcases g with g | g
      · have := m0 _ g (.inl rfl); simp only [Prod.mk.injEq] at this; omega
      · have := m0 _ g (.inr rfl); simp only [Prod.mk.injEq] at this; omega
    · refine ⟨a0, fun y l g => ?_, fun z => ok3 (by omega)⟩
      rcases g with g | g
      · have := m0 _ g (.inl rfl); simp only [Prod.mk.injEq] at this; omega
      · have := m0 _ g (.inr rfl); simp only [Prod.mk.injEq] at this; omega
  have new : gE (rs.map (rehang p o t)) o p l0 := by
    have : rehang p o t (a0, b0, l0) ∈ rs.map (rehang p o t) := List.mem_map.mpr ⟨_, i0.1, rfl⟩
    unfold rehang at this
    rw [if_pos i0.2] at this
    cases t
    · exact .inl this
    · exact .inr this
  let f : Int → Int := fun x => if x = p then q else x
  have fne : ∀ x, x ≠ p → f x = x := fun x hx => if_neg hx
  have key : ∀ u v, Rch rs [] u v → Rch (rs.map (rehang p o t)) [] (f u) (f v) := fun u v h => h.map f fun x y l e => by
    by_cases xp : x = p
    · subst xp
      have := hq y l e
      left
      show (if x = x then q else x) = (if y = x then q else y)
      rw [if_pos rfl, if_neg (by omega)]; omega
    by_cases yp : y = p
    · subst yp
      have := hq x l (gE_symm e)
      left
      show (if x = y then q else x) = (if y = y then q else y)
      rw [if_neg (by omega), if_pos rfl]; omega
    right
    rw [fne x xp, fne y yp]
    refine ⟨l, ?_⟩
    have keep : ∀ a b, a ≠ p → b ≠ p → (a, b, l) ∈ rs → (a, b, l) ∈ rs.map (rehang p o t) := fun a b ha hb m => by
      refine List.mem_map.mpr ⟨_, m, ?_⟩
      unfold rehang
      rw [if_neg (by simp only; rintro (z | z) <;> omega)]
    rcases e with e | e
    · exact .inl (keep _ _ xp yp e)
    · exact .inr (keep _ _ yp xp e)
  have all : ∀ u v, Pl n u → Pl n v → u ≠ p → v ≠ p → Rch (rs.map (rehang p o t)) [] u v := fun u v hu hv up vp => by
    have := key u v ((h.conn u hu).symm.trans (h.conn v hv))
    rw [fne u up, fne v vp] at this
    exact this
  refine ⟨by simpa using h.len, fun r hr => ?_, fun v hv => ?_⟩
  · obtain ⟨⟨a, b, l⟩, m, rfl⟩ := List.mem_map.mp hr
    have k := h.ok _ m
    unfold rehang
    by_cases c : p = a ∨ p = b
    · rw [if_pos c]
      cases t
      · exact ⟨ho, hp, po, k.2.2.2⟩
      · exact ⟨hp, ho, Ne.symm po, k.2.2.2⟩
    · rw [if_neg c]; exact k
  · have p0 : Pl n 0 := ⟨by omega, by have := h.len; omega⟩
    by_cases zp : (0 : Int) = p
    · have a : Rch (rs.map (rehang p o t)) [] 0 o := by rw [zp]; exact .one (gE_symm new)
      by_cases vp : v = p
      · rw [vp, ← zp]; exact .base
      · exact a.trans (all o v ho hv po vp)
    · by_cases vp : v = p
      · rw [vp]; exact (all 0 o p0 ho zp po).trans (.one new)
      · exact all 0 v p0 hv zp vp
/-- a road of another length -/
theorem isT_len {n : Nat} {pre post : List Rd} {a b l l' : Int} (h : IsT n (pre ++ (a, b, l) :: post)) (hl : 1 ≤ l') : IsT n (pre ++ (a, b, l') :: post) := by
  refine ⟨by simpa using h.len, fun r hr => ?_, fun v hv => (h.conn v hv).mono fun x y m e => ?_⟩
  · simp only [List.mem_append, List.mem_cons] at hr
    rcases hr with hr | rfl | hr
    · exact h.ok r (by simp [hr])
    · have := h.ok (a, b, l) (by simp)
      exact ⟨this.1, this.2.1, this.2.2.1, hl⟩
    · exact h.ok r (by simp [hr])
  · simp only [gE, List.mem_append, List.mem_cons, Prod.mk.injEq] at e ⊢
    rcases e with (e | ⟨rfl, rfl, rfl⟩ | e) | (e | ⟨rfl, rfl, rfl⟩ | e)
    · exact ⟨m, .inl (.inl e)⟩
    · exact ⟨l', .inl (.inr (.inl ⟨rfl, rfl, rfl⟩))⟩
    · exact ⟨m, .inl (.inr (.inr e))⟩
    · exact ⟨m, .inr (.inl e)⟩
    · exact ⟨l', .inr (.inr (.inl ⟨rfl, rfl, rfl⟩))⟩
    · exact ⟨m, .inr (.inr (.inr e))⟩
theorem max_of {f : Int → Int} : ∀ {xs : List Int}, xs ≠ [] → ∃ m ∈ xs, ∀ x ∈ xs, f x ≤ f m
  | [x], _ => ⟨x, by simp, by simp⟩
  | x :: y :: xs, _ => by
    obtain ⟨m, h1, h2⟩ := max_of (f := f) (xs := y :: xs) (by simp)
    by_cases c : f x ≤ f m
    · exact ⟨m, by simp at h1 ⊢; exact .inr h1, fun z hz => by
        rcases List.mem_cons.mp hz with rfl | hz
        · exact c
        · exact h2 z hz⟩
    · exact ⟨x, by simp, fun z hz => by
        rcases List.mem_cons.mp hz with rfl | hz
        · exact Int.le_refl _
        · have := h2 z hz; omega⟩
/-- roads at a place -/
def deg (rs : List Rd) (p : Int) : Nat := (rs.filter fun r => decide (p = r.1 ∨ p = r.2.1)).length
theorem pw_of_nd {rs : List Rd} (nd : (rs.map nm2).Nodup) {r s : Rd} (hr : r ∈ rs) (hs : s ∈ rs) (e : nm2 r = nm2 s) : r = s := by
  induction rs with
  | nil => cases hr
  | cons x rs ih =>
    rw [List.map_cons, List.nodup_cons] at nd
    rcases List.mem_cons.mp hr with e1 | hr <;> rcases List.mem_cons.mp hs with e2 | hs
    · rw [e1, e2]
    · exact absurd (List.mem_map.mpr ⟨s, hs, by rw [← e, e1]⟩ : nm2 x ∈ rs.map nm2) nd.1
    · exact absurd (List.mem_map.mpr ⟨r, hr, by rw [e, e2]⟩ : nm2 x ∈ rs.map nm2) nd.1
    · exact ih nd.2 hr hs
theorem nd_of_map {α β : Type} {f : α → β} : ∀ {l : List α}, (l.map f).Nodup → l.Nodup
  | [], _ => by simp
  | x :: l, h => by
    rw [List.map_cons, List.nodup_cons] at h
    exact List.nodup_cons.mpr ⟨fun m => h.1 (List.mem_map.mpr ⟨x, m, rfl⟩), nd_of_map h.2⟩
theorem nd_filter {α : Type} {p : α → Bool} {l : List α} (h : l.Nodup) : (l.filter p).Nodup := List.Pairwise.filter p h
theorem leaf_ex {n : Nat} {rs : List Rd} {d : Int → Int → Int} (T : Tr n rs d) (h2 : 2 ≤ n) : ∃ p, Pl n p ∧ deg rs p = 1 := by
  obtain ⟨p, hp, mx⟩ := max_of (f := fun x => d x 0) (xs := plc n) (fun z => by have := plc_len (n := n); rw [z] at this; simp at this; omega)
  have hp := plc_mem.mp hp
  have p0 : Pl n 0 := ⟨by omega, by omega⟩
  have p1 : Pl n 1 := ⟨by omega, by omega⟩
  have ne : p ≠ 0 := fun e => by
    have h1 : d 1 0 ≤ d p 0 := mx 1 (plc_mem.mpr p1)
    have h2 := T.tm.self 0 p0
    have h3 := T.tm.pos 1 0 p1 p0 (by omega)
    rw [e] at h1; omega
  obtain ⟨q, l, e, hd⟩ := T.tm.step p 0 hp p0 ne
  refine ⟨p, hp, ?_⟩
  have uniq : ∀ y m, gE rs p y m → y = q := fun y m g => by
    obtain ⟨_, hy, _, hm, _⟩ := T.tm.e _ _ _ g
    have : d y 0 ≤ d p 0 := mx y (plc_mem.mpr hy)
    rcases T.tm.side p y m 0 g p0 with h | h
    · exact T.tm.uniq g e p0 h hd
    · omega
  have same : ∀ r ∈ rs.filter (fun r => decide (p = r.1 ∨ p = r.2.1)), nm2 r = nm2 (p, q, 0) := fun r hr => by
    obtain ⟨m, c⟩ := List.mem_filter.mp hr
    obtain ⟨a, b, k⟩ := r
    simp only [decide_eq_true_eq] at c
    rcases c with rfl | rfl
    · rw [uniq b k (.inl m)]; rfl
    · rw [uniq a k (.inr m)]; exact nm2_eq.mpr (.inr ⟨rfl, rfl⟩)
  have nd := nd_filter (p := fun r => decide (p = r.1 ∨ p = r.2.1)) (nd_of_map T.nd)
  unfold deg
  cases hf : rs.filter (fun r => decide (p = r.1 ∨ p = r.2.1)) with
  | nil =>
    rcases e with e | e
    · have : (p, q, l) ∈ rs.filter (fun r => decide (p = r.1 ∨ p = r.2.1)) := List.mem_filter.mpr ⟨e, by simp⟩
      rw [hf] at this; cases this
    · have : (q, p, l) ∈ rs.filter (fun r => decide (p = r.1 ∨ p = r.2.1)) := List.mem_filter.mpr ⟨e, by simp⟩
      rw [hf] at this; cases this
  | cons x t =>
    cases t with
    | nil => rfl
    | cons y t =>
      rw [hf] at nd same
      have := pw_of_nd T.nd (r := x) (s := y) (List.mem_filter.mp (by rw [hf]; simp : x ∈ rs.filter (fun r => decide (p = r.1 ∨ p = r.2.1)))).1 (List.mem_filter.mp (by rw [hf]; simp : y ∈ rs.filter (fun r => decide (p = r.1 ∨ p = r.2.1)))).1 ((same x (by simp)).trans (same y (by simp)).symm)
      rw [List.nodup_cons] at nd
      exact absurd (by rw [this]; simp) nd.1
end TW.M

namespace TW.M
open PySem
def mix (a k : Int) : Int := (a * a + k * a + 7 * k * k) * 1103515245 % 2147483629 * ((a * a + k * a + 7 * k * k) * 1103515245 % 2147483629) % 2147483587
theorem run_mix {n : Nat} (hn : 1 ≤ n) {a k : Int} (ha : Sz 2000000 a) (hk : Sz 2000000 k) : (sems defs n 4).run [.int a, .int k] = .ok (.int (mix a k), []) := by
  obtain ⟨n, rfl, -⟩ := suc_of hn
  have s7 : Sz 2000000 7 := Sz.mono (Sz.small (by decide) (by decide)) (by decide)
  have h7 := s7.mul hk
  have h77 := h7.mul hk
  have hs := ((ha.mul ha).add (hk.mul ha) (Nat.le_refl _) (Nat.le_refl _)).add h77 (k := 6000000) (by decide) (by decide)
  have hc : Sz 31 1103515245 := Sz.of (by decide) (by decide)
  have hm : Sz 31 ((a * a + k * a + 7 * k * k) * 1103515245 % 2147483629) := Sz.mod (by decide) (by decide)
  have h1 : mulOk a a = true := ha.ok ha (by decide)
  have h2 : mulOk k a = true := hk.ok ha (by decide)
  have h3 : mulOk 7 k = true := s7.ok hk (by decide)
  have h4 : mulOk (7 * k) k = true := h7.ok hk (by decide)
  have h5 : mulOk (a * a + k * a + 7 * k * k) 1103515245 = true := hs.ok hc (by decide)
  have h6 : mulOk ((a * a + k * a + 7 * k * k) * 1103515245 % 2147483629) ((a * a + k * a + 7 * k * k) * 1103515245 % 2147483629) = true := hm.ok hm (by decide)
  refine run_at (d := d__law_mix) rfl rfl ?_
  simp [d__law_mix, evE.eq_1, evE.eq_2, evE.eq_3, evE.eq_4, evE.eq_5, evE.eq_6, evE.eq_7, evE.eq_8, evE.eq_9, evE.eq_10, evE.eq_11, evE.eq_12, evE.eq_13, evE.eq_14, evE.eq_15, evE.eq_16, evE.eq_17, evE.eq_18, evE.eq_19, evE.eq_20, evE.eq_21, evE.eq_22, evEs.eq_1, evEs.eq_2, evS.eq_1, evS.eq_2, evS.eq_3, evS.eq_4, evS.eq_5, evS.eq_6, evS.eq_7, evS.eq_8, evS.eq_9, evS.eq_10, evS.eq_11, evS.eq_12, evS.eq_13, evS.eq_14, evS.eq_15, evS.eq_16, evS.eq_17, evS.eq_18, evS.eq_19, evS.eq_20, evSs.eq_1, evSs.eq_2, TW.gt, TW.st, TW.sts, TW.start, List.map_cons, List.map_nil, List.length_cons, List.length_nil, List.length_map, List.replicate_succ, List.replicate_zero, Nat.reduceAdd, Nat.reduceSub, List.cons_append, List.nil_append, Tg.put, Tg.names, srcRes, srcOf, Sk.out, Sk.pure, wipeE, Op1.run, Op2.run, slc3, okI, okB, okA, isSc_i, isSc_b, isSc_s, isSc_n, isNon_i, isNon_b, isNon_l, isNon_n, eqS_ii, eqS_bb, inF_ints, ints_map, ints_mapf, bit, IDef.mut, kAt, ownK, if_true, if_false, ↓reduceIte, Bool.false_eq_true, decide_true, decide_false, Bool.not_true, Bool.not_false, true_and, and_true, and_self, Option.isSome_some, Option.isSome_none, eq_self, h1, h2, h3, h4, h5, h6, mix]
theorem mix_ge (a k : Int) : 0 ≤ mix a k := Int.emod_nonneg _ (by decide)
theorem mix_lt (a k : Int) : mix a k < 2147483587 := Int.emod_lt_of_pos _ (by decide)
theorem mix_sz (a k : Int) : Sz 31 (mix a k) := Sz.mod (by decide) (by decide)
/-- the k-th number of the script -/
def cellAt (ns : List Int) (k : Nat) : Int := ns.getD k 0
theorem run_cell {n : Nat} (hn : 1 ≤ n) (ns : List Int) (k : Nat) : (sems defs n 6).run [.scr ns, .int k] = .ok (.int (cellAt ns k), []) := by
  obtain ⟨n, rfl, -⟩ := suc_of hn
  refine run_at (d := d__law_cell_at) rfl rfl ?_
  by_cases h : k < ns.length
  · have e : nth ns (k : Int) = some (cellAt ns k) := by
      unfold nth ixAt cellAt
      rw [if_pos (by omega), if_pos (by omega)]
      simp [h]
    simp [d__law_cell_at, evE.eq_1, evE.eq_2, evE.eq_3, evE.eq_4, evE.eq_5, evE.eq_6, evE.eq_7, evE.eq_8, evE.eq_9, evE.eq_10, evE.eq_11, evE.eq_12, evE.eq_13, evE.eq_14, evE.eq_15, evE.eq_16, evE.eq_17, evE.eq_18, evE.eq_19, evE.eq_20, evE.eq_21, evE.eq_22, evEs.eq_1, evEs.eq_2, evS.eq_1, evS.eq_2, evS.eq_3, evS.eq_4, evS.eq_5, evS.eq_6, evS.eq_7, evS.eq_8, evS.eq_9, evS.eq_10, evS.eq_11, evS.eq_12, evS.eq_13, evS.eq_14, evS.eq_15, evS.eq_16, evS.eq_17, evS.eq_18, evS.eq_19, evS.eq_20, evSs.eq_1, evSs.eq_2, TW.gt, TW.st, TW.sts, TW.start, List.map_cons, List.map_nil, List.length_cons, List.length_nil, List.length_map, List.replicate_succ, List.replicate_zero, Nat.reduceAdd, Nat.reduceSub, List.cons_append, List.nil_append, Tg.put, Tg.names, srcRes, srcOf, Sk.out, Sk.pure, wipeE, Op1.run, Op2.run, slc3, okI, okB, okA, isSc_i, isSc_b, isSc_s, isSc_n, isNon_i, isNon_b, isNon_l, isNon_n, eqS_ii, eqS_bb, inF_ints, ints_map, ints_mapf, bit, IDef.mut, kAt, ownK, if_true, if_false, ↓reduceIte, Bool.false_eq_true, decide_true, decide_false, Bool.not_true, Bool.not_false, true_and, and_true, and_self, Option.isSome_some, Option.isSome_none, eq_self, e, h]
  · have e : cellAt ns k = 0 := by unfold cellAt; simp [Nat.le_of_not_lt h]
    simp [d__law_cell_at, evE.eq_1, evE.eq_2, evE.eq_3, evE.eq_4, evE.eq_5, evE.eq_6, evE.eq_7, evE.eq_8, evE.eq_9, evE.eq_10, evE.eq_11, evE.eq_12, evE.eq_13, evE.eq_14, evE.eq_15, evE.eq_16, evE.eq_17, evE.eq_18, evE.eq_19, evE.eq_20, evE.eq_21, evE.eq_22, evEs.eq_1, evEs.eq_2, evS.eq_1, evS.eq_2, evS.eq_3, evS.eq_4, evS.eq_5, evS.eq_6, evS.eq_7, evS.eq_8, evS.eq_9, evS.eq_10, evS.eq_11, evS.eq_12, evS.eq_13, evS.eq_14, evS.eq_15, evS.eq_16, evS.eq_17, evS.eq_18, evS.eq_19, evS.eq_20, evSs.eq_1, evSs.eq_2, TW.gt, TW.st, TW.sts, TW.start, List.map_cons, List.map_nil, List.length_cons, List.length_nil, List.length_map, List.replicate_succ, List.replicate_zero, Nat.reduceAdd, Nat.reduceSub, List.cons_append, List.nil_append, Tg.put, Tg.names, srcRes, srcOf, Sk.out, Sk.pure, wipeE, Op1.run, Op2.run, slc3, okI, okB, okA, isSc_i, isSc_b, isSc_s, isSc_n, isNon_i, isNon_b, isNon_l, isNon_n, eqS_ii, eqS_bb, inF_ints, ints_map, ints_mapf, bit, IDef.mut, kAt, ownK, if_true, if_false, ↓reduceIte, Bool.false_eq_true, decide_true, decide_false, Bool.not_true, Bool.not_false, true_and, and_true, and_self, Option.isSome_some, Option.isSome_none, eq_self, e, h]
theorem cell_sz {ns : List Int} (hz : ∀ z ∈ ns, Sz 1048577 z) (k : Nat) : Sz 1048577 (cellAt ns k) := by
  unfold cellAt
  rw [List.getD_eq_getElem?_getD]
  cases h : ns[k]? with
  | none => exact Sz.mono (Sz.small (by decide) (by decide)) (by decide)
  | some z => exact hz z (List.mem_of_getElem? h)
def older (c k : Int) : Int := ([k - 1, 0, mix (c / 5 + k * k) 1 % k, (let j := k - 1 - mix (c / 5 + k * k) 1 % 3; if j > 0 then j else 0), (k - 1) / 2] : List Int).getD (c % 5).toNat 0
theorem run_older {n : Nat} (hn : 2 ≤ n) {c k : Int} (hc : Sz 1200000 c) (h1 : 1 ≤ k) (h2 : k ≤ 12) : (sems defs n 7).run [.int c, .int k] = .ok (.int (older c k), []) := by
  obtain ⟨n, rfl, hm⟩ := suc_of hn
  refine run_at (d := d__law_older) rfl rfl ?_
  have sk : Sz 10 k := Sz.small (by omega) (by omega)
  have skk : mulOk k k = true := sk.ok sk (by decide)
  have sz := ((hc.div (b := 5) (by decide)).add (sk.mul sk) (k := 1200001) (by decide) (by decide)).mono (m := 2000000) (by decide)
  have hmx := run_mix hm sz (Sz.mono (Sz.small (i := 1) (by decide) (by decide)) (by decide))
  have p5 : 0 ≤ c % 5 ∧ c % 5 < 5 := ⟨Int.emod_nonneg _ (by decide), Int.emod_lt_of_pos _ (by decide)⟩
  have kp : 0 < k := by omega
  have l5 : Nat.log2 5 < 9000 := by decide +kernel
  have l2 : Nat.log2 2 < 9000 := by decide +kernel
  have key : ∀ x0 x1 x2 x3 x4 : Int, nth [D.int x0, .int x1, .int x2, .int x3, .int x4] (c % 5) = some (.int (([x0, x1, x2, x3, x4] : List Int).getD (c % 5).toNat 0)) := fun x0 x1 x2 x3 x4 => by
    have : c % 5 = 0 ∨ c % 5 = 1 ∨ c % 5 = 2 ∨ c % 5 = 3 ∨ c % 5 = 4 := by omega
    rcases this with e | e | e | e | e <;> rw [e] <;> rfl
  simp [d__law_older, evE.eq_1, evE.eq_2, evE.eq_3, evE.eq_4, evE.eq_5, evE.eq_6, evE.eq_7, evE.eq_8, evE.eq_9, evE.eq_10, evE.eq_11, evE.eq_12, evE.eq_13, evE.eq_14, evE.eq_15, evE.eq_16, evE.eq_17, evE.eq_18, evE.eq_19, evE.eq_20, evE.eq_21, evE.eq_22, evEs.eq_1, evEs.eq_2, evS.eq_1, evS.eq_2, evS.eq_3, evS.eq_4, evS.eq_5, evS.eq_6, evS.eq_7, evS.eq_8, evS.eq_9, evS.eq_10, evS.eq_11, evS.eq_12, evS.eq_13, evS.eq_14, evS.eq_15, evS.eq_16, evS.eq_17, evS.eq_18, evS.eq_19, evS.eq_20, evSs.eq_1, evSs.eq_2, TW.gt, TW.st, TW.sts, TW.start, List.map_cons, List.map_nil, List.length_cons, List.length_nil, List.length_map, List.replicate_succ, List.replicate_zero, Nat.reduceAdd, Nat.reduceSub, List.cons_append, List.nil_append, Tg.put, Tg.names, srcRes, srcOf, Sk.out, Sk.pure, wipeE, Op1.run, Op2.run, slc3, okI, okB, okA, isSc_i, isSc_b, isSc_s, isSc_n, isNon_i, isNon_b, isNon_l, isNon_n, eqS_ii, eqS_bb, inF_ints, ints_map, ints_mapf, bit, IDef.mut, kAt, ownK, if_true, if_false, ↓reduceIte, Bool.false_eq_true, decide_true, decide_false, Bool.not_true, Bool.not_false, true_and, and_true, and_self, Option.isSome_some, Option.isSome_none, eq_self, skk, hmx, kp, key, older, l2, l5]
theorem older_in {c k : Int} (h : 1 ≤ k) : 0 ≤ older c k ∧ older c k < k := by
  unfold older
  have p5 : c % 5 = 0 ∨ c % 5 = 1 ∨ c % 5 = 2 ∨ c % 5 = 3 ∨ c % 5 = 4 := by omega
  have m := mix_ge (c / 5 + k * k) 1
  generalize mix (c / 5 + k * k) 1 = z at *
  have a := Int.emod_nonneg z (by omega : k ≠ 0)
  have b := Int.emod_lt_of_pos z (by omega : 0 < k)
  have c1 := Int.emod_nonneg z (by omega : (3 : Int) ≠ 0)
  rcases p5 with e | e | e | e | e <;> rw [e] <;> simp <;> first | omega | (split <;> omega)
def size (c k : Int) : Int := let m := mix (c + 3 * k * k) 2
  ([1 + m % 9, 1 + m % 2, (1 + m % 4) * 1000000000000000000000000000000 + m % 5, 1 + c * m % 1000000000000000000000000000000000000000] : List Int).getD (c / 5 % 4).toNat 0
theorem run_size {n : Nat} (hn : 2 ≤ n) {c k : Int} (hc : Sz 1200000 c) (h1 : 1 ≤ k) (h2 : k ≤ 12) : (sems defs n 8).run [.int c, .int k] = .ok (.int (size c k), []) := by
  obtain ⟨n, rfl, hm⟩ := suc_of hn
  refine run_at (d := d__law_size_8) rfl rfl ?_
  have sk : Sz 10 k := Sz.small (by omega) (by omega)
  have s3 : Sz 10 3 := Sz.small (by decide) (by decide)
  have k1 : mulOk 3 k = true := s3.ok sk (by decide)
  have k2 : mulOk (3 * k) k = true := (s3.mul sk).ok sk (by decide)
  have sz := (hc.add ((s3.mul sk).mul sk) (k := 1200001) (by decide) (by decide)).mono (m := 2000000) (by decide)
  have hmx := run_mix hm sz (Sz.mono (Sz.small (i := 2) (by decide) (by decide)) (by decide))
  have k3 : mulOk c (mix (c + 3 * k * k) 2) = true := hc.ok (mix_sz _ _) (by decide)
  have k4 : mulOk (1 + mix (c + 3 * k * k) 2 % 4) 1000000000000000000000000000000 = true := ((Sz.small (i := 1) (by decide) (by decide)).add (Sz.mod (i := mix (c + 3 * k * k) 2) (b := 4) (n := 10) (by decide) (by decide)) (k := 10) (by decide) (by decide)).ok (m := 100) (Sz.of (by decide) (by decide)) (by decide)
  have l5 : Nat.log2 5 < 9000 := by decide +kernel
  have key : ∀ x0 x1 x2 x3 : Int, nth [D.int x0, .int x1, .int x2, .int x3] (c / 5 % 4) = some (.int (([x0, x1, x2, x3] : List Int).getD (c / 5 % 4).toNat 0)) := fun x0 x1 x2 x3 => by
    have : c / 5 % 4 = 0 ∨ c / 5 % 4 = 1 ∨ c / 5 % 4 = 2 ∨ c / 5 % 4 = 3 := by omega
    rcases this with e | e | e | e <;> rw [e] <;> rfl
  simp [d__law_size_8, evE.eq_1, evE.eq_2, evE.eq_3, evE.eq_4, evE.eq_5, evE.eq_6, evE.eq_7, evE.eq_8, evE.eq_9, evE.eq_10, evE.eq_11, evE.eq_12, evE.eq_13, evE.eq_14, evE.eq_15, evE.eq_16, evE.eq_17, evE.eq_18, evE.eq_19, evE.eq_20, evE.eq_21, evE.eq_22, evEs.eq_1, evEs.eq_2, evS.eq_1, evS.eq_2, evS.eq_3, evS.eq_4, evS.eq_5, evS.eq_6, evS.eq_7, evS.eq_8, evS.eq_9, evS.eq_10, evS.eq_11, evS.eq_12, evS.eq_13, evS.eq_14, evS.eq_15, evS.eq_16, evS.eq_17, evS.eq_18, evS.eq_19, evS.eq_20, evSs.eq_1, evSs.eq_2, TW.gt, TW.st, TW.sts, TW.start, List.map_cons, List.map_nil, List.length_cons, List.length_nil, List.length_map, List.replicate_succ, List.replicate_zero, Nat.reduceAdd, Nat.reduceSub, List.cons_append, List.nil_append, Tg.put, Tg.names, srcRes, srcOf, Sk.out, Sk.pure, wipeE, Op1.run, Op2.run, slc3, okI, okB, okA, isSc_i, isSc_b, isSc_s, isSc_n, isNon_i, isNon_b, isNon_l, isNon_n, eqS_ii, eqS_bb, inF_ints, ints_map, ints_mapf, bit, IDef.mut, kAt, ownK, if_true, if_false, ↓reduceIte, Bool.false_eq_true, decide_true, decide_false, Bool.not_true, Bool.not_false, true_and, and_true, and_self, Option.isSome_some, Option.isSome_none, eq_self, k1, k2, k3, k4, hmx, key, size, l5]
def big39 : Int := 1000000000000000000000000000000000000000
theorem size_in (c k : Int) : 1 ≤ size c k ∧ size c k ≤ big39 := by
  unfold size big39
  have p4 : c / 5 % 4 = 0 ∨ c / 5 % 4 = 1 ∨ c / 5 % 4 = 2 ∨ c / 5 % 4 = 3 := by omega
  generalize mix (c + 3 * k * k) 2 = m at *
  have h9 := Int.emod_lt_of_pos (c * m) (by decide : (0 : Int) < 1000000000000000000000000000000000000000)
  have h8 := Int.emod_nonneg (c * m) (by decide : (1000000000000000000000000000000000000000 : Int) ≠ 0)
  generalize c * m % 1000000000000000000000000000000000000000 = w at *
  rcases p4 with e | e | e | e <;> rw [e] <;> simp <;> omega
theorem sz_div {n : Nat} {i b : Int} (h : Sz n i) : Sz n (i / b) := by
  unfold Sz at *
  exact Nat.lt_of_le_of_lt (Int.natAbs_ediv_le_natAbs i b) h
theorem log_small {x : Int} (h0 : 0 < x) (h : x ≤ 8000) : x.natAbs.log2 < 9000 := Nat.lt_of_le_of_lt (Nat.log2_le_self _) (by omega)
theorem log_sz {n : Nat} {x : Int} (h : Sz n x) (hn : n < 9000) : x.natAbs.log2 < 9000 := Nat.lt_of_le_of_lt h.log hn
theorem nth_li {xs : List Int} {k : Nat} (h : k < xs.length) : nth (xs.map D.int) (k : Int) = some (.int (xs.getD k 0)) := by
  rw [nth_nat, List.getElem?_map, List.getD_eq_getElem?_getD, List.getElem?_eq_getElem h]; rfl
theorem getD_mem {xs : List Int} {k : Nat} (h : k < xs.length) : xs.getD k 0 ∈ xs := by
  rw [List.getD_eq_getElem?_getD, List.getElem?_eq_getElem h]; exact List.getElem_mem h
end TW.M

namespace TW.M
open PySem
theorem nth_plc {n : Nat} {p : Int} (hp : Pl n p) (f : Int → D) : nth ((plc n).map f) p = some (f p) := by
  obtain ⟨k, rfl⟩ : ∃ k : Nat, p = k := ⟨p.toNat, by have := hp.1; omega⟩
  have hk : k < n := by have := hp.2; omega
  rw [nth_nat, plc, List.map_map, List.getElem?_map, List.getElem?_range hk]; rfl
theorem cut2 (a b l : Int) : TW.cut [D.int a, .int b, .int l] none (some 2) = [.int a, .int b] := rfl
theorem nth3_0 (a b l : D) : nth [a, b, l] 0 = some a := rfl
theorem nth3_1 (a b l : D) : nth [a, b, l] 1 = some b := rfl
theorem nth3_2 (a b l : D) : nth [a, b, l] 2 = some l := rfl
def Small (B : Int) (rs : List Rd) : Prop := ∀ r ∈ rs, r.2.2 ≤ B
theorem run_hung {m : Nat} (hm : 2 ≤ m) {n : Nat} {rs : List Rd} (h : IsT n rs) (h2 : 2 ≤ n) (h12 : n ≤ 12) {B : Int} (hB : Small B rs) {c : Int} (hc : Sz 1200000 c) :
    ∃ rs', (sems defs m 9).run [rds rs, .int n, .int c] = .ok (.non, [some (rds rs')]) ∧ IsT n rs' ∧ Small B rs' := by
  obtain ⟨m, rfl, hm1⟩ := suc_of hm
  obtain ⟨d, T⟩ := tree_tr h
  suffices H : ∃ ρ rs', evSs (sems defs m) d__law_hung.body (start d__law_hung.ns [rds rs, .int n, .int c]) = .nx (some (rds rs') :: ρ) ∧ IsT n rs' ∧ Small B rs' by
    obtain ⟨ρ, rs', e1, e2⟩ := H
    exact ⟨rs', run_at (d := d__law_hung) rfl rfl (by rw [e1]; rfl), e2⟩
  obtain ⟨o1, ho⟩ : ∃ o1, evSs (sems defs m) d__law_hung.body (start d__law_hung.ns [rds rs, .int n, .int c]) = o1 := ⟨_, rfl⟩
  rw [ho]
  have rg := rng0 n
  have b1 : ((n : Int) ≤ (lim : Nat) ∧ -big ≤ (n : Int)) := by unfold lim big; omega
  have b2 : n ≤ lim := by unfold lim; omega
  have ln := T.len
  have b3 : rs.length ≤ lim := by unfold lim; omega
  simp only [d__law_hung, evE.eq_1, evE.eq_2, evE.eq_3, evE.eq_4, evE.eq_5, evE.eq_6, evE.eq_7, evE.eq_8, evE.eq_9, evE.eq_10, evE.eq_11, evE.eq_12, evE.eq_13, evE.eq_14, evE.eq_15, evE.eq_16, evE.eq_17, evE.eq_18, evE.eq_19, evE.eq_20, evE.eq_21, evE.eq_22, evEs.eq_1, evEs.eq_2, evS.eq_1, evS.eq_2, evS.eq_3, evS.eq_4, evS.eq_5, evS.eq_6, evS.eq_7, evS.eq_8, evS.eq_9, evS.eq_10, evS.eq_11, evS.eq_12, evS.eq_13, evS.eq_14, evS.eq_15, evS.eq_16, evS.eq_17, evS.eq_18, evS.eq_19, evS.eq_20, evSs.eq_1, evSs.eq_2, TW.gt, TW.st, TW.sts, TW.start, List.map_cons, List.map_nil, List.length_cons, List.length_nil, List.length_map, List.replicate_succ, List.replicate_zero, Nat.reduceAdd, Nat.reduceSub, List.cons_append, List.nil_append, Tg.put, Tg.names, srcRes, srcOf, Sk.out, Sk.pure, wipeE, Op1.run, Op2.run, slc3, okI, okB, okA, isSc_i, isSc_b, isSc_s, isSc_n, isNon_i, isNon_b, isNon_l, isNon_n, eqS_ii, eqS_bb, inF_ints, ints_map, ints_mapf, bit, IDef.mut, kAt, ownK, if_true, if_false, ↓reduceIte, Bool.false_eq_true, decide_true, decide_false, Bool.not_true, Bool.not_false, true_and, and_true, and_self, Option.isSome_some, Option.isSome_none, eq_self, rg, b1, plc_len, b2] at ho
  generalize hL : lcGo _ _ _ _ _ = o at ho
  have := lc_all hL D.int (plc n) (fun p => .int (deg rs p)) rfl (by
    intro p _
    refine ⟨_, rfl, [some (rds rs), some (.int n), some (.int c), none, none, some (.int p), none, none, none], ?_⟩
    simp only [evE.eq_1, evE.eq_2, evE.eq_3, evE.eq_4, evE.eq_5, evE.eq_6, evE.eq_7, evE.eq_8, evE.eq_9, evE.eq_10, evE.eq_11, evE.eq_12, evE.eq_13, evE.eq_14, evE.eq_15, evE.eq_16, evE.eq_17, evE.eq_18, evE.eq_19, evE.eq_20, evE.eq_21, evE.eq_22, evEs.eq_1, evEs.eq_2, evS.eq_1, evS.eq_2, evS.eq_3, evS.eq_4, evS.eq_5, evS.eq_6, evS.eq_7, evS.eq_8, evS.eq_9, evS.eq_10, evS.eq_11, evS.eq_12, evS.eq_13, evS.eq_14, evS.eq_15, evS.eq_16, evS.eq_17, evS.eq_18, evS.eq_19, evS.eq_20, evSs.eq_1, evSs.eq_2, TW.gt, TW.st, TW.sts, TW.start, List.map_cons, List.map_nil, List.length_cons, List.length_nil, List.length_map, List.replicate_succ, List.replicate_zero, Nat.reduceAdd, Nat.reduceSub, List.cons_append, List.nil_append, Tg.put, Tg.names, srcRes, srcOf, Sk.out, Sk.pure, wipeE, Op1.run, Op2.run, slc3, okI, okB, okA, isSc_i, isSc_b, isSc_s, isSc_n, isNon_i, isNon_b, isNon_l, isNon_n, eqS_ii, eqS_bb, inF_ints, ints_map, ints_mapf, bit, IDef.mut, kAt, ownK, if_true, if_false, ↓reduceIte, Bool.false_eq_true, decide_true, decide_false, Bool.not_true, Bool.not_false, true_and, and_true, and_self, Option.isSome_some, Option.isSome_none, eq_self, rds, b3]
    generalize hL2 : lcGo _ _ _ _ _ = o2
    have := lc_map hL2 rd rs (fun r => decide (p = r.1 ∨ p = r.2.1)) (fun _ => .any) rfl (by
      rintro ⟨a, b, l⟩ _
      refine ⟨_, rfl, [some (rds rs), some (.int n), some (.int c), none, none, some (.int p), none, none, some (rd (a, b, l))], by simp only [evE.eq_1, evE.eq_2, evE.eq_3, evE.eq_4, evE.eq_5, evE.eq_6, evE.eq_7, evE.eq_8, evE.eq_9, evE.eq_10, evE.eq_11, evE.eq_12, evE.eq_13, evE.eq_14, evE.eq_15, evE.eq_16, evE.eq_17, evE.eq_18, evE.eq_19, evE.eq_20, evE.eq_21, evE.eq_22, evEs.eq_1, evEs.eq_2, evS.eq_1, evS.eq_2, evS.eq_3, evS.eq_4, evS.eq_5, evS.eq_6, evS.eq_7, evS.eq_8, evS.eq_9, evS.eq_10, evS.eq_11, evS.eq_12, evS.eq_13, evS.eq_14, evS.eq_15, evS.eq_16, evS.eq_17, evS.eq_18, evS.eq_19, evS.eq_20, evSs.eq_1, evSs.eq_2, TW.gt, TW.st, TW.sts, TW.start, List.map_cons, List.map_nil, List.length_cons, List.length_nil, List.length_map, List.replicate_succ, List.replicate_zero, Nat.reduceAdd, Nat.reduceSub, List.cons_append, List.nil_append, Tg.put, Tg.names, srcRes, srcOf, Sk.out, Sk.pure, wipeE, Op1.run, Op2.run, slc3, okI, okB, okA, isSc_i, isSc_b, isSc_s, isSc_n, isNon_i, isNon_b, isNon_l, isNon_n, eqS_ii, eqS_bb, inF_ints, ints_map, ints_mapf, bit, IDef.mut, kAt, ownK, if_true, if_false, ↓reduceIte, Bool.false_eq_true, decide_true, decide_false, Bool.not_true, Bool.not_false, true_and, and_true, and_self, Option.isSome_some, Option.isSome_none, eq_self, rd, rds, cut2, inF2], fun _ => ⟨[some (rds rs), some (.int n), some (.int c), none, none, some (.int p), none, none, some (rd (a, b, l))], by simp only [evE.eq_1, evE.eq_2, evE.eq_3, evE.eq_4, evE.eq_5, evE.eq_6, evE.eq_7, evE.eq_8, evE.eq_9, evE.eq_10, evE.eq_11, evE.eq_12, evE.eq_13, evE.eq_14, evE.eq_15, evE.eq_16, evE.eq_17, evE.eq_18, evE.eq_19, evE.eq_20, evE.eq_21, evE.eq_22, evEs.eq_1, evEs.eq_2, evS.eq_1, evS.eq_2, evS.eq_3, evS.eq_4, evS.eq_5, evS.eq_6, evS.eq_7, evS.eq_8, evS.eq_9, evS.eq_10, evS.eq_11, evS.eq_12, evS.eq_13, evS.eq_14, evS.eq_15, evS.eq_16, evS.eq_17, evS.eq_18, evS.eq_19, evS.eq_20, evSs.eq_1, evSs.eq_2, TW.gt, TW.st, TW.sts, TW.start, List.map_cons, List.map_nil, List.length_cons, List.length_nil, List.length_map, List.replicate_succ, List.replicate_zero, Nat.reduceAdd, Nat.reduceSub, List.cons_append, List.nil_append, Tg.put, Tg.names, srcRes, srcOf, Sk.out, Sk.pure, wipeE, Op1.run, Op2.run, slc3, okI, okB, okA, isSc_i, isSc_b, isSc_s, isSc_n, isNon_i, isNon_b, isNon_l, isNon_n, eqS_ii, eqS_bb, inF_ints, ints_map, ints_mapf, bit, IDef.mut, kAt, ownK, if_true, if_false, ↓reduceIte, Bool.false_eq_true, decide_true, decide_false, Bool.not_true, Bool.not_false, true_and, and_true, and_self, Option.isSome_some, Option.isSome_none, eq_self, rds]⟩⟩)
    subst this
    simp only [evE.eq_1, evE.eq_2, evE.eq_3, evE.eq_4, evE.eq_5, evE.eq_6, evE.eq_7, evE.eq_8, evE.eq_9, evE.eq_10, evE.eq_11, evE.eq_12, evE.eq_13, evE.eq_14, evE.eq_15, evE.eq_16, evE.eq_17, evE.eq_18, evE.eq_19, evE.eq_20, evE.eq_21, evE.eq_22, evEs.eq_1, evEs.eq_2, evS.eq_1, evS.eq_2, evS.eq_3, evS.eq_4, evS.eq_5, evS.eq_6, evS.eq_7, evS.eq_8, evS.eq_9, evS.eq_10, evS.eq_11, evS.eq_12, evS.eq_13, evS.eq_14, evS.eq_15, evS.eq_16, evS.eq_17, evS.eq_18, evS.eq_19, evS.eq_20, evSs.eq_1, evSs.eq_2, TW.gt, TW.st, TW.sts, TW.start, List.map_cons, List.map_nil, List.length_cons, List.length_nil, List.length_map, List.replicate_succ, List.replicate_zero, Nat.reduceAdd, Nat.reduceSub, List.cons_append, List.nil_append, Tg.put, Tg.names, srcRes, srcOf, Sk.out, Sk.pure, wipeE, Op1.run, Op2.run, slc3, okI, okB, okA, isSc_i, isSc_b, isSc_s, isSc_n, isNon_i, isNon_b, isNon_l, isNon_n, eqS_ii, eqS_bb, inF_ints, ints_map, ints_mapf, bit, IDef.mut, kAt, ownK, if_true, if_false, ↓reduceIte, Bool.false_eq_true, decide_true, decide_false, Bool.not_true, Bool.not_false, true_and, and_true, and_self, Option.isSome_some, Option.isSome_none, eq_self, deg])
  subst this
  simp only [evE.eq_1, evE.eq_2, evE.eq_3, evE.eq_4, evE.eq_5, evE.eq_6, evE.eq_7, evE.eq_8, evE.eq_9, evE.eq_10, evE.eq_11, evE.eq_12, evE.eq_13, evE.eq_14, evE.eq_15, evE.eq_16, evE.eq_17, evE.eq_18, evE.eq_19, evE.eq_20, evE.eq_21, evE.eq_22, evEs.eq_1, evEs.eq_2, evS.eq_1, evS.eq_2, evS.eq_3, evS.eq_4, evS.eq_5, evS.eq_6, evS.eq_7, evS.eq_8, evS.eq_9, evS.eq_10, evS.eq_11, evS.eq_12, evS.eq_13, evS.eq_14, evS.eq_15, evS.eq_16, evS.eq_17, evS.eq_18, evS.eq_19, evS.eq_20, evSs.eq_1, evSs.eq_2, TW.gt, TW.st, TW.sts, TW.start, List.map_cons, List.map_nil, List.length_cons, List.length_nil, List.length_map, List.replicate_succ, List.replicate_zero, Nat.reduceAdd, Nat.reduceSub, List.cons_append, List.nil_append, Tg.put, Tg.names, srcRes, srcOf, Sk.out, Sk.pure, wipeE, Op1.run, Op2.run, slc3, okI, okB, okA, isSc_i, isSc_b, isSc_s, isSc_n, isNon_i, isNon_b, isNon_l, isNon_n, eqS_ii, eqS_bb, inF_ints, ints_map, ints_mapf, bit, IDef.mut, kAt, ownK, if_true, if_false, ↓reduceIte, Bool.false_eq_true, decide_true, decide_false, Bool.not_true, Bool.not_false, true_and, and_true, and_self, Option.isSome_some, Option.isSome_none, eq_self, rg, b1, plc_len, b2] at ho
  generalize hL : lcGo _ _ _ _ _ = o at ho
  have := lc_map hL D.int (plc n) (fun p => decide (deg rs p = 1)) .int rfl (by
    intro p hp
    have n1 := nth_plc (plc_mem.mp hp) (fun p => .int (deg rs p))
    have e : decide ((deg rs p : Int) = 1) = decide (deg rs p = 1) := decide_eq_decide.mpr (by omega)
    refine ⟨_, rfl, [some (rds rs), some (.int n), some (.int c), some (.lst ((plc n).map (fun p => .int (deg rs p)))), none, some (.int p), none, none, none], by simp only [evE.eq_1, evE.eq_2, evE.eq_3, evE.eq_4, evE.eq_5, evE.eq_6, evE.eq_7, evE.eq_8, evE.eq_9, evE.eq_10, evE.eq_11, evE.eq_12, evE.eq_13, evE.eq_14, evE.eq_15, evE.eq_16, evE.eq_17, evE.eq_18, evE.eq_19, evE.eq_20, evE.eq_21, evE.eq_22, evEs.eq_1, evEs.eq_2, evS.eq_1, evS.eq_2, evS.eq_3, evS.eq_4, evS.eq_5, evS.eq_6, evS.eq_7, evS.eq_8, evS.eq_9, evS.eq_10, evS.eq_11, evS.eq_12, evS.eq_13, evS.eq_14, evS.eq_15, evS.eq_16, evS.eq_17, evS.eq_18, evS.eq_19, evS.eq_20, evSs.eq_1, evSs.eq_2, TW.gt, TW.st, TW.sts, TW.start, List.map_cons, List.map_nil, List.length_cons, List.length_nil, List.length_map, List.replicate_succ, List.replicate_zero, Nat.reduceAdd, Nat.reduceSub, List.cons_append, List.nil_append, Tg.put, Tg.names, srcRes, srcOf, Sk.out, Sk.pure, wipeE, Op1.run, Op2.run, slc3, okI, okB, okA, isSc_i, isSc_b, isSc_s, isSc_n, isNon_i, isNon_b, isNon_l, isNon_n, eqS_ii, eqS_bb, inF_ints, ints_map, ints_mapf, bit, IDef.mut, kAt, ownK, if_true, if_false, ↓reduceIte, Bool.false_eq_true, decide_true, decide_false, Bool.not_true, Bool.not_false, true_and, and_true, and_self, Option.isSome_some, Option.isSome_none, eq_self, n1, e], fun _ => ⟨[some (rds rs), some (.int n), some (.int c), some (.lst ((plc n).map (fun p => .int (deg rs p)))), none, some (.int p), none, none, none], by simp only [evE.eq_1, evE.eq_2, evE.eq_3, evE.eq_4, evE.eq_5, evE.eq_6, evE.eq_7, evE.eq_8, evE.eq_9, evE.eq_10, evE.eq_11, evE.eq_12, evE.eq_13, evE.eq_14, evE.eq_15, evE.eq_16, evE.eq_17, evE.eq_18, evE.eq_19, evE.eq_20, evE.eq_21, evE.eq_22, evEs.eq_1, evEs.eq_2, evS.eq_1, evS.eq_2, evS.eq_3, evS.eq_4, evS.eq_5, evS.eq_6, evS.eq_7, evS.eq_8, evS.eq_9, evS.eq_10, evS.eq_11, evS.eq_12, evS.eq_13, evS.eq_14, evS.eq_15, evS.eq_16, evS.eq_17, evS.eq_18, evS.eq_19, evS.eq_20, evSs.eq_1, evSs.eq_2, TW.gt, TW.st, TW.sts, TW.start, List.map_cons, List.map_nil, List.length_cons, List.length_nil, List.length_map, List.replicate_succ, List.replicate_zero, Nat.reduceAdd, Nat.reduceSub, List.cons_append, List.nil_append, Tg.put, Tg.names, srcRes, srcOf, Sk.out, Sk.pure, wipeE, Op1.run, Op2.run, slc3, okI, okB, okA, isSc_i, isSc_b, isSc_s, isSc_n, isNon_i, isNon_b, isNon_l, isNon_n, eqS_ii, eqS_bb, inF_ints, ints_map, ints_mapf, bit, IDef.mut, kAt, ownK, if_true, if_false, ↓reduceIte, Bool.false_eq_true, decide_true, decide_false, Bool.not_true, Bool.not_false, true_and, and_true, and_self, Option.isSome_some, Option.isSome_none, eq_self]⟩⟩)
  subst this
  generalize hal : (plc n).filter (fun p => decide (deg rs p = 1)) = al at ho
  have pal : 0 < al.length := by
    obtain ⟨p, hp, hd⟩ := leaf_ex T h2
    rw [← hal]
    exact List.length_pos_of_mem (List.mem_filter.mpr ⟨plc_mem.mpr hp, by simpa using hd⟩)
  have pal' : (0 : Int) < (al.length : Int) := by omega
  have cs : Sz 2000000 c := hc.mono (by decide)
  have mx8 := run_mix hm1 cs (Sz.mono (Sz.small (i := 8) (by decide) (by decide)) (by decide))
  have mx9 := run_mix hm1 cs (Sz.mono (Sz.small (i := 9) (by decide) (by decide)) (by decide))
  obtain ⟨p, mp, np⟩ := nth_in (xs := al) (i := mix c 8 % (al.length : Int)) (Int.emod_nonneg _ (by omega)) (Int.emod_lt_of_pos _ pal')
  have np' : nth (al.map D.int) (mix c 8 % (al.length : Int)) = some (.int p) := by
    have : ∀ (xs : List Int) (i : Int) (x : Int), nth xs i = some x → nth (xs.map D.int) i = some (.int x) := by
      intro xs i x h
      unfold nth at h ⊢
      rw [List.length_map]
      cases hx : ixAt xs.length i with
      | none => rw [hx] at h; cases h
      | some j =>
        rw [hx] at h
        simp only [Option.bind_some] at h ⊢
        rw [List.getElem?_map, h]; rfl
    exact this _ _ _ np
  obtain ⟨hp, hd⟩ : Pl n p ∧ deg rs p = 1 := by
    rw [← hal] at mp
    obtain ⟨a, b⟩ := List.mem_filter.mp mp
    exact ⟨plc_mem.mp a, by simpa using b⟩
  have n1 : (0 : Int) < (n : Int) - 1 := by omega
  have n0 : (0 : Int) < (n : Int) := by omega
  have L1 : ((rs.length : Int) ≤ (lim : Nat) ∧ -big ≤ (rs.length : Int)) := by unfold lim big; omega
  have rgL := rng0 rs.length
  simp only [evE.eq_1, evE.eq_2, evE.eq_3, evE.eq_4, evE.eq_5, evE.eq_6, evE.eq_7, evE.eq_8, evE.eq_9, evE.eq_10, evE.eq_11, evE.eq_12, evE.eq_13, evE.eq_14, evE.eq_15, evE.eq_16, evE.eq_17, evE.eq_18, evE.eq_19, evE.eq_20, evE.eq_21, evE.eq_22, evEs.eq_1, evEs.eq_2, evS.eq_1, evS.eq_2, evS.eq_3, evS.eq_4, evS.eq_5, evS.eq_6, evS.eq_7, evS.eq_8, evS.eq_9, evS.eq_10, evS.eq_11, evS.eq_12, evS.eq_13, evS.eq_14, evS.eq_15, evS.eq_16, evS.eq_17, evS.eq_18, evS.eq_19, evS.eq_20, evSs.eq_1, evSs.eq_2, TW.gt, TW.st, TW.sts, TW.start, List.map_cons, List.map_nil, List.length_cons, List.length_nil, List.length_map, List.replicate_succ, List.replicate_zero, Nat.reduceAdd, Nat.reduceSub, List.cons_append, List.nil_append, Tg.put, Tg.names, srcRes, srcOf, Sk.out, Sk.pure, wipeE, Op1.run, Op2.run, slc3, okI, okB, okA, isSc_i, isSc_b, isSc_s, isSc_n, isNon_i, isNon_b, isNon_l, isNon_n, eqS_ii, eqS_bb, inF_ints, ints_map, ints_mapf, bit, IDef.mut, kAt, ownK, if_true, if_false, ↓reduceIte, Bool.false_eq_true, decide_true, decide_false, Bool.not_true, Bool.not_false, true_and, and_true, and_self, Option.isSome_some, Option.isSome_none, eq_self, mx8, mx9, pal', np', n1, n0, rds, L1, rgL] at ho
  have u1 := Int.emod_nonneg (mix c 9) (by omega : (n : Int) - 1 ≠ 0)
  have u2 := Int.emod_lt_of_pos (mix c 9) n1
  generalize mix c 9 % ((n : Int) - 1) = u at *
  have po : Pl n ((p + 1 + u) % n) := ⟨Int.emod_nonneg _ (by omega), Int.emod_lt_of_pos _ n0⟩
  have op : (p + 1 + u) % n ≠ p := by
    have := hp.1; have := hp.2
    by_cases c : p + 1 + u < n
    · rw [Int.emod_eq_of_lt (by omega) c]; omega
    · have : (p + 1 + u) % n = p + 1 + u - n := by
        rw [← Int.sub_emod_right, Int.emod_eq_of_lt (by omega) (by omega)]
      omega
  generalize (p + 1 + u) % (n : Int) = q at *
  generalize hF : forGo _ _ _ _ = o at ho
  have T' := isT_rehang h (t := decide (c % 2 = 1)) hp po op hd
  obtain ⟨ρ, rfl, a, rfl⟩ := for_inv hF (fun k : Nat => D.int k) (List.range rs.length) (fun pre ρ => ∃ a, ρ = [some (rds ((rs.take pre.length).map (rehang p q (decide (c % 2 = 1))) ++ rs.drop pre.length)), some (.int n), some (.int c), some (.lst ((plc n).map (fun p => .int (deg rs p)))), some (li al), some (.int p), some (.int q), a, none]) (by simp [plc]) ⟨_, by simp [rds, li]; rfl⟩ (by
    rintro pre k r ρ e ⟨a, rfl⟩
    refine ⟨_, rfl, ?_⟩
    obtain ⟨rfl, hk⟩ := range_split e
    obtain ⟨⟨x, y, l⟩, hx⟩ : ∃ x, rs[pre.length]? = some x := ⟨_, List.getElem?_eq_getElem hk⟩
    have hx2 : rs[pre.length] = (x, y, l) := by rw [List.getElem?_eq_getElem hk] at hx; exact Option.some.inj hx
    have dr : rs.drop pre.length = (x, y, l) :: rs.drop (pre.length + 1) := by rw [List.drop_eq_getElem_cons hk, hx2]
    have tk : rs.take (pre.length + 1) = rs.take pre.length ++ [(x, y, l)] := by rw [List.take_succ, hx]; rfl
    have lt : ((rs.take pre.length).map (rehang p q (decide (c % 2 = 1)))).length = pre.length := by simp; omega
    generalize hA : (rs.take pre.length).map (rehang p q (decide (c % 2 = 1))) = A at *
    have nk : nth ((A ++ (x, y, l) :: rs.drop (pre.length + 1)).map rd) (pre.length : Int) = some (.lst [.int x, .int y, .int l]) := by
      rw [nth_nat, List.getElem?_map, List.getElem?_append_right (by omega)]
      simp [lt, rd]
    have c2 : (0 : Int) < 2 := by decide
    by_cases z : p = x ∨ p = y
    · have d1 := decide_eq_true z
      have nb : nth [D.lst [.int q, .int p, .int l], .lst [.int p, .int q, .int l]] (c % 2) = some (rd (rehang p q (decide (c % 2 = 1)) (x, y, l))) := by
        have : c % 2 = 0 ∨ c % 2 = 1 := by omega
        rcases this with e | e
        · rw [e]; simp only [rehang, if_pos z]; rfl
        · rw [e]; simp only [rehang, if_pos z]; rfl
      have sa := setAt_nat ((A ++ (x, y, l) :: rs.drop (pre.length + 1)).map rd) pre.length (by simp; omega) (rd (rehang p q (decide (c % 2 = 1)) (x, y, l)))
      rw [dr]
      refine ⟨_, by simp only [evE.eq_1, evE.eq_2, evE.eq_3, evE.eq_4, evE.eq_5, evE.eq_6, evE.eq_7, evE.eq_8, evE.eq_9, evE.eq_10, evE.eq_11, evE.eq_12, evE.eq_13, evE.eq_14, evE.eq_15, evE.eq_16, evE.eq_17, evE.eq_18, evE.eq_19, evE.eq_20, evE.eq_21, evE.eq_22, evEs.eq_1, evEs.eq_2, evS.eq_1, evS.eq_2, evS.eq_3, evS.eq_4, evS.eq_5, evS.eq_6, evS.eq_7, evS.eq_8, evS.eq_9, evS.eq_10, evS.eq_11, evS.eq_12, evS.eq_13, evS.eq_14, evS.eq_15, evS.eq_16, evS.eq_17, evS.eq_18, evS.eq_19, evS.eq_20, evSs.eq_1, evSs.eq_2, TW.gt, TW.st, TW.sts, TW.start, List.map_cons, List.map_nil, List.length_cons, List.length_nil, List.length_map, List.replicate_succ, List.replicate_zero, Nat.reduceAdd, Nat.reduceSub, List.cons_append, List.nil_append, Tg.put, Tg.names, srcRes, srcOf, Sk.out, Sk.pure, wipeE, Op1.run, Op2.run, slc3, okI, okB, okA, isSc_i, isSc_b, isSc_s, isSc_n, isNon_i, isNon_b, isNon_l, isNon_n, eqS_ii, eqS_bb, inF_ints, ints_map, ints_mapf, bit, IDef.mut, kAt, ownK, if_true, if_false, ↓reduceIte, Bool.false_eq_true, decide_true, decide_false, Bool.not_true, Bool.not_false, true_and, and_true, and_self, Option.isSome_some, Option.isSome_none, eq_self, rds, nk, cut2, inF2, d1, nth3_2, c2, nb, sa] <;> rfl, some (.int pre.length), ?_⟩
      simp only [List.length_append, List.length_cons, List.length_nil, Nat.zero_add, tk, List.map_append, hA, List.map_cons, List.map_nil, rds]
      rw [List.set_append_right _ _ (by simp [lt])]
      simp [lt, li]
    · have d1 := decide_eq_false z
      rw [dr]
      refine ⟨_, by simp only [evE.eq_1, evE.eq_2, evE.eq_3, evE.eq_4, evE.eq_5, evE.eq_6, evE.eq_7, evE.eq_8, evE.eq_9, evE.eq_10, evE.eq_11, evE.eq_12, evE.eq_13, evE.eq_14, evE.eq_15, evE.eq_16, evE.eq_17, evE.eq_18, evE.eq_19, evE.eq_20, evE.eq_21, evE.eq_22, evEs.eq_1, evEs.eq_2, evS.eq_1, evS.eq_2, evS.eq_3, evS.eq_4, evS.eq_5, evS.eq_6, evS.eq_7, evS.eq_8, evS.eq_9, evS.eq_10, evS.eq_11, evS.eq_12, evS.eq_13, evS.eq_14, evS.eq_15, evS.eq_16, evS.eq_17, evS.eq_18, evS.eq_19, evS.eq_20, evSs.eq_1, evSs.eq_2, TW.gt, TW.st, TW.sts, TW.start, List.map_cons, List.map_nil, List.length_cons, List.length_nil, List.length_map, List.replicate_succ, List.replicate_zero, Nat.reduceAdd, Nat.reduceSub, List.cons_append, List.nil_append, Tg.put, Tg.names, srcRes, srcOf, Sk.out, Sk.pure, wipeE, Op1.run, Op2.run, slc3, okI, okB, okA, isSc_i, isSc_b, isSc_s, isSc_n, isNon_i, isNon_b, isNon_l, isNon_n, eqS_ii, eqS_bb, inF_ints, ints_map, ints_mapf, bit, IDef.mut, kAt, ownK, if_true, if_false, ↓reduceIte, Bool.false_eq_true, decide_true, decide_false, Bool.not_true, Bool.not_false, true_and, and_true, and_self, Option.isSome_some, Option.isSome_none, eq_self, rds, nk, cut2, inF2, d1] <;> rfl, some (.int pre.length), ?_⟩
      have rz : rehang p q (decide (c % 2 = 1)) (x, y, l) = (x, y, l) := by simp only [rehang]; rw [if_neg z]
      simp only [List.length_append, List.length_cons, List.length_nil, Nat.zero_add, tk, List.map_append, hA, List.map_cons, List.map_nil, rz, rds]
      simp [li])
  simp only [List.length_range, List.take_length, List.drop_length, List.append_nil, evE.eq_1, evE.eq_2, evE.eq_3, evE.eq_4, evE.eq_5, evE.eq_6, evE.eq_7, evE.eq_8, evE.eq_9, evE.eq_10, evE.eq_11, evE.eq_12, evE.eq_13, evE.eq_14, evE.eq_15, evE.eq_16, evE.eq_17, evE.eq_18, evE.eq_19, evE.eq_20, evE.eq_21, evE.eq_22, evEs.eq_1, evEs.eq_2, evS.eq_1, evS.eq_2, evS.eq_3, evS.eq_4, evS.eq_5, evS.eq_6, evS.eq_7, evS.eq_8, evS.eq_9, evS.eq_10, evS.eq_11, evS.eq_12, evS.eq_13, evS.eq_14, evS.eq_15, evS.eq_16, evS.eq_17, evS.eq_18, evS.eq_19, evS.eq_20, evSs.eq_1, evSs.eq_2, TW.gt, TW.st, TW.sts, TW.start, List.map_cons, List.map_nil, List.length_cons, List.length_nil, List.length_map, List.replicate_succ, List.replicate_zero, Nat.reduceAdd, Nat.reduceSub, List.cons_append, List.nil_append, Tg.put, Tg.names, srcRes, srcOf, Sk.out, Sk.pure, wipeE, Op1.run, Op2.run, slc3, okI, okB, okA, isSc_i, isSc_b, isSc_s, isSc_n, isNon_i, isNon_b, isNon_l, isNon_n, eqS_ii, eqS_bb, inF_ints, ints_map, ints_mapf, bit, IDef.mut, kAt, ownK, if_true, if_false, ↓reduceIte, Bool.false_eq_true, decide_true, decide_false, Bool.not_true, Bool.not_false, true_and, and_true, and_self, Option.isSome_some, Option.isSome_none, eq_self] at ho
  refine ⟨_, _, ho.symm, T', ?_⟩
  intro r hr
  obtain ⟨⟨x, y, l⟩, mr, rfl⟩ := List.mem_map.mp hr
  have := hB _ mr
  unfold rehang
  by_cases z : p = x ∨ p = y
  · rw [if_pos z]
    by_cases t : c % 2 = 1 <;> simp [t] <;> exact this
  · rw [if_neg z]; exact this
end TW.M

namespace TW.M
open PySem
def insAt {α : Type} (xs : List α) (i : Nat) (x : α) : List α := xs.take i ++ x :: xs.drop i
theorem insAt_map {α β : Type} (f : α → β) (xs : List α) (i : Nat) (x : α) : (xs.map f).take i ++ f x :: (xs.map f).drop i = (insAt xs i x).map f := by
  simp [insAt, List.map_take, List.map_drop]
theorem insAt_perm {α : Type} (xs : List α) (i : Nat) (x : α) : (insAt xs i x).Perm (x :: xs) := by
  unfold insAt
  have := List.perm_middle (a := x) (l₁ := xs.take i) (l₂ := xs.drop i)
  rwa [List.take_append_drop] at this
theorem insAt_len {α : Type} (xs : List α) (i : Nat) (x : α) : (insAt xs i x).length = xs.length + 1 := by rw [(insAt_perm xs i x).length_eq]; rfl
theorem insAt_mem {α : Type} {xs : List α} {i : Nat} {x y : α} : y ∈ insAt xs i x ↔ y = x ∨ y ∈ xs := by rw [(insAt_perm xs i x).mem_iff]; simp
theorem plc_succ (k : Nat) : plc (k + 1) = plc k ++ [(k : Int)] := by simp [plc, List.range_succ]
/-- growing: roads among the first places -/
structure Grow (n : Nat) (B : Int) (names : List Int) (k : Nat) (rs : List Rd) : Prop where
  len : rs.length = k
  ok : ∀ r ∈ rs, r.1 ∈ names.take (k + 1) ∧ r.2.1 ∈ names.take (k + 1) ∧ r.1 ≠ r.2.1 ∧ 1 ≤ r.2.2 ∧ r.2.2 ≤ B
  conn : ∀ x ∈ names.take (k + 1), ∀ y ∈ names.take (k + 1), Rch rs [] x y
theorem Grow.push {n : Nat} {B : Int} {names : List Int} {k : Nat} {rs : List Rd} (h : Grow n B names k rs) (nd : names.Nodup) {o : Nat} {x y l : Int} (ho : o ≤ k) (hx : names[o]? = some x) (hy : names[k + 1]? = some y) (hl : 1 ≤ l ∧ l ≤ B) (i : Nat) {r : Rd} (hr : r = (x, y, l) ∨ r = (y, x, l)) : Grow n B names (k + 1) (insAt rs i r) := by
  have tk : names.take (k + 1 + 1) = names.take (k + 1) ++ [y] := by rw [List.take_succ, hy]; rfl
  have mx : x ∈ names.take (k + 1) := List.mem_of_getElem? (i := o) (by rw [List.getElem?_take]; rw [if_pos (by omega)]; exact hx)
  have ny : y ∉ names.take (k + 1) := fun m => by
    have h1 := nd
    rw [← List.take_append_drop (k + 1) names, List.nodup_append] at h1
    have m2 : y ∈ names.drop (k + 1) := List.mem_of_getElem? (i := 0) (by rw [List.getElem?_drop]; exact hy)
    exact h1.2.2 y m y m2 rfl
  have xy : x ≠ y := fun e => ny (e ▸ mx)
  have mono : ∀ u v, Rch rs [] u v → Rch (insAt rs i r) [] u v := fun u v z => z.mono fun a b c e => ⟨c, e.imp (fun m => insAt_mem.mpr (.inr m)) fun m => insAt_mem.mpr (.inr m)⟩
  have new : Rch (insAt rs i r) [] x y := .one (l := l) (by
    rcases hr with rfl | rfl
    · exact .inl (insAt_mem.mpr (.inl rfl))
    · exact .inr (insAt_mem.mpr (.inl rfl)))
  have tox : ∀ u ∈ names.take (k + 1 + 1), Rch (insAt rs i r) [] x u := fun u hu => by
    rw [tk, List.mem_append] at hu
    rcases hu with hu | hu
    · exact mono _ _ (h.conn x mx u hu)
    · simp at hu; subst hu; exact new
  refine ⟨by rw [insAt_len, h.len], fun s hs => ?_, fun u hu v hv => (tox u hu).symm.trans (tox v hv)⟩
  rw [tk]
  rcases insAt_mem.mp hs with rfl | hs
  · rcases hr with rfl | rfl
    · exact ⟨List.mem_append_left _ mx, by simp, xy, hl⟩
    · exact ⟨by simp, List.mem_append_left _ mx, Ne.symm xy, hl⟩
  · obtain ⟨a, b, c⟩ := h.ok s hs
    exact ⟨List.mem_append_left _ a, List.mem_append_left _ b, c⟩
theorem Grow.isT {n k : Nat} {B : Int} {names : List Int} {rs : List Rd} (h : Grow n B names k rs) (hk : k + 1 = n) (pm : names.Perm (plc n)) : IsT n rs ∧ Small B rs := by
  have ln := pm.length_eq
  rw [plc_len] at ln
  have tk : names.take (k + 1) = names := List.take_of_length_le (by omega)
  have mem : ∀ x, x ∈ names ↔ Pl n x := fun x => by rw [pm.mem_iff]; exact plc_mem
  refine ⟨⟨by rw [h.len]; exact hk, fun r hr => ?_, fun v hv => ?_⟩, fun r hr => (h.ok r hr).2.2.2.2⟩
  · have := h.ok r hr
    rw [tk, mem, mem] at this
    exact ⟨this.1, this.2.1, this.2.2.1, this.2.2.2.1⟩
  · exact h.conn 0 (by rw [tk, mem]; constructor <;> omega) v (by rw [tk, mem]; exact hv)
theorem rds_ins (rs : List Rd) (i : Nat) (r : Rd) : D.lst ((rs.map rd).take i ++ rd r :: (rs.map rd).drop i) = rds (insAt rs i r) := by rw [insAt_map]; rfl
theorem run_names_step : True := trivial
theorem cut_sub {α : Type} {xs : List α} {lo hi : Option Int} {x : α} (h : x ∈ TW.cut xs lo hi) : x ∈ xs := by
  unfold TW.cut at h
  exact List.mem_of_mem_drop (List.mem_of_mem_take h)
theorem run_law_tree {m : Nat} (hm : 3 ≤ m) {ns : List Int} (hz : ∀ z ∈ ns, Sz 1048577 z) :
    ∃ (n : Nat) (rs : List Rd), (sems defs m 10).run [.scr ns] = .ok (.tup [.int n, rds rs], []) ∧ IsT n rs ∧ Small big39 rs ∧ n ≤ 12 := by
  obtain ⟨m, rfl, hm1⟩ := suc_of hm
  suffices H : ∃ (ρ : Env) (n : Nat) (rs : List Rd), evSs (sems defs m) d__law_tree_10.body (start d__law_tree_10.ns [.scr ns]) = .rt (.tup [.int n, rds rs]) ρ ∧ IsT n rs ∧ Small big39 rs ∧ n ≤ 12 by
    obtain ⟨ρ, n, rs, e1, e2⟩ := H
    exact ⟨n, rs, run_rt (d := d__law_tree_10) rfl rfl rfl e1, e2⟩
  obtain ⟨o1, ho⟩ : ∃ o1, evSs (sems defs m) d__law_tree_10.body (start d__law_tree_10.ns [.scr ns]) = o1 := ⟨_, rfl⟩
  rw [ho]
  have c0 : (sems defs m 6).run [.scr ns, .int 0] = _ := run_cell (n := m) (by omega) ns 0
  have c1 : (sems defs m 6).run [.scr ns, .int 1] = _ := run_cell (n := m) (by omega) ns 1
  have s1 := cell_sz hz 1
  generalize cellAt ns 0 = c at *
  generalize cellAt ns 1 = sh at *
  have l4 : Nat.log2 4 < 9000 := by decide +kernel
  have na4 : (4 : Int).natAbs = 4 := rfl
  have z4 : (0 : Int) < 4 := by decide
  have z6 : (0 : Int) < 6 := by decide
  have z12 : (0 : Int) < 12 := by decide
  have z2 : (0 : Int) < 2 := by decide
  have z9 : (0 : Int) < 9 := by decide
  obtain ⟨n, hn, n1, n12⟩ : ∃ n : Nat, nth [D.int (1 + c / 4 % 12), .int (1 + c / 4 % 6), .int 12, .int (1 + c / 4 % 12)] (c % 4) = some (.int n) ∧ 1 ≤ n ∧ n ≤ 12 := by
    have h12 := Int.emod_nonneg (c / 4) (by decide : (12 : Int) ≠ 0)
    have h12' := Int.emod_lt_of_pos (c / 4) z12
    have h6 := Int.emod_nonneg (c / 4) (by decide : (6 : Int) ≠ 0)
    have h6' := Int.emod_lt_of_pos (c / 4) z6
    have : c % 4 = 0 ∨ c % 4 = 1 ∨ c % 4 = 2 ∨ c % 4 = 3 := by omega
    generalize c / 4 % 12 = u at *
    generalize c / 4 % 6 = v at *
    rcases this with e | e | e | e
    · exact ⟨(1 + u).toNat, by rw [e]; simp [nth, ixAt]; omega, by omega, by omega⟩
    · exact ⟨(1 + v).toNat, by rw [e]; simp [nth, ixAt]; omega, by omega, by omega⟩
    · exact ⟨12, by rw [e]; rfl, by omega, by omega⟩
    · exact ⟨(1 + u).toNat, by rw [e]; simp [nth, ixAt]; omega, by omega, by omega⟩
  have rg := rng0 n
  have b1 : ((n : Int) ≤ (lim : Nat) ∧ -big ≤ (n : Int)) := by unfold lim big; omega
  have b2 : n ≤ lim := by unfold lim; omega
  simp only [d__law_tree_10, evE.eq_1, evE.eq_2, evE.eq_3, evE.eq_4, evE.eq_5, evE.eq_6, evE.eq_7, evE.eq_8, evE.eq_9, evE.eq_10, evE.eq_11, evE.eq_12, evE.eq_13, evE.eq_14, evE.eq_15, evE.eq_16, evE.eq_17, evE.eq_18, evE.eq_19, evE.eq_20, evE.eq_21, evE.eq_22, evEs.eq_1, evEs.eq_2, evS.eq_1, evS.eq_2, evS.eq_3, evS.eq_4, evS.eq_5, evS.eq_6, evS.eq_7, evS.eq_8, evS.eq_9, evS.eq_10, evS.eq_11, evS.eq_12, evS.eq_13, evS.eq_14, evS.eq_15, evS.eq_16, evS.eq_17, evS.eq_18, evS.eq_19, evS.eq_20, evSs.eq_1, evSs.eq_2, TW.gt, TW.st, TW.sts, TW.start, List.map_cons, List.map_nil, List.length_cons, List.length_nil, List.length_map, List.replicate_succ, List.replicate_zero, Nat.reduceAdd, Nat.reduceSub, List.cons_append, List.nil_append, Tg.put, Tg.names, srcRes, srcOf, Sk.out, Sk.pure, wipeE, Op1.run, Op2.run, slc3, okI, okB, okA, isSc_i, isSc_b, isSc_s, isSc_n, isNon_i, isNon_b, isNon_l, isNon_n, eqS_ii, eqS_bb, inF_ints, ints_map, ints_mapf, bit, IDef.mut, kAt, ownK, if_true, if_false, ↓reduceIte, Bool.false_eq_true, decide_true, decide_false, Bool.not_true, Bool.not_false, true_and, and_true, and_self, Option.isSome_some, Option.isSome_none, eq_self, c0, c1, na4, l4, z4, z6, z12, hn, rg, b1] at ho
  -- the names
  generalize hF : forGo _ _ _ _ = o at ho
  obtain ⟨ρ, rfl, names, a, rfl, pm⟩ := for_inv hF (fun k : Nat => D.int k) (List.range n) (fun pre ρ => ∃ (names : List Int) (a : Option D), ρ = [some (.scr ns), some (.int c), some (.int n), some (.int sh), some (li names), a, none, none, none, none] ∧ names.Perm (plc pre.length)) (by simp [plc]) ⟨[], _, rfl, by simp [plc]⟩ (by
    rintro pre k r ρ e ⟨names, a, rfl, pm⟩
    refine ⟨_, rfl, ?_⟩
    obtain ⟨rfl, hk⟩ := range_split e
    have ln := pm.length_eq
    rw [plc_len] at ln
    have sk : Sz 10 (pre.length : Int) := Sz.small (by omega) (by omega)
    have k1 : mulOk pre.length pre.length = true := sk.ok sk (by decide)
    have mx := run_mix (n := m) (by omega) ((s1.add (sk.mul sk) (k := 1048577) (by decide) (by decide)).mono (m := 2000000) (by decide)) (Sz.mono (Sz.small (i := 3) (by decide) (by decide)) (by decide))
    have zp : (0 : Int) < (pre.length : Int) + 1 := by omega
    have u1 := Int.emod_nonneg (mix (sh + pre.length * pre.length) 3) (by omega : (pre.length : Int) + 1 ≠ 0)
    have u2 := Int.emod_lt_of_pos (mix (sh + pre.length * pre.length) 3) zp
    generalize hu : mix (sh + pre.length * pre.length) 3 % ((pre.length : Int) + 1) = u at *
    have cnd : (names.length < lim ∧ 0 ≤ u ∧ u ≤ (names.length : Int)) := ⟨by unfold lim; omega, u1, by omega⟩
    refine ⟨_, by simp only [evE.eq_1, evE.eq_2, evE.eq_3, evE.eq_4, evE.eq_5, evE.eq_6, evE.eq_7, evE.eq_8, evE.eq_9, evE.eq_10, evE.eq_11, evE.eq_12, evE.eq_13, evE.eq_14, evE.eq_15, evE.eq_16, evE.eq_17, evE.eq_18, evE.eq_19, evE.eq_20, evE.eq_21, evE.eq_22, evEs.eq_1, evEs.eq_2, evS.eq_1, evS.eq_2, evS.eq_3, evS.eq_4, evS.eq_5, evS.eq_6, evS.eq_7, evS.eq_8, evS.eq_9, evS.eq_10, evS.eq_11, evS.eq_12, evS.eq_13, evS.eq_14, evS.eq_15, evS.eq_16, evS.eq_17, evS.eq_18, evS.eq_19, evS.eq_20, evSs.eq_1, evSs.eq_2, TW.gt, TW.st, TW.sts, TW.start, List.map_cons, List.map_nil, List.length_cons, List.length_nil, List.length_map, List.replicate_succ, List.replicate_zero, Nat.reduceAdd, Nat.reduceSub, List.cons_append, List.nil_append, Tg.put, Tg.names, srcRes, srcOf, Sk.out, Sk.pure, wipeE, Op1.run, Op2.run, slc3, okI, okB, okA, isSc_i, isSc_b, isSc_s, isSc_n, isNon_i, isNon_b, isNon_l, isNon_n, eqS_ii, eqS_bb, inF_ints, ints_map, ints_mapf, bit, IDef.mut, kAt, ownK, if_true, if_false, ↓reduceIte, Bool.false_eq_true, decide_true, decide_false, Bool.not_true, Bool.not_false, true_and, and_true, and_self, Option.isSome_some, Option.isSome_none, eq_self, li, k1, mx, zp, hu, cnd] <;> rfl, insAt names u.toNat pre.length, _, by rw [insAt_map]; rfl, ?_⟩
    rw [List.length_append, List.length_singleton, plc_succ]
    exact (insAt_perm _ _ _).trans ((List.Perm.cons _ pm).trans (List.perm_append_singleton _ _).symm))
  rw [List.length_range] at pm
  have ln := pm.length_eq
  rw [plc_len] at ln
  have nnd : names.Nodup := (pm.nodup_iff).mpr plc_nd
  -- the roads
  have rg1 := rng1 n
  have b3 : ((n : Int) ≤ (lim : Nat) ∧ -big ≤ (n : Int) ∧ (-1000 : Int) ≤ 1 ∧ (1 : Int) ≤ (lim : Nat)) := by unfold lim big; omega
  simp only [evE.eq_1, evE.eq_2, evE.eq_3, evE.eq_4, evE.eq_5, evE.eq_6, evE.eq_7, evE.eq_8, evE.eq_9, evE.eq_10, evE.eq_11, evE.eq_12, evE.eq_13, evE.eq_14, evE.eq_15, evE.eq_16, evE.eq_17, evE.eq_18, evE.eq_19, evE.eq_20, evE.eq_21, evE.eq_22, evEs.eq_1, evEs.eq_2, evS.eq_1, evS.eq_2, evS.eq_3, evS.eq_4, evS.eq_5, evS.eq_6, evS.eq_7, evS.eq_8, evS.eq_9, evS.eq_10, evS.eq_11, evS.eq_12, evS.eq_13, evS.eq_14, evS.eq_15, evS.eq_16, evS.eq_17, evS.eq_18, evS.eq_19, evS.eq_20, evSs.eq_1, evSs.eq_2, TW.gt, TW.st, TW.sts, TW.start, List.map_cons, List.map_nil, List.length_cons, List.length_nil, List.length_map, List.replicate_succ, List.replicate_zero, Nat.reduceAdd, Nat.reduceSub, List.cons_append, List.nil_append, Tg.put, Tg.names, srcRes, srcOf, Sk.out, Sk.pure, wipeE, Op1.run, Op2.run, slc3, okI, okB, okA, isSc_i, isSc_b, isSc_s, isSc_n, isNon_i, isNon_b, isNon_l, isNon_n, eqS_ii, eqS_bb, inF_ints, ints_map, ints_mapf, bit, IDef.mut, kAt, ownK, if_true, if_false, ↓reduceIte, Bool.false_eq_true, decide_true, decide_false, Bool.not_true, Bool.not_false, true_and, and_true, and_self, Option.isSome_some, Option.isSome_none, eq_self, rg1, b3] at ho
  generalize hF2 : forGo _ _ _ _ = o at ho
  obtain ⟨ρ, rfl, rs, a2, a3, rfl, gr⟩ := for_inv hF2 (fun k : Nat => D.int ((k : Int) + 1)) (List.range (n - 1)) (fun pre ρ => ∃ (rs : List Rd) (a b : Option D), ρ = [some (.scr ns), some (.int c), some (.int n), some (.int sh), some (li names), a, some (rds rs), none, b, none] ∧ Grow n big39 names pre.length rs) (by simp) ⟨[], _, _, rfl, rfl, by simp, fun x hx y hy => by
      have : names.take 1 = [names[0]'(by omega)] := by
        rw [List.take_one]; simp [List.head?_eq_getElem?, List.getElem?_eq_getElem (by omega : 0 < names.length)]
      simp only [List.length_nil, Nat.zero_add, this, List.mem_singleton] at hx hy
      rw [hx, hy]; exact .base⟩ (by
    rintro pre k r ρ e ⟨rs, a, b, rfl, gr⟩
    refine ⟨_, rfl, ?_⟩
    obtain ⟨rfl, hk⟩ := range_split e
    have o1 := run_older (n := m) (by omega) (c := sh) (k := (pre.length : Int) + 1) (s1.mono (by decide)) (by omega) (by omega)
    have o2 := run_size (n := m) (by omega) (c := sh) (k := (pre.length : Int) + 1) (s1.mono (by decide)) (by omega) (by omega)
    obtain ⟨oi1, oi2⟩ := older_in (c := sh) (k := (pre.length : Int) + 1) (by omega)
    have si := size_in sh ((pre.length : Int) + 1)
    generalize older sh ((pre.length : Int) + 1) = od at *
    generalize size sh ((pre.length : Int) + 1) = sz at *
    obtain ⟨od, rfl⟩ : ∃ j : Nat, od = j := ⟨od.toNat, by omega⟩
    obtain ⟨x, hx⟩ : ∃ x, names[od]? = some x := ⟨_, List.getElem?_eq_getElem (by omega)⟩
    obtain ⟨y, hy⟩ : ∃ y, names[pre.length + 1]? = some y := ⟨_, List.getElem?_eq_getElem (by omega)⟩
    have nx : nth (names.map D.int) (od : Int) = some (.int x) := by rw [nth_nat, List.getElem?_map, hx]; rfl
    have ny : nth (names.map D.int) ((pre.length : Int) + 1) = some (.int y) := by
      rw [show (pre.length : Int) + 1 = ((pre.length + 1 : Nat) : Int) by simp, nth_nat, List.getElem?_map, hy]; rfl
    have sk : Sz 10 ((pre.length : Int) + 1) := Sz.small (by omega) (by omega)
    have sa := ((s1.add sk (k := 1048577) (by decide) (by decide)).mono (m := 2000000) (by decide))
    have m4 := run_mix (n := m) (by omega) sa (Sz.mono (Sz.small (i := 4) (by decide) (by decide)) (by decide))
    have m5 := run_mix (n := m) (by omega) sa (Sz.mono (Sz.small (i := 5) (by decide) (by decide)) (by decide))
    have zp : (0 : Int) < (pre.length : Int) + 1 := by omega
    have u1 := Int.emod_nonneg (mix (sh + ((pre.length : Int) + 1)) 5) (by omega : (pre.length : Int) + 1 ≠ 0)
    have u2 := Int.emod_lt_of_pos (mix (sh + ((pre.length : Int) + 1)) 5) zp
    generalize hu : mix (sh + ((pre.length : Int) + 1)) 5 % ((pre.length : Int) + 1) = u at *
    have gl := gr.len
    have cnd : (rs.length < lim ∧ 0 ≤ u ∧ u ≤ (rs.length : Int)) := ⟨by unfold lim; omega, u1, by omega⟩
    have l3 : 0 + 1 + 1 + (0 + 1) ≤ lim := by unfold lim; omega
    have sc3 : ∀ a b l : Int, ([D.int a, .int b, .int l]).all D.isSc = true := fun a b l => rfl
    by_cases ev : mix (sh + ((pre.length : Int) + 1)) 4 % 2 = 0
    · have d1 := decide_eq_true ev
      refine ⟨_, by simp only [evE.eq_1, evE.eq_2, evE.eq_3, evE.eq_4, evE.eq_5, evE.eq_6, evE.eq_7, evE.eq_8, evE.eq_9, evE.eq_10, evE.eq_11, evE.eq_12, evE.eq_13, evE.eq_14, evE.eq_15, evE.eq_16, evE.eq_17, evE.eq_18, evE.eq_19, evE.eq_20, evE.eq_21, evE.eq_22, evEs.eq_1, evEs.eq_2, evS.eq_1, evS.eq_2, evS.eq_3, evS.eq_4, evS.eq_5, evS.eq_6, evS.eq_7, evS.eq_8, evS.eq_9, evS.eq_10, evS.eq_11, evS.eq_12, evS.eq_13, evS.eq_14, evS.eq_15, evS.eq_16, evS.eq_17, evS.eq_18, evS.eq_19, evS.eq_20, evSs.eq_1, evSs.eq_2, TW.gt, TW.st, TW.sts, TW.start, List.map_cons, List.map_nil, List.length_cons, List.length_nil, List.length_map, List.replicate_succ, List.replicate_zero, Nat.reduceAdd, Nat.reduceSub, List.cons_append, List.nil_append, Tg.put, Tg.names, srcRes, srcOf, Sk.out, Sk.pure, wipeE, Op1.run, Op2.run, slc3, okI, okB, okA, isSc_i, isSc_b, isSc_s, isSc_n, isNon_i, isNon_b, isNon_l, isNon_n, eqS_ii, eqS_bb, inF_ints, ints_map, ints_mapf, bit, IDef.mut, kAt, ownK, if_true, if_false, ↓reduceIte, Bool.false_eq_true, decide_true, decide_false, Bool.not_true, Bool.not_false, true_and, and_true, and_self, Option.isSome_some, Option.isSome_none, eq_self, li, rds, o1, o2, nx, ny, m4, m5, z2, d1, zp, hu, cnd, List.reverse_cons, List.reverse_nil, l3, sc3] <;> rfl, insAt rs u.toNat (y, x, sz), some (.int ((pre.length : Int) + 1)), some (.lst [.int y, .int x]), ?_, ?_⟩
      · exact congrArg (fun z => [some (D.scr ns), some (.int c), some (.int n), some (.int sh), some (li names), some (.int ((pre.length : Int) + 1)), some z, none, some (.lst [.int y, .int x]), none]) (rds_ins rs u.toNat (y, x, sz))
      · rw [List.length_append, List.length_singleton]
        exact gr.push nnd (by omega) hx hy si _ (.inr rfl)
    · have d1 := decide_eq_false ev
      refine ⟨_, by simp only [evE.eq_1, evE.eq_2, evE.eq_3, evE.eq_4, evE.eq_5, evE.eq_6, evE.eq_7, evE.eq_8, evE.eq_9, evE.eq_10, evE.eq_11, evE.eq_12, evE.eq_13, evE.eq_14, evE.eq_15, evE.eq_16, evE.eq_17, evE.eq_18, evE.eq_19, evE.eq_20, evE.eq_21, evE.eq_22, evEs.eq_1, evEs.eq_2, evS.eq_1, evS.eq_2, evS.eq_3, evS.eq_4, evS.eq_5, evS.eq_6, evS.eq_7, evS.eq_8, evS.eq_9, evS.eq_10, evS.eq_11, evS.eq_12, evS.eq_13, evS.eq_14, evS.eq_15, evS.eq_16, evS.eq_17, evS.eq_18, evS.eq_19, evS.eq_20, evSs.eq_1, evSs.eq_2, TW.gt, TW.st, TW.sts, TW.start, List.map_cons, List.map_nil, List.length_cons, List.length_nil, List.length_map, List.replicate_succ, List.replicate_zero, Nat.reduceAdd, Nat.reduceSub, List.cons_append, List.nil_append, Tg.put, Tg.names, srcRes, srcOf, Sk.out, Sk.pure, wipeE, Op1.run, Op2.run, slc3, okI, okB, okA, isSc_i, isSc_b, isSc_s, isSc_n, isNon_i, isNon_b, isNon_l, isNon_n, eqS_ii, eqS_bb, inF_ints, ints_map, ints_mapf, bit, IDef.mut, kAt, ownK, if_true, if_false, ↓reduceIte, Bool.false_eq_true, decide_true, decide_false, Bool.not_true, Bool.not_false, true_and, and_true, and_self, Option.isSome_some, Option.isSome_none, eq_self, li, rds, o1, o2, nx, ny, m4, m5, z2, d1, zp, hu, cnd, List.reverse_cons, List.reverse_nil, l3, sc3] <;> rfl, insAt rs u.toNat (x, y, sz), some (.int ((pre.length : Int) + 1)), some (.lst [.int x, .int y]), ?_, ?_⟩
      · exact congrArg (fun z => [some (D.scr ns), some (.int c), some (.int n), some (.int sh), some (li names), some (.int ((pre.length : Int) + 1)), some z, none, some (.lst [.int x, .int y]), none]) (rds_ins rs u.toNat (x, y, sz))
      · rw [List.length_append, List.length_singleton]
        exact gr.push nnd (by omega) hx hy si _ (.inl rfl))
  rw [List.length_range] at gr
  obtain ⟨it, sm⟩ := gr.isT (by omega) pm
  -- the changes
  have z3 : slc3 (.scr ns) (.int 3) (.int 63) = .ok (.lst ((TW.cut ns (some 3) (some 63)).map .int)) := rfl
  simp only [evE.eq_1, evE.eq_2, evE.eq_3, evE.eq_4, evE.eq_5, evE.eq_6, evE.eq_7, evE.eq_8, evE.eq_9, evE.eq_10, evE.eq_11, evE.eq_12, evE.eq_13, evE.eq_14, evE.eq_15, evE.eq_16, evE.eq_17, evE.eq_18, evE.eq_19, evE.eq_20, evE.eq_21, evE.eq_22, evEs.eq_1, evEs.eq_2, evS.eq_1, evS.eq_2, evS.eq_3, evS.eq_4, evS.eq_5, evS.eq_6, evS.eq_7, evS.eq_8, evS.eq_9, evS.eq_10, evS.eq_11, evS.eq_12, evS.eq_13, evS.eq_14, evS.eq_15, evS.eq_16, evS.eq_17, evS.eq_18, evS.eq_19, evS.eq_20, evSs.eq_1, evSs.eq_2, TW.gt, TW.st, TW.sts, TW.start, List.map_cons, List.map_nil, List.length_cons, List.length_nil, List.length_map, List.replicate_succ, List.replicate_zero, Nat.reduceAdd, Nat.reduceSub, List.cons_append, List.nil_append, Tg.put, Tg.names, srcRes, srcOf, Sk.out, Sk.pure, wipeE, Op1.run, Op2.run, slc3, okI, okB, okA, isSc_i, isSc_b, isSc_s, isSc_n, isNon_i, isNon_b, isNon_l, isNon_n, eqS_ii, eqS_bb, inF_ints, ints_map, ints_mapf, bit, IDef.mut, kAt, ownK, if_true, if_false, ↓reduceIte, Bool.false_eq_true, decide_true, decide_false, Bool.not_true, Bool.not_false, true_and, and_true, and_self, Option.isSome_some, Option.isSome_none, eq_self, z3] at ho
  generalize hF3 : forGo _ _ _ _ = o at ho
  obtain ⟨ρ, rfl, rs', a4, a5, a6, a7, rfl, it', sm'⟩ := for_inv hF3 D.int (TW.cut ns (some 3) (some 63)) (fun pre ρ => ∃ (rs : List Rd) (a b e f : Option D), ρ = [some (.scr ns), some (.int c), some (.int n), some (.int sh), some (li names), a, some (rds rs), b, e, f] ∧ IsT n rs ∧ Small big39 rs) rfl ⟨rs, _, _, _, _, rfl, it, sm⟩ (by
    rintro pre x r ρ e ⟨rs, a, b, e', f, rfl, it, sm⟩
    refine ⟨_, rfl, ?_⟩
    have sx : Sz 1048577 x := hz x (cut_sub (by rw [e]; simp))
    by_cases one : n = 1
    · have d0 : decide ((1 : Int) < (n : Int)) = false := decide_eq_false (by omega)
      exact ⟨_, by simp only [evE.eq_1, evE.eq_2, evE.eq_3, evE.eq_4, evE.eq_5, evE.eq_6, evE.eq_7, evE.eq_8, evE.eq_9, evE.eq_10, evE.eq_11, evE.eq_12, evE.eq_13, evE.eq_14, evE.eq_15, evE.eq_16, evE.eq_17, evE.eq_18, evE.eq_19, evE.eq_20, evE.eq_21, evE.eq_22, evEs.eq_1, evEs.eq_2, evS.eq_1, evS.eq_2, evS.eq_3, evS.eq_4, evS.eq_5, evS.eq_6, evS.eq_7, evS.eq_8, evS.eq_9, evS.eq_10, evS.eq_11, evS.eq_12, evS.eq_13, evS.eq_14, evS.eq_15, evS.eq_16, evS.eq_17, evS.eq_18, evS.eq_19, evS.eq_20, evSs.eq_1, evSs.eq_2, TW.gt, TW.st, TW.sts, TW.start, List.map_cons, List.map_nil, List.length_cons, List.length_nil, List.length_map, List.replicate_succ, List.replicate_zero, Nat.reduceAdd, Nat.reduceSub, List.cons_append, List.nil_append, Tg.put, Tg.names, srcRes, srcOf, Sk.out, Sk.pure, wipeE, Op1.run, Op2.run, slc3, okI, okB, okA, isSc_i, isSc_b, isSc_s, isSc_n, isNon_i, isNon_b, isNon_l, isNon_n, eqS_ii, eqS_bb, inF_ints, ints_map, ints_mapf, bit, IDef.mut, kAt, ownK, if_true, if_false, ↓reduceIte, Bool.false_eq_true, decide_true, decide_false, Bool.not_true, Bool.not_false, true_and, and_true, and_self, Option.isSome_some, Option.isSome_none, eq_self, d0] <;> rfl, rs, _, _, _, _, rfl, it, sm⟩
    have d0 : decide ((1 : Int) < (n : Int)) = true := decide_eq_true (by omega)
    have na2 : (2 : Int).natAbs = 2 := rfl
    have l2 : Nat.log2 2 < 9000 := by decide +kernel
    by_cases ev : x % 2 = 0
    · have d1 := decide_eq_true ev
      have d2 : decide (x % 2 = 1) = false := decide_eq_false (by omega)
      obtain ⟨rs', hr, it', sm'⟩ := run_hung (m := m) (by omega) it (by omega) n12 sm (c := x / 2) ((sx.div (by decide)).mono (by decide))
      exact ⟨_, by simp only [evE.eq_1, evE.eq_2, evE.eq_3, evE.eq_4, evE.eq_5, evE.eq_6, evE.eq_7, evE.eq_8, evE.eq_9, evE.eq_10, evE.eq_11, evE.eq_12, evE.eq_13, evE.eq_14, evE.eq_15, evE.eq_16, evE.eq_17, evE.eq_18, evE.eq_19, evE.eq_20, evE.eq_21, evE.eq_22, evEs.eq_1, evEs.eq_2, evS.eq_1, evS.eq_2, evS.eq_3, evS.eq_4, evS.eq_5, evS.eq_6, evS.eq_7, evS.eq_8, evS.eq_9, evS.eq_10, evS.eq_11, evS.eq_12, evS.eq_13, evS.eq_14, evS.eq_15, evS.eq_16, evS.eq_17, evS.eq_18, evS.eq_19, evS.eq_20, evSs.eq_1, evSs.eq_2, TW.gt, TW.st, TW.sts, TW.start, List.map_cons, List.map_nil, List.length_cons, List.length_nil, List.length_map, List.replicate_succ, List.replicate_zero, Nat.reduceAdd, Nat.reduceSub, List.cons_append, List.nil_append, Tg.put, Tg.names, srcRes, srcOf, Sk.out, Sk.pure, wipeE, Op1.run, Op2.run, slc3, okI, okB, okA, isSc_i, isSc_b, isSc_s, isSc_n, isNon_i, isNon_b, isNon_l, isNon_n, eqS_ii, eqS_bb, inF_ints, ints_map, ints_mapf, bit, IDef.mut, kAt, ownK, if_true, if_false, ↓reduceIte, Bool.false_eq_true, decide_true, decide_false, Bool.not_true, Bool.not_false, true_and, and_true, and_self, Option.isSome_some, Option.isSome_none, eq_self, d0, d1, d2, z2, na2, l2, hr] <;> rfl, rs', _, _, _, _, rfl, it', sm'⟩
    · have d1 := decide_eq_false ev
      have d2 : decide (x % 2 = 1) = true := decide_eq_true (by omega)
      have m6 := run_mix (n := m) (by omega) (sx.mono (m := 2000000) (by decide)) (Sz.mono (Sz.small (i := 6) (by decide) (by decide)) (by decide))
      have m7 := run_mix (n := m) (by omega) (sx.mono (m := 2000000) (by decide)) (Sz.mono (Sz.small (i := 7) (by decide) (by decide)) (by decide))
      have n1' : (0 : Int) < (n : Int) - 1 := by omega
      have u1 := Int.emod_nonneg (mix x 6) (by omega : (n : Int) - 1 ≠ 0)
      have u2 := Int.emod_lt_of_pos (mix x 6) n1'
      generalize hux : mix x 6 % ((n : Int) - 1) = u at *
      obtain ⟨u, rfl⟩ : ∃ j : Nat, u = j := ⟨u.toNat, by omega⟩
      have hl := it.len
      have hu : u < rs.length := by omega
      obtain ⟨A, ⟨x1, y1, l1⟩, C, rfl, hA⟩ : ∃ A r C, rs = A ++ r :: C ∧ A.length = u := ⟨rs.take u, rs[u], rs.drop (u + 1), by
        rw [← List.drop_eq_getElem_cons hu, List.take_append_drop], by simp; omega⟩
      have nu : nth ((A ++ (x1, y1, l1) :: C).map rd) (u : Int) = some (.lst [.int x1, .int y1, .int l1]) := by
        rw [nth_nat, List.getElem?_map, List.getElem?_append_right (by omega)]; simp [hA, rd]
      have gu : ((A ++ (x1, y1, l1) :: C).map rd)[u]? = some (.lst [.int x1, .int y1, .int l1]) := by rw [← nth_nat]; exact nu
      have ix : ixAt ((A ++ (x1, y1, l1) :: C)).length (u : Int) = some u := by unfold ixAt; rw [if_pos (by omega), if_pos (by omega)]; simp
      have ix2 : ixAt (0 + 1 + 1 + 1) 2 = some 2 := rfl
      have ix3 : ixAt 3 2 = some 2 := rfl
      have p39 : (10 : Int) ^ ((39 : Int).toNat) = big39 := by decide
      have c39 : ((0 : Int) ≤ 39 ∧ (39 : Int) ≤ 1000 ∧ (10 : Int).natAbs < 1000000) := by decide
      have bp : (0 : Int) < big39 := by decide
      have w1 := Int.emod_nonneg (l1 + mix x 7 % 9) (by decide : big39 ≠ 0)
      have w2 := Int.emod_lt_of_pos (l1 + mix x 7 % 9) bp
      generalize hw : (l1 + mix x 7 % 9) % big39 = w at *
      refine ⟨_, by simp only [evE.eq_1, evE.eq_2, evE.eq_3, evE.eq_4, evE.eq_5, evE.eq_6, evE.eq_7, evE.eq_8, evE.eq_9, evE.eq_10, evE.eq_11, evE.eq_12, evE.eq_13, evE.eq_14, evE.eq_15, evE.eq_16, evE.eq_17, evE.eq_18, evE.eq_19, evE.eq_20, evE.eq_21, evE.eq_22, evEs.eq_1, evEs.eq_2, evS.eq_1, evS.eq_2, evS.eq_3, evS.eq_4, evS.eq_5, evS.eq_6, evS.eq_7, evS.eq_8, evS.eq_9, evS.eq_10, evS.eq_11, evS.eq_12, evS.eq_13, evS.eq_14, evS.eq_15, evS.eq_16, evS.eq_17, evS.eq_18, evS.eq_19, evS.eq_20, evSs.eq_1, evSs.eq_2, TW.gt, TW.st, TW.sts, TW.start, List.map_cons, List.map_nil, List.length_cons, List.length_nil, List.length_map, List.replicate_succ, List.replicate_zero, Nat.reduceAdd, Nat.reduceSub, List.cons_append, List.nil_append, Tg.put, Tg.names, srcRes, srcOf, Sk.out, Sk.pure, wipeE, Op1.run, Op2.run, slc3, okI, okB, okA, isSc_i, isSc_b, isSc_s, isSc_n, isNon_i, isNon_b, isNon_l, isNon_n, eqS_ii, eqS_bb, inF_ints, ints_map, ints_mapf, bit, IDef.mut, kAt, ownK, if_true, if_false, ↓reduceIte, Bool.false_eq_true, decide_true, decide_false, Bool.not_true, Bool.not_false, true_and, and_true, and_self, Option.isSome_some, Option.isSome_none, eq_self, d0, d1, d2, z2, na2, l2, m6, m7, n1', hux, rds, nu, gu, ix, ix2, ix3, nth3_2, z9, p39, c39, bp, hw] <;> rfl, A ++ (x1, y1, 1 + w) :: C, a, some (.int x), e', some (.int u), ?_, isT_len it (by omega), ?_⟩
      · have : ((A ++ (x1, y1, l1) :: C).map rd).set u (D.lst ([D.int x1, D.int y1, D.int l1].set 2 (D.int (1 + w)))) = (A ++ (x1, y1, 1 + w) :: C).map rd := by
          rw [List.map_append, List.set_append_right _ _ (by simp; omega)]
          simp [hA, rd]
        rw [this]; rfl
      · intro r hr
        simp only [List.mem_append, List.mem_cons] at hr
        rcases hr with hr | rfl | hr
        · exact sm r (by simp [hr])
        · simp; omega
        · exact sm r (by simp [hr]))
  simp only [evE.eq_1, evE.eq_2, evE.eq_3, evE.eq_4, evE.eq_5, evE.eq_6, evE.eq_7, evE.eq_8, evE.eq_9, evE.eq_10, evE.eq_11, evE.eq_12, evE.eq_13, evE.eq_14, evE.eq_15, evE.eq_16, evE.eq_17, evE.eq_18, evE.eq_19, evE.eq_20, evE.eq_21, evE.eq_22, evEs.eq_1, evEs.eq_2, evS.eq_1, evS.eq_2, evS.eq_3, evS.eq_4, evS.eq_5, evS.eq_6, evS.eq_7, evS.eq_8, evS.eq_9, evS.eq_10, evS.eq_11, evS.eq_12, evS.eq_13, evS.eq_14, evS.eq_15, evS.eq_16, evS.eq_17, evS.eq_18, evS.eq_19, evS.eq_20, evSs.eq_1, evSs.eq_2, TW.gt, TW.st, TW.sts, TW.start, List.map_cons, List.map_nil, List.length_cons, List.length_nil, List.length_map, List.replicate_succ, List.replicate_zero, Nat.reduceAdd, Nat.reduceSub, List.cons_append, List.nil_append, Tg.put, Tg.names, srcRes, srcOf, Sk.out, Sk.pure, wipeE, Op1.run, Op2.run, slc3, okI, okB, okA, isSc_i, isSc_b, isSc_s, isSc_n, isNon_i, isNon_b, isNon_l, isNon_n, eqS_ii, eqS_bb, inF_ints, ints_map, ints_mapf, bit, IDef.mut, kAt, ownK, if_true, if_false, ↓reduceIte, Bool.false_eq_true, decide_true, decide_false, Bool.not_true, Bool.not_false, true_and, and_true, and_self, Option.isSome_some, Option.isSome_none, eq_self] at ho
  exact ⟨_, n, rs', ho.symm, it', sm', n12⟩
end TW.M

namespace TW.M
open PySem
section
variable {n : Nat} {rs : List Rd} {d : Int → Int → Int}
structure Rel (n : Nat) (rs : List Rd) (d : Int → Int → Int) (s : Int) (vs : List Int) : Prop where
  nd : vs.Nodup
  pl : ∀ v ∈ vs, Pl n v
  st : s ∈ vs
  cl : ∀ v ∈ vs, v ≠ s → ∀ p l, gE rs v p l → d v s = l + d p s → p ∈ vs
theorem Rel.push (T : Tr n rs d) {s : Int} {vs : List Int} (h : Rel n rs d s vs) {a b l : Int} (e : gE rs a b l) (ha : a ∈ vs) (hb : b ∉ vs) : d s b = d s a + l ∧ Rel n rs d s (vs ++ [b]) := by
  obtain ⟨pa, pb, ab, hl, _⟩ := T.tm.e _ _ _ e
  have hs := h.pl s h.st
  have key : d b s = l + d a s := by
    rcases T.tm.side a b l s e hs with k | k
    · refine absurd (h.cl a ha (fun z => ?_) b l e k) hb
      have := T.tm.self s hs
      have := T.tm.nn pb hs
      rw [z] at k; omega
    · exact k
  have c1 := T.tm.symm b s
  have c2 := T.tm.symm a s
  refine ⟨by omega, ?_, fun v hv => ?_, List.mem_append_left _ h.st, fun v hv ne p m g k => ?_⟩
  · rw [List.nodup_append]
    exact ⟨h.nd, by simp, fun x hx y hy z => by simp at hy; subst hy; exact hb (z ▸ hx)⟩
  · rcases List.mem_append.mp hv with hv | hv
    · exact h.pl v hv
    · simp at hv; subst hv; exact pb
  · rcases List.mem_append.mp hv with hv | hv
    · exact List.mem_append_left _ (h.cl v hv ne p m g k)
    · simp at hv; subst hv
      have := T.tm.uniq g (T.tm.esym _ _ _ e) hs k key
      subst this
      exact List.mem_append_left _ ha
theorem Rel.len {s : Int} {vs : List Int} (h : Rel n rs d s vs) : vs.length ≤ n := by
  have := len_of_sub h.nd (l2 := plc n) fun v hv => plc_mem.mpr (h.pl v hv)
  rwa [plc_len] at this
theorem look_fksI {s v : Int} {vs : List Int} : (look (fks d s vs) v).isSome = decide (v ∈ vs) := by
  by_cases h : v ∈ vs
  · rw [look_fks h]; simp [h]
  · rw [look_none (by simpa [fks] using h)]; simp [h]
theorem put_fks {s v : Int} {vs : List Int} (h : v ∉ vs) : put (fks d s vs) v (.int (d s v)) = fks d s (vs ++ [v]) := by
  rw [put_new (by simpa [fks] using h)]
  simp [fks]
theorem run_law_farsA (T : Tr n rs d) (h12 : n ≤ 12) {m : Nat} (hm : 1 ≤ m) {s : Int} (hs : Pl n s) : (sems defs m 11).run [.int n, rds rs, .int s] = .ok (li ((plc n).map fun v => d s v), []) := by
  obtain ⟨m, rfl, hm1⟩ := suc_of hm
  suffices H : ∃ (ρ : Env), evSs (sems defs m) d__law_fars_11.body (start d__law_fars_11.ns [.int n, rds rs, .int s]) = .rt (li ((plc n).map fun v => d s v)) ρ by
    obtain ⟨ρ, e1⟩ := H
    exact run_rt (d := d__law_fars_11) rfl rfl rfl e1
  obtain ⟨o1, ho⟩ : ∃ o1, evSs (sems defs m) d__law_fars_11.body (start d__law_fars_11.ns [.int n, rds rs, .int s]) = o1 := ⟨_, rfl⟩
  rw [ho]
  have rg := rng0 n
  have b1 : ((n : Int) ≤ (lim : Nat) ∧ -big ≤ (n : Int)) := by unfold lim big; omega
  have b2 : n ≤ lim := by unfold lim; omega
  have d0 : [(s, D.int 0)] = fks d s [s] := by simp [fks, T.tm.self s hs]
  simp only [d__law_fars_11, evE.eq_1, evE.eq_2, evE.eq_3, evE.eq_4, evE.eq_5, evE.eq_6, evE.eq_7, evE.eq_8, evE.eq_9, evE.eq_10, evE.eq_11, evE.eq_12, evE.eq_13, evE.eq_14, evE.eq_15, evE.eq_16, evE.eq_17, evE.eq_18, evE.eq_19, evE.eq_20, evE.eq_21, evE.eq_22, evEs.eq_1, evEs.eq_2, evS.eq_1, evS.eq_2, evS.eq_3, evS.eq_4, evS.eq_5, evS.eq_6, evS.eq_7, evS.eq_8, evS.eq_9, evS.eq_10, evS.eq_11, evS.eq_12, evS.eq_13, evS.eq_14, evS.eq_15, evS.eq_16, evS.eq_17, evS.eq_18, evS.eq_19, evS.eq_20, evSs.eq_1, evSs.eq_2, TW.gt, TW.st, TW.sts, TW.start, List.map_cons, List.map_nil, List.length_cons, List.length_nil, List.length_map, List.replicate_succ, List.replicate_zero, Nat.reduceAdd, Nat.reduceSub, List.cons_append, List.nil_append, Tg.put, Tg.names, srcRes, srcOf, Sk.out, Sk.pure, wipeE, Op1.run, Op2.run, slc3, okI, okB, okA, isSc_i, isSc_b, isSc_s, isSc_n, isNon_i, isNon_b, isNon_l, isNon_n, eqS_ii, eqS_bb, inF_ints, ints_map, ints_mapf, bit, IDef.mut, kAt, ownK, if_true, if_false, ↓reduceIte, Bool.false_eq_true, decide_true, decide_false, Bool.not_true, Bool.not_false, true_and, and_true, and_self, Option.isSome_some, Option.isSome_none, eq_self, rg, b1, d0] at ho
  generalize hG : forGo _ _ _ _ = o2 at ho
  obtain ⟨ρ, rfl, vs, b1', b2', b3', b4', b5', b6', rfl, rel, full⟩ := for_inv hG (fun k : Nat => D.int k) (List.range n) (fun pr ρ => ∃ (vs : List Int) (a b c e f g : Option D), ρ = [some (.int n), some (rds rs), some (.int s), some (.dic (fks d s vs)), a, b, c, e, none, f, g] ∧ Rel n rs d s vs ∧ (vs.length = n ∨ pr.length + 1 ≤ vs.length)) (by simp [plc]) ⟨[s], _, _, _, _, _, _, rfl, ⟨by simp, by simpa using hs, by simp, fun v hv ne => by simp at hv; exact absurd hv ne⟩, .inr (by simp)⟩ (by
    rintro pr k r ρ e2 ⟨vs, c1, c2, c3, c4, c5, c6, rfl, rel, full⟩
    refine ⟨_, rfl, ?_⟩
    simp only [evE.eq_1, evE.eq_2, evE.eq_3, evE.eq_4, evE.eq_5, evE.eq_6, evE.eq_7, evE.eq_8, evE.eq_9, evE.eq_10, evE.eq_11, evE.eq_12, evE.eq_13, evE.eq_14, evE.eq_15, evE.eq_16, evE.eq_17, evE.eq_18, evE.eq_19, evE.eq_20, evE.eq_21, evE.eq_22, evEs.eq_1, evEs.eq_2, evS.eq_1, evS.eq_2, evS.eq_3, evS.eq_4, evS.eq_5, evS.eq_6, evS.eq_7, evS.eq_8, evS.eq_9, evS.eq_10, evS.eq_11, evS.eq_12, evS.eq_13, evS.eq_14, evS.eq_15, evS.eq_16, evS.eq_17, evS.eq_18, evS.eq_19, evS.eq_20, evSs.eq_1, evSs.eq_2, TW.gt, TW.st, TW.sts, TW.start, List.map_cons, List.map_nil, List.length_cons, List.length_nil, List.length_map, List.replicate_succ, List.replicate_zero, Nat.reduceAdd, Nat.reduceSub, List.cons_append, List.nil_append, Tg.put, Tg.names, srcRes, srcOf, Sk.out, Sk.pure, wipeE, Op1.run, Op2.run, slc3, okI, okB, okA, isSc_i, isSc_b, isSc_s, isSc_n, isNon_i, isNon_b, isNon_l, isNon_n, eqS_ii, eqS_bb, inF_ints, ints_map, ints_mapf, bit, IDef.mut, kAt, ownK, if_true, if_false, ↓reduceIte, Bool.false_eq_true, decide_true, decide_false, Bool.not_true, Bool.not_false, true_and, and_true, and_self, Option.isSome_some, Option.isSome_none, eq_self, rds]
    generalize hH : forGo _ _ _ _ = o3
    obtain ⟨ρ, rfl, vs', c1, c2, c3, c4, c5, rfl, rel', ⟨ex, rfl⟩, done⟩ := for_inv hH rd rs (fun p ρ => ∃ (vs' : List Int) (b c e f g : Option D), ρ = [some (.int n), some (rds rs), some (.int s), some (.dic (fks d s vs')), some (.int k), b, c, e, none, f, g] ∧ Rel n rs d s vs' ∧ (∃ ex, vs' = vs ++ ex) ∧ ∀ q ∈ p, (q.1 ∈ vs → q.2.1 ∈ vs') ∧ (q.2.1 ∈ vs → q.1 ∈ vs')) rfl ⟨vs, _, _, _, _, _, rfl, rel, ⟨[], by simp⟩, by simp⟩ (by
      rintro p ⟨x, y, l⟩ r ρ e3 ⟨vs', c1, c2, c3, c4, c5, rfl, rel, ⟨ex, rfl⟩, done⟩
      refine ⟨_, rfl, ?_⟩
      have ln := rel.len
      have l1 : (fks d s (vs ++ ex)).length < lim := by simp only [fks, List.length_map]; unfold lim; omega
      have ge : gE rs x y l := .inl (by rw [e3]; simp)
      have ge' : gE rs y x l := .inr (by rw [e3]; simp)
      have mono : ∀ v ∈ vs, v ∈ vs ++ ex := fun v hv => List.mem_append_left _ hv
      by_cases hx : x ∈ vs ++ ex
      · have dx := decide_eq_true hx
        have lx := look_fks (d := d) (s := s) hx
        by_cases hy : y ∈ vs ++ ex
        · have dy := decide_eq_true hy
          refine ⟨_, by simp only [evE.eq_1, evE.eq_2, evE.eq_3, evE.eq_4, evE.eq_5, evE.eq_6, evE.eq_7, evE.eq_8, evE.eq_9, evE.eq_10, evE.eq_11, evE.eq_12, evE.eq_13, evE.eq_14, evE.eq_15, evE.eq_16, evE.eq_17, evE.eq_18, evE.eq_19, evE.eq_20, evE.eq_21, evE.eq_22, evEs.eq_1, evEs.eq_2, evS.eq_1, evS.eq_2, evS.eq_3, evS.eq_4, evS.eq_5, evS.eq_6, evS.eq_7, evS.eq_8, evS.eq_9, evS.eq_10, evS.eq_11, evS.eq_12, evS.eq_13, evS.eq_14, evS.eq_15, evS.eq_16, evS.eq_17, evS.eq_18, evS.eq_19, evS.eq_20, evSs.eq_1, evSs.eq_2, TW.gt, TW.st, TW.sts, TW.start, List.map_cons, List.map_nil, List.length_cons, List.length_nil, List.length_map, List.replicate_succ, List.replicate_zero, Nat.reduceAdd, Nat.reduceSub, List.cons_append, List.nil_append, Tg.put, Tg.names, srcRes, srcOf, Sk.out, Sk.pure, wipeE, Op1.run, Op2.run, slc3, okI, okB, okA, isSc_i, isSc_b, isSc_s, isSc_n, isNon_i, isNon_b, isNon_l, isNon_n, eqS_ii, eqS_bb, inF_ints, ints_map, ints_mapf, bit, IDef.mut, kAt, ownK, if_true, if_false, ↓reduceIte, Bool.false_eq_true, decide_true, decide_false, Bool.not_true, Bool.not_false, true_and, and_true, and_self, Option.isSome_some, Option.isSome_none, eq_self, forGo, look_fksI, dx, dy] <;> rfl, vs ++ ex, some (.int x), some (.int y), some (.int l), some (.int y), some (.int x), rfl, rel, ⟨ex, rfl⟩, fun q hq => ?_⟩
          rcases List.mem_append.mp hq with hq | hq
          · exact done q hq
          · simp at hq; subst hq; exact ⟨fun _ => hy, fun _ => hx⟩
        · have dy := decide_eq_false hy
          obtain ⟨k1, k2⟩ := rel.push T ge hx hy
          have pf := put_fks (d := d) (s := s) hy
          rw [k1] at pf
          have dx' : decide (x ∈ vs ++ ex ++ [y]) = true := decide_eq_true (List.mem_append_left _ hx)
          have dy' : decide (y ∈ vs ++ ex ++ [y]) = true := decide_eq_true (by simp)
          refine ⟨_, by simp only [evE.eq_1, evE.eq_2, evE.eq_3, evE.eq_4, evE.eq_5, evE.eq_6, evE.eq_7, evE.eq_8, evE.eq_9, evE.eq_10, evE.eq_11, evE.eq_12, evE.eq_13, evE.eq_14, evE.eq_15, evE.eq_16, evE.eq_17, evE.eq_18, evE.eq_19, evE.eq_20, evE.eq_21, evE.eq_22, evEs.eq_1, evEs.eq_2, evS.eq_1, evS.eq_2, evS.eq_3, evS.eq_4, evS.eq_5, evS.eq_6, evS.eq_7, evS.eq_8, evS.eq_9, evS.eq_10, evS.eq_11, evS.eq_12, evS.eq_13, evS.eq_14, evS.eq_15, evS.eq_16, evS.eq_17, evS.eq_18, evS.eq_19, evS.eq_20, evSs.eq_1, evSs.eq_2, TW.gt, TW.st, TW.sts, TW.start, List.map_cons, List.map_nil, List.length_cons, List.length_nil, List.length_map, List.replicate_succ, List.replicate_zero, Nat.reduceAdd, Nat.reduceSub, List.cons_append, List.nil_append, Tg.put, Tg.names, srcRes, srcOf, Sk.out, Sk.pure, wipeE, Op1.run, Op2.run, slc3, okI, okB, okA, isSc_i, isSc_b, isSc_s, isSc_n, isNon_i, isNon_b, isNon_l, isNon_n, eqS_ii, eqS_bb, inF_ints, ints_map, ints_mapf, bit, IDef.mut, kAt, ownK, if_true, if_false, ↓reduceIte, Bool.false_eq_true, decide_true, decide_false, Bool.not_true, Bool.not_false, true_and, and_true, and_self, Option.isSome_some, Option.isSome_none, eq_self, forGo, look_fksI, dx, dy, lx, l1, pf, dx', dy'] <;> rfl, vs ++ ex ++ [y], some (.int x), some (.int y), some (.int l), some (.int y), some (.int x), rfl, k2, ⟨ex ++ [y], by simp⟩, fun q hq => ?_⟩
          rcases List.mem_append.mp hq with hq | hq
          · exact ⟨fun z => List.mem_append_left _ ((done q hq).1 z), fun z => List.mem_append_left _ ((done q hq).2 z)⟩
          · simp at hq; subst hq; exact ⟨fun _ => by simp, fun _ => List.mem_append_left _ hx⟩
      · have dx := decide_eq_false hx
        by_cases hy : y ∈ vs ++ ex
        · have dy := decide_eq_true hy
          have ly := look_fks (d := d) (s := s) hy
          obtain ⟨k1, k2⟩ := rel.push T ge' hy hx
          have pf := put_fks (d := d) (s := s) hx
          rw [k1] at pf
          refine ⟨_, by simp only [evE.eq_1, evE.eq_2, evE.eq_3, evE.eq_4, evE.eq_5, evE.eq_6, evE.eq_7, evE.eq_8, evE.eq_9, evE.eq_10, evE.eq_11, evE.eq_12, evE.eq_13, evE.eq_14, evE.eq_15, evE.eq_16, evE.eq_17, evE.eq_18, evE.eq_19, evE.eq_20, evE.eq_21, evE.eq_22, evEs.eq_1, evEs.eq_2, evS.eq_1, evS.eq_2, evS.eq_3, evS.eq_4, evS.eq_5, evS.eq_6, evS.eq_7, evS.eq_8, evS.eq_9, evS.eq_10, evS.eq_11, evS.eq_12, evS.eq_13, evS.eq_14, evS.eq_15, evS.eq_16, evS.eq_17, evS.eq_18, evS.eq_19, evS.eq_20, evSs.eq_1, evSs.eq_2, TW.gt, TW.st, TW.sts, TW.start, List.map_cons, List.map_nil, List.length_cons, List.length_nil, List.length_map, List.replicate_succ, List.replicate_zero, Nat.reduceAdd, Nat.reduceSub, List.cons_append, List.nil_append, Tg.put, Tg.names, srcRes, srcOf, Sk.out, Sk.pure, wipeE, Op1.run, Op2.run, slc3, okI, okB, okA, isSc_i, isSc_b, isSc_s, isSc_n, isNon_i, isNon_b, isNon_l, isNon_n, eqS_ii, eqS_bb, inF_ints, ints_map, ints_mapf, bit, IDef.mut, kAt, ownK, if_true, if_false, ↓reduceIte, Bool.false_eq_true, decide_true, decide_false, Bool.not_true, Bool.not_false, true_and, and_true, and_self, Option.isSome_some, Option.isSome_none, eq_self, forGo, look_fksI, dx, dy, ly, l1, pf] <;> rfl, vs ++ ex ++ [x], some (.int x), some (.int y), some (.int l), some (.int y), some (.int x), rfl, k2, ⟨ex ++ [x], by simp⟩, fun q hq => ?_⟩
          rcases List.mem_append.mp hq with hq | hq
          · exact ⟨fun z => List.mem_append_left _ ((done q hq).1 z), fun z => List.mem_append_left _ ((done q hq).2 z)⟩
          · simp at hq; subst hq; exact ⟨fun _ => List.mem_append_left _ hy, fun _ => by simp⟩
        · have dy := decide_eq_false hy
          refine ⟨_, by simp only [evE.eq_1, evE.eq_2, evE.eq_3, evE.eq_4, evE.eq_5, evE.eq_6, evE.eq_7, evE.eq_8, evE.eq_9, evE.eq_10, evE.eq_11, evE.eq_12, evE.eq_13, evE.eq_14, evE.eq_15, evE.eq_16, evE.eq_17, evE.eq_18, evE.eq_19, evE.eq_20, evE.eq_21, evE.eq_22, evEs.eq_1, evEs.eq_2, evS.eq_1, evS.eq_2, evS.eq_3, evS.eq_4, evS.eq_5, evS.eq_6, evS.eq_7, evS.eq_8, evS.eq_9, evS.eq_10, evS.eq_11, evS.eq_12, evS.eq_13, evS.eq_14, evS.eq_15, evS.eq_16, evS.eq_17, evS.eq_18, evS.eq_19, evS.eq_20, evSs.eq_1, evSs.eq_2, TW.gt, TW.st, TW.sts, TW.start, List.map_cons, List.map_nil, List.length_cons, List.length_nil, List.length_map, List.replicate_succ, List.replicate_zero, Nat.reduceAdd, Nat.reduceSub, List.cons_append, List.nil_append, Tg.put, Tg.names, srcRes, srcOf, Sk.out, Sk.pure, wipeE, Op1.run, Op2.run, slc3, okI, okB, okA, isSc_i, isSc_b, isSc_s, isSc_n, isNon_i, isNon_b, isNon_l, isNon_n, eqS_ii, eqS_bb, inF_ints, ints_map, ints_mapf, bit, IDef.mut, kAt, ownK, if_true, if_false, ↓reduceIte, Bool.false_eq_true, decide_true, decide_false, Bool.not_true, Bool.not_false, true_and, and_true, and_self, Option.isSome_some, Option.isSome_none, eq_self, forGo, look_fksI, dx, dy] <;> rfl, vs ++ ex, some (.int x), some (.int y), some (.int l), some (.int y), some (.int x), rfl, rel, ⟨ex, rfl⟩, fun q hq => ?_⟩
          rcases List.mem_append.mp hq with hq | hq
          · exact done q hq
          · simp at hq; subst hq; exact ⟨fun z => absurd (mono _ z) hx, fun z => absurd (mono _ z) hy⟩)
    refine ⟨_, rfl, vs ++ ex, _, _, _, _, _, _, rfl, rel', ?_⟩
    have ln := rel'.len
    rcases full with full | full
    · left
      rw [List.length_append] at ln ⊢
      omega
    · by_cases z : vs.length = n
      · left
        rw [List.length_append] at ln ⊢
        omega
      · right
        have : ∃ v, Pl n v ∧ v ∉ vs := Classical.byContradiction fun no => by
          have := len_of_sub (l1 := plc n) (l2 := vs) plc_nd fun x hx => Classical.byContradiction fun q => no ⟨x, plc_mem.mp hx, q⟩
          rw [plc_len] at this
          have := rel.len
          omega
        obtain ⟨v, pv, nv⟩ := this
        rcases cross rel.st ((all_rch T.tm hs).mpr pv) with q | ⟨u, w, l, mu, mw, g⟩
        · exact absurd q nv
        have mw' : w ∈ vs ++ ex := by
          rcases g with g | g
          · exact (done _ g).1 mu
          · exact (done _ g).2 mu
        have : ex ≠ [] := fun q => by rw [q] at mw'; simp at mw'; exact mw mw'
        have := List.length_pos_iff.mpr this
        simp only [List.length_append, List.length_singleton]
        omega)
  have ln := rel.len
  have hn0 : vs.length = n := by
    rw [List.length_range] at full
    omega
  have all : ∀ v, Pl n v → v ∈ vs := fun v hv => sub_of_len rel.nd (l2 := plc n) (fun x hx => plc_mem.mpr (rel.pl x hx)) (by rw [plc_len]; omega) v (plc_mem.mpr hv)
  simp only [evE.eq_1, evE.eq_2, evE.eq_3, evE.eq_4, evE.eq_5, evE.eq_6, evE.eq_7, evE.eq_8, evE.eq_9, evE.eq_10, evE.eq_11, evE.eq_12, evE.eq_13, evE.eq_14, evE.eq_15, evE.eq_16, evE.eq_17, evE.eq_18, evE.eq_19, evE.eq_20, evE.eq_21, evE.eq_22, evEs.eq_1, evEs.eq_2, evS.eq_1, evS.eq_2, evS.eq_3, evS.eq_4, evS.eq_5, evS.eq_6, evS.eq_7, evS.eq_8, evS.eq_9, evS.eq_10, evS.eq_11, evS.eq_12, evS.eq_13, evS.eq_14, evS.eq_15, evS.eq_16, evS.eq_17, evS.eq_18, evS.eq_19, evS.eq_20, evSs.eq_1, evSs.eq_2, TW.gt, TW.st, TW.sts, TW.start, List.map_cons, List.map_nil, List.length_cons, List.length_nil, List.length_map, List.replicate_succ, List.replicate_zero, Nat.reduceAdd, Nat.reduceSub, List.cons_append, List.nil_append, Tg.put, Tg.names, srcRes, srcOf, Sk.out, Sk.pure, wipeE, Op1.run, Op2.run, slc3, okI, okB, okA, isSc_i, isSc_b, isSc_s, isSc_n, isNon_i, isNon_b, isNon_l, isNon_n, eqS_ii, eqS_bb, inF_ints, ints_map, ints_mapf, bit, IDef.mut, kAt, ownK, if_true, if_false, ↓reduceIte, Bool.false_eq_true, decide_true, decide_false, Bool.not_true, Bool.not_false, true_and, and_true, and_self, Option.isSome_some, Option.isSome_none, eq_self, rg, b1, plc_len, b2] at ho
  generalize hL : lcGo _ _ _ _ _ = o2 at ho
  have := lc_all hL D.int (plc n) (fun v => .int (d s v)) rfl (by
    intro v hv
    have lk := look_fks (d := d) (s := s) (all v (plc_mem.mp hv))
    exact ⟨_, rfl, [some (.int n), some (rds rs), some (.int s), some (.dic (fks d s vs)), b1', b2', b3', b4', some (.int v), b5', b6'], by simp only [evE.eq_1, evE.eq_2, evE.eq_3, evE.eq_4, evE.eq_5, evE.eq_6, evE.eq_7, evE.eq_8, evE.eq_9, evE.eq_10, evE.eq_11, evE.eq_12, evE.eq_13, evE.eq_14, evE.eq_15, evE.eq_16, evE.eq_17, evE.eq_18, evE.eq_19, evE.eq_20, evE.eq_21, evE.eq_22, evEs.eq_1, evEs.eq_2, evS.eq_1, evS.eq_2, evS.eq_3, evS.eq_4, evS.eq_5, evS.eq_6, evS.eq_7, evS.eq_8, evS.eq_9, evS.eq_10, evS.eq_11, evS.eq_12, evS.eq_13, evS.eq_14, evS.eq_15, evS.eq_16, evS.eq_17, evS.eq_18, evS.eq_19, evS.eq_20, evSs.eq_1, evSs.eq_2, TW.gt, TW.st, TW.sts, TW.start, List.map_cons, List.map_nil, List.length_cons, List.length_nil, List.length_map, List.replicate_succ, List.replicate_zero, Nat.reduceAdd, Nat.reduceSub, List.cons_append, List.nil_append, Tg.put, Tg.names, srcRes, srcOf, Sk.out, Sk.pure, wipeE, Op1.run, Op2.run, slc3, okI, okB, okA, isSc_i, isSc_b, isSc_s, isSc_n, isNon_i, isNon_b, isNon_l, isNon_n, eqS_ii, eqS_bb, inF_ints, ints_map, ints_mapf, bit, IDef.mut, kAt, ownK, if_true, if_false, ↓reduceIte, Bool.false_eq_true, decide_true, decide_false, Bool.not_true, Bool.not_false, true_and, and_true, and_self, Option.isSome_some, Option.isSome_none, eq_self, lk]⟩)
  subst this
  simp only [evE.eq_1, evE.eq_2, evE.eq_3, evE.eq_4, evE.eq_5, evE.eq_6, evE.eq_7, evE.eq_8, evE.eq_9, evE.eq_10, evE.eq_11, evE.eq_12, evE.eq_13, evE.eq_14, evE.eq_15, evE.eq_16, evE.eq_17, evE.eq_18, evE.eq_19, evE.eq_20, evE.eq_21, evE.eq_22, evEs.eq_1, evEs.eq_2, evS.eq_1, evS.eq_2, evS.eq_3, evS.eq_4, evS.eq_5, evS.eq_6, evS.eq_7, evS.eq_8, evS.eq_9, evS.eq_10, evS.eq_11, evS.eq_12, evS.eq_13, evS.eq_14, evS.eq_15, evS.eq_16, evS.eq_17, evS.eq_18, evS.eq_19, evS.eq_20, evSs.eq_1, evSs.eq_2, TW.gt, TW.st, TW.sts, TW.start, List.map_cons, List.map_nil, List.length_cons, List.length_nil, List.length_map, List.replicate_succ, List.replicate_zero, Nat.reduceAdd, Nat.reduceSub, List.cons_append, List.nil_append, Tg.put, Tg.names, srcRes, srcOf, Sk.out, Sk.pure, wipeE, Op1.run, Op2.run, slc3, okI, okB, okA, isSc_i, isSc_b, isSc_s, isSc_n, isNon_i, isNon_b, isNon_l, isNon_n, eqS_ii, eqS_bb, inF_ints, ints_map, ints_mapf, bit, IDef.mut, kAt, ownK, if_true, if_false, ↓reduceIte, Bool.false_eq_true, decide_true, decide_false, Bool.not_true, Bool.not_false, true_and, and_true, and_self, Option.isSome_some, Option.isSome_none, eq_self] at ho
  have e : li ((plc n).map fun v => d s v) = .lst ((plc n).map fun v => D.int (d s v)) := by rw [li, List.map_map]; rfl
  rw [e]
  exact ⟨_, ho.symm⟩
end
theorem ins_perm (x : Int) : ∀ l : List Int, (ins x l).Perm (x :: l)
  | [] => by simp [ins]
  | y :: r => by
    simp only [ins]
    split
    · exact List.Perm.refl _
    · exact (List.Perm.cons y (ins_perm x r)).trans (List.Perm.swap x y r)
theorem isort_perm : ∀ l : List Int, (isort l).Perm l
  | [] => by simp [isort]
  | x :: r => (ins_perm x (isort r)).trans (List.Perm.cons x (isort_perm r))
theorem ins_sorted (x : Int) : ∀ {l : List Int}, l.Pairwise (· ≤ ·) → (ins x l).Pairwise (· ≤ ·)
  | [], _ => by simp [ins]
  | y :: r, h => by
    simp only [ins]
    rw [List.pairwise_cons] at h
    split
    · rename_i c
      exact List.pairwise_cons.mpr ⟨fun z hz => by
        rcases List.mem_cons.mp hz with rfl | hz
        · exact c
        · have := h.1 z hz; omega, List.pairwise_cons.mpr h⟩
    · rename_i c
      refine List.pairwise_cons.mpr ⟨fun z hz => ?_, ins_sorted x h.2⟩
      rcases List.mem_cons.mp ((ins_perm x r).mem_iff.mp hz) with rfl | hz
      · omega
      · exact h.1 z hz
theorem isort_sorted : ∀ l : List Int, (isort l).Pairwise (· ≤ ·)
  | [] => by simp [isort]
  | x :: r => ins_sorted x (isort_sorted r)
theorem sorted_ext : ∀ {l1 l2 : List Int}, l1.Pairwise (· < ·) → l2.Pairwise (· < ·) → (∀ x, x ∈ l1 ↔ x ∈ l2) → l1 = l2
  | [], [], _, _, _ => rfl
  | [], y :: l2, _, _, h => by have := (h y).mpr (by simp); cases this
  | x :: l1, [], _, _, h => by have := (h x).mp (by simp); cases this
  | x :: l1, y :: l2, h1, h2, h => by
    rw [List.pairwise_cons] at h1 h2
    have xy : x = y := by
      rcases List.mem_cons.mp ((h x).mp (by simp)) with e | e
      · exact e
      · rcases List.mem_cons.mp ((h y).mpr (by simp)) with e' | e'
        · exact e'.symm
        · have := h1.1 y e'; have := h2.1 x e; omega
    subst xy
    congr 1
    refine sorted_ext h1.2 h2.2 fun z => ⟨fun m => ?_, fun m => ?_⟩
    · rcases List.mem_cons.mp ((h z).mp (by simp [m])) with e | e
      · subst e; have := h1.1 z m; omega
      · exact e
    · rcases List.mem_cons.mp ((h z).mpr (by simp [m])) with e | e
      · subst e; have := h2.1 z m; omega
      · exact e
theorem lt_of_le : ∀ {l : List Int}, l.Pairwise (· ≤ ·) → l.Nodup → l.Pairwise (· < ·)
  | [], _, _ => by simp
  | x :: l, h, nd => by
    rw [List.pairwise_cons] at h
    rw [List.nodup_cons] at nd
    exact List.pairwise_cons.mpr ⟨fun y hy => by
      have := h.1 y hy
      have : x ≠ y := fun e => nd.1 (e ▸ hy)
      omega, lt_of_le h.2 nd.2⟩
theorem plc_sorted (n : Nat) : (plc n).Pairwise (· < ·) := by
  unfold plc
  rw [List.pairwise_map]
  exact List.Pairwise.imp (fun h => by omega) List.pairwise_lt_range
theorem isort_eq {n : Nat} {l : List Int} {p : Int → Bool} (nd : l.Nodup) (h : ∀ x, x ∈ l ↔ Pl n x ∧ p x = true) : isort l = (plc n).filter p := by
  refine sorted_ext (lt_of_le (isort_sorted l) ((isort_perm l).nodup_iff.mpr nd)) (List.Pairwise.filter p (plc_sorted n)) fun x => ?_
  rw [(isort_perm l).mem_iff, h, List.mem_filter, plc_mem]
section
variable {n : Nat} {rs : List Rd} {d : Int → Int → Int}
theorem run_neighbours {m : Nat} (hm : 2 ≤ m) (rs : List Rd) (hl : rs.length ≤ 1000) (a b : Int) : ∃ t, (sems defs m 25).run [rds rs, .int a, .int b] = .ok (.bl t, []) ∧ (t = true ↔ ∃ l, gE rs a b l) := by
  obtain ⟨m, rfl, hm1⟩ := suc_of hm
  have st1 := run_steps hm1 rs hl a
  have len := nbs_len a rs
  have l1 : (nbs rs a).length ≤ lim := by unfold lim; omega
  refine ⟨decide (b ∈ (nbs rs a).map (·.1)), run_rt (ρ := [some (rds rs), some (.int a), some (.int b), none, none]) (d := d_are_neighbours) rfl rfl rfl ?_, ?_⟩
  · simp only [d_are_neighbours, evE.eq_1, evE.eq_2, evE.eq_3, evE.eq_4, evE.eq_5, evE.eq_6, evE.eq_7, evE.eq_8, evE.eq_9, evE.eq_10, evE.eq_11, evE.eq_12, evE.eq_13, evE.eq_14, evE.eq_15, evE.eq_16, evE.eq_17, evE.eq_18, evE.eq_19, evE.eq_20, evE.eq_21, evE.eq_22, evEs.eq_1, evEs.eq_2, evS.eq_1, evS.eq_2, evS.eq_3, evS.eq_4, evS.eq_5, evS.eq_6, evS.eq_7, evS.eq_8, evS.eq_9, evS.eq_10, evS.eq_11, evS.eq_12, evS.eq_13, evS.eq_14, evS.eq_15, evS.eq_16, evS.eq_17, evS.eq_18, evS.eq_19, evS.eq_20, evSs.eq_1, evSs.eq_2, TW.gt, TW.st, TW.sts, TW.start, List.map_cons, List.map_nil, List.length_cons, List.length_nil, List.length_map, List.replicate_succ, List.replicate_zero, Nat.reduceAdd, Nat.reduceSub, List.cons_append, List.nil_append, Tg.put, Tg.names, srcRes, srcOf, Sk.out, Sk.pure, wipeE, Op1.run, Op2.run, slc3, okI, okB, okA, isSc_i, isSc_b, isSc_s, isSc_n, isNon_i, isNon_b, isNon_l, isNon_n, eqS_ii, eqS_bb, inF_ints, ints_map, ints_mapf, bit, IDef.mut, kAt, ownK, if_true, if_false, ↓reduceIte, Bool.false_eq_true, decide_true, decide_false, Bool.not_true, Bool.not_false, true_and, and_true, and_self, Option.isSome_some, Option.isSome_none, eq_self, st1, l1]
    generalize hL : lcGo _ _ _ _ _ = o
    have := lc_all hL pr (nbs rs a) (fun x => .int x.1) rfl (by
      rintro ⟨v, k⟩ hx
      exact ⟨_, rfl, [some (rds rs), some (.int a), some (.int b), some (.int v), some (.int k)], by simp only [evE.eq_1, evE.eq_2, evE.eq_3, evE.eq_4, evE.eq_5, evE.eq_6, evE.eq_7, evE.eq_8, evE.eq_9, evE.eq_10, evE.eq_11, evE.eq_12, evE.eq_13, evE.eq_14, evE.eq_15, evE.eq_16, evE.eq_17, evE.eq_18, evE.eq_19, evE.eq_20, evE.eq_21, evE.eq_22, evEs.eq_1, evEs.eq_2, evS.eq_1, evS.eq_2, evS.eq_3, evS.eq_4, evS.eq_5, evS.eq_6, evS.eq_7, evS.eq_8, evS.eq_9, evS.eq_10, evS.eq_11, evS.eq_12, evS.eq_13, evS.eq_14, evS.eq_15, evS.eq_16, evS.eq_17, evS.eq_18, evS.eq_19, evS.eq_20, evSs.eq_1, evSs.eq_2, TW.gt, TW.st, TW.sts, TW.start, List.map_cons, List.map_nil, List.length_cons, List.length_nil, List.length_map, List.replicate_succ, List.replicate_zero, Nat.reduceAdd, Nat.reduceSub, List.cons_append, List.nil_append, Tg.put, Tg.names, srcRes, srcOf, Sk.out, Sk.pure, wipeE, Op1.run, Op2.run, slc3, okI, okB, okA, isSc_i, isSc_b, isSc_s, isSc_n, isNon_i, isNon_b, isNon_l, isNon_n, eqS_ii, eqS_bb, inF_ints, ints_map, ints_mapf, bit, IDef.mut, kAt, ownK, if_true, if_false, ↓reduceIte, Bool.false_eq_true, decide_true, decide_false, Bool.not_true, Bool.not_false, true_and, and_true, and_self, Option.isSome_some, Option.isSome_none, eq_self]⟩)
    subst this
    have e : (nbs rs a).map (fun x => D.int x.1) = ((nbs rs a).map (·.1)).map D.int := by simp
    simp only [evE.eq_1, evE.eq_2, evE.eq_3, evE.eq_4, evE.eq_5, evE.eq_6, evE.eq_7, evE.eq_8, evE.eq_9, evE.eq_10, evE.eq_11, evE.eq_12, evE.eq_13, evE.eq_14, evE.eq_15, evE.eq_16, evE.eq_17, evE.eq_18, evE.eq_19, evE.eq_20, evE.eq_21, evE.eq_22, evEs.eq_1, evEs.eq_2, evS.eq_1, evS.eq_2, evS.eq_3, evS.eq_4, evS.eq_5, evS.eq_6, evS.eq_7, evS.eq_8, evS.eq_9, evS.eq_10, evS.eq_11, evS.eq_12, evS.eq_13, evS.eq_14, evS.eq_15, evS.eq_16, evS.eq_17, evS.eq_18, evS.eq_19, evS.eq_20, evSs.eq_1, evSs.eq_2, TW.gt, TW.st, TW.sts, TW.start, List.map_cons, List.map_nil, List.length_cons, List.length_nil, List.length_map, List.replicate_succ, List.replicate_zero, Nat.reduceAdd, Nat.reduceSub, List.cons_append, List.nil_append, Tg.put, Tg.names, srcRes, srcOf, Sk.out, Sk.pure, wipeE, Op1.run, Op2.run, slc3, okI, okB, okA, isSc_i, isSc_b, isSc_s, isSc_n, isNon_i, isNon_b, isNon_l, isNon_n, eqS_ii, eqS_bb, inF_ints, ints_map, ints_mapf, bit, IDef.mut, kAt, ownK, if_true, if_false, ↓reduceIte, Bool.false_eq_true, decide_true, decide_false, Bool.not_true, Bool.not_false, true_and, and_true, and_self, Option.isSome_some, Option.isSome_none, eq_self, e]
  · rw [decide_eq_true_eq, List.mem_map]
    constructor
    · rintro ⟨⟨v, k⟩, h, rfl⟩; exact ⟨k, nbs_mem.mp h⟩
    · rintro ⟨l, h⟩; exact ⟨(b, l), nbs_mem.mpr h, rfl⟩
/-- the places beyond the road -/
def bey (d : Int → Int → Int) (n : Nat) (a b : Int) : List Int := (plc n).filter fun v => decide (d v b < d v a)
theorem run_beyond (T : Tr n rs d) (h12 : n ≤ 12) {m : Nat} (hm : 5 ≤ m) {a b l : Int} (e : gE rs a b l) : (sems defs m 26).run [.int n, rds rs, .int a, .int b] = .ok (li (bey d n a b), []) := by
  obtain ⟨m, rfl, hm1⟩ := suc_of hm
  obtain ⟨ha, hb, ab, hl, dab⟩ := T.tm.e _ _ _ e
  have c1 := run_mbt_ok T h12 hm1
  have c2 := run_mbp (n := m) (by omega) n [a, b]
  rw [if_pos (by intro x hx; simp at hx; rcases hx with rfl | rfl <;> assumption)] at c2
  simp only [li, List.map_cons, List.map_nil] at c2
  obtain ⟨t, c3, ht⟩ := run_neighbours (m := m) (by omega) rs (T.small h12) a b
  have : t = true := ht.mpr ⟨l, e⟩
  subst this
  obtain ⟨ks, c4, sp⟩ := run_spread (n := m) (by omega) rs (T.small h12) b [a]
  simp only [li, List.map_cons, List.map_nil] at c4
  have mem : ∀ v, v ∈ ks.map (·.1) ↔ Pl n v ∧ decide (d v b < d v a) = true := fun v => by
    rw [sp.mem, cut_rch T.tm e]; simp
  have len := len_of_sub sp.nd (l2 := plc n) fun z hz => plc_mem.mpr ((mem z).mp hz).1
  rw [plc_len] at len
  have l1 : (dks ks).length < 64 := by simp only [dks, List.length_map] at len ⊢; omega
  have is := isort_eq sp.nd mem
  refine run_rt (ρ := [some (.int n), some (rds rs), some (.int a), some (.int b)]) (d := d_beyond) rfl rfl rfl ?_
  simp only [d_beyond, evE.eq_1, evE.eq_2, evE.eq_3, evE.eq_4, evE.eq_5, evE.eq_6, evE.eq_7, evE.eq_8, evE.eq_9, evE.eq_10, evE.eq_11, evE.eq_12, evE.eq_13, evE.eq_14, evE.eq_15, evE.eq_16, evE.eq_17, evE.eq_18, evE.eq_19, evE.eq_20, evE.eq_21, evE.eq_22, evEs.eq_1, evEs.eq_2, evS.eq_1, evS.eq_2, evS.eq_3, evS.eq_4, evS.eq_5, evS.eq_6, evS.eq_7, evS.eq_8, evS.eq_9, evS.eq_10, evS.eq_11, evS.eq_12, evS.eq_13, evS.eq_14, evS.eq_15, evS.eq_16, evS.eq_17, evS.eq_18, evS.eq_19, evS.eq_20, evSs.eq_1, evSs.eq_2, TW.gt, TW.st, TW.sts, TW.start, List.map_cons, List.map_nil, List.length_cons, List.length_nil, List.length_map, List.replicate_succ, List.replicate_zero, Nat.reduceAdd, Nat.reduceSub, List.cons_append, List.nil_append, Tg.put, Tg.names, srcRes, srcOf, Sk.out, Sk.pure, wipeE, Op1.run, Op2.run, slc3, okI, okB, okA, isSc_i, isSc_b, isSc_s, isSc_n, isNon_i, isNon_b, isNon_l, isNon_n, eqS_ii, eqS_bb, inF_ints, ints_map, ints_mapf, bit, IDef.mut, kAt, ownK, if_true, if_false, ↓reduceIte, Bool.false_eq_true, decide_true, decide_false, Bool.not_true, Bool.not_false, true_and, and_true, and_self, Option.isSome_some, Option.isSome_none, eq_self, c1, c2, c3, c4, l1, dks_keys, is, li, bey]
end
end TW.M

namespace TW.M
open PySem
theorem run_whole {m : Nat} (hm : 1 ≤ m) (i : Int) : (sems defs m 5).run [.int i] = .ok (.bl true, []) := by
  obtain ⟨m, rfl, -⟩ := suc_of hm
  refine run_rt (ρ := [some (.int i)]) (d := d__law_whole) rfl rfl rfl ?_
  simp only [d__law_whole, evE.eq_1, evE.eq_2, evE.eq_3, evE.eq_4, evE.eq_5, evE.eq_6, evE.eq_7, evE.eq_8, evE.eq_9, evE.eq_10, evE.eq_11, evE.eq_12, evE.eq_13, evE.eq_14, evE.eq_15, evE.eq_16, evE.eq_17, evE.eq_18, evE.eq_19, evE.eq_20, evE.eq_21, evE.eq_22, evEs.eq_1, evEs.eq_2, evS.eq_1, evS.eq_2, evS.eq_3, evS.eq_4, evS.eq_5, evS.eq_6, evS.eq_7, evS.eq_8, evS.eq_9, evS.eq_10, evS.eq_11, evS.eq_12, evS.eq_13, evS.eq_14, evS.eq_15, evS.eq_16, evS.eq_17, evS.eq_18, evS.eq_19, evS.eq_20, evSs.eq_1, evSs.eq_2, TW.gt, TW.st, TW.sts, TW.start, List.map_cons, List.map_nil, List.length_cons, List.length_nil, List.length_map, List.replicate_succ, List.replicate_zero, Nat.reduceAdd, Nat.reduceSub, List.cons_append, List.nil_append, Tg.put, Tg.names, srcRes, srcOf, Sk.out, Sk.pure, wipeE, Op1.run, Op2.run, slc3, okI, okB, okA, isSc_i, isSc_b, isSc_s, isSc_n, isNon_i, isNon_b, isNon_l, isNon_n, eqS_ii, eqS_bb, inF_ints, ints_map, ints_mapf, bit, IDef.mut, kAt, ownK, if_true, if_false, ↓reduceIte, Bool.false_eq_true, decide_true, decide_false, Bool.not_true, Bool.not_false, true_and, and_true, and_self, Option.isSome_some, Option.isSome_none, eq_self]
mutual
theorem beq_refl : ∀ x : D, D.beq x x = true ∨ (∀ y, x.eqable 20 = y → True)
  | x => .inr fun _ _ => trivial
end
theorem beqs_ints : ∀ xs ys : List Int, D.beqs (xs.map .int) (ys.map .int) = decide (xs = ys)
  | [], [] => rfl
  | [], _ :: _ => rfl
  | _ :: _, [] => rfl
  | x :: xs, y :: ys => by
    simp only [List.map_cons, D.beqs, D.beq, beqs_ints xs ys]
    by_cases h : x = y <;> by_cases k : xs = ys <;> simp [h, k]
theorem beq_li (xs ys : List Int) : D.beq (li xs) (li ys) = decide (xs = ys) := beqs_ints xs ys
theorem eqables_ints (k : Nat) : ∀ xs : List Int, D.eqables k (xs.map .int) = true
  | [] => by simp [D.eqables]
  | x :: xs => by simp [D.eqables, D.eqable, eqables_ints k xs]
theorem eqable_li (k : Nat) (xs : List Int) : D.eqable (k + 1) (li xs) = true := by simp [li, D.eqable, eqables_ints]
theorem beq_rds_self : ∀ rs : List Rd, D.beq (rds rs) (rds rs) = true := by
  intro rs
  show D.beqs (rs.map rd) (rs.map rd) = true
  induction rs with
  | nil => rfl
  | cons r rs ih => simp [D.beqs, ih, rd, D.beq]
theorem eqable_rds : ∀ rs : List Rd, D.eqable 20 (rds rs) = true := by
  intro rs
  show D.eqables 19 (rs.map rd) = true
  induction rs with
  | nil => simp [D.eqables]
  | cons r rs ih => simp [D.eqables, ih, rd, D.eqable]
theorem run_like {m : Nat} (hm : 2 ≤ m) (xs : List Int) : (sems defs m 36).run [li xs, li xs] = .ok (.bl true, []) := by
  obtain ⟨m, rfl, hm1⟩ := suc_of hm
  suffices H : ∃ ρ, evSs (sems defs m) d__law_like_36.body (start d__law_like_36.ns [li xs, li xs]) = .rt (.bl true) ρ by
    obtain ⟨ρ, h⟩ := H
    exact run_rt (d := d__law_like_36) rfl rfl rfl h
  obtain ⟨o1, ho⟩ : ∃ o1, evSs (sems defs m) d__law_like_36.body (start d__law_like_36.ns [li xs, li xs]) = o1 := ⟨_, rfl⟩
  rw [ho]
  have b1 := beqs_ints xs xs
  have e1 : D.eqable 20 (.lst (xs.map .int)) = true := eqable_li 19 xs
  simp only [decide_true] at b1
  simp only [d__law_like_36, evE.eq_1, evE.eq_2, evE.eq_3, evE.eq_4, evE.eq_5, evE.eq_6, evE.eq_7, evE.eq_8, evE.eq_9, evE.eq_10, evE.eq_11, evE.eq_12, evE.eq_13, evE.eq_14, evE.eq_15, evE.eq_16, evE.eq_17, evE.eq_18, evE.eq_19, evE.eq_20, evE.eq_21, evE.eq_22, evEs.eq_1, evEs.eq_2, evS.eq_1, evS.eq_2, evS.eq_3, evS.eq_4, evS.eq_5, evS.eq_6, evS.eq_7, evS.eq_8, evS.eq_9, evS.eq_10, evS.eq_11, evS.eq_12, evS.eq_13, evS.eq_14, evS.eq_15, evS.eq_16, evS.eq_17, evS.eq_18, evS.eq_19, evS.eq_20, evSs.eq_1, evSs.eq_2, TW.gt, TW.st, TW.sts, TW.start, List.map_cons, List.map_nil, List.length_cons, List.length_nil, List.length_map, List.replicate_succ, List.replicate_zero, Nat.reduceAdd, Nat.reduceSub, List.cons_append, List.nil_append, Tg.put, Tg.names, srcRes, srcOf, Sk.out, Sk.pure, wipeE, Op1.run, Op2.run, slc3, okI, okB, okA, isSc_i, isSc_b, isSc_s, isSc_n, isNon_i, isNon_b, isNon_l, isNon_n, eqS_ii, eqS_bb, inF_ints, ints_map, ints_mapf, bit, IDef.mut, kAt, ownK, if_true, if_false, ↓reduceIte, Bool.false_eq_true, decide_true, decide_false, Bool.not_true, Bool.not_false, true_and, and_true, and_self, Option.isSome_some, Option.isSome_none, eq_self, li, D.beq, b1, e1, Bool.and_self] at ho
  generalize hF : forGo _ _ _ _ = o at ho
  obtain ⟨ρ, rfl, a, rfl⟩ := for_inv hF D.int xs (fun pre ρ => ∃ a, ρ = [some (li xs), some (li xs), a]) rfl ⟨_, rfl⟩ (by
    rintro pre x r ρ e ⟨a, rfl⟩
    have w := run_whole (m := m) (by omega) x
    exact ⟨_, rfl, _, by simp only [evE.eq_1, evE.eq_2, evE.eq_3, evE.eq_4, evE.eq_5, evE.eq_6, evE.eq_7, evE.eq_8, evE.eq_9, evE.eq_10, evE.eq_11, evE.eq_12, evE.eq_13, evE.eq_14, evE.eq_15, evE.eq_16, evE.eq_17, evE.eq_18, evE.eq_19, evE.eq_20, evE.eq_21, evE.eq_22, evEs.eq_1, evEs.eq_2, evS.eq_1, evS.eq_2, evS.eq_3, evS.eq_4, evS.eq_5, evS.eq_6, evS.eq_7, evS.eq_8, evS.eq_9, evS.eq_10, evS.eq_11, evS.eq_12, evS.eq_13, evS.eq_14, evS.eq_15, evS.eq_16, evS.eq_17, evS.eq_18, evS.eq_19, evS.eq_20, evSs.eq_1, evSs.eq_2, TW.gt, TW.st, TW.sts, TW.start, List.map_cons, List.map_nil, List.length_cons, List.length_nil, List.length_map, List.replicate_succ, List.replicate_zero, Nat.reduceAdd, Nat.reduceSub, List.cons_append, List.nil_append, Tg.put, Tg.names, srcRes, srcOf, Sk.out, Sk.pure, wipeE, Op1.run, Op2.run, slc3, okI, okB, okA, isSc_i, isSc_b, isSc_s, isSc_n, isNon_i, isNon_b, isNon_l, isNon_n, eqS_ii, eqS_bb, inF_ints, ints_map, ints_mapf, bit, IDef.mut, kAt, ownK, if_true, if_false, ↓reduceIte, Bool.false_eq_true, decide_true, decide_false, Bool.not_true, Bool.not_false, true_and, and_true, and_self, Option.isSome_some, Option.isSome_none, eq_self, w] <;> rfl, _, rfl⟩)
  simp only [evE.eq_1, evE.eq_2, evE.eq_3, evE.eq_4, evE.eq_5, evE.eq_6, evE.eq_7, evE.eq_8, evE.eq_9, evE.eq_10, evE.eq_11, evE.eq_12, evE.eq_13, evE.eq_14, evE.eq_15, evE.eq_16, evE.eq_17, evE.eq_18, evE.eq_19, evE.eq_20, evE.eq_21, evE.eq_22, evEs.eq_1, evEs.eq_2, evS.eq_1, evS.eq_2, evS.eq_3, evS.eq_4, evS.eq_5, evS.eq_6, evS.eq_7, evS.eq_8, evS.eq_9, evS.eq_10, evS.eq_11, evS.eq_12, evS.eq_13, evS.eq_14, evS.eq_15, evS.eq_16, evS.eq_17, evS.eq_18, evS.eq_19, evS.eq_20, evSs.eq_1, evSs.eq_2, TW.gt, TW.st, TW.sts, TW.start, List.map_cons, List.map_nil, List.length_cons, List.length_nil, List.length_map, List.replicate_succ, List.replicate_zero, Nat.reduceAdd, Nat.reduceSub, List.cons_append, List.nil_append, Tg.put, Tg.names, srcRes, srcOf, Sk.out, Sk.pure, wipeE, Op1.run, Op2.run, slc3, okI, okB, okA, isSc_i, isSc_b, isSc_s, isSc_n, isNon_i, isNon_b, isNon_l, isNon_n, eqS_ii, eqS_bb, inF_ints, ints_map, ints_mapf, bit, IDef.mut, kAt, ownK, if_true, if_false, ↓reduceIte, Bool.false_eq_true, decide_true, decide_false, Bool.not_true, Bool.not_false, true_and, and_true, and_self, Option.isSome_some, Option.isSome_none, eq_self] at ho
  exact ⟨_, ho.symm⟩
theorem nbs_deg (rs : List Rd) (p : Int) : ((nbs rs p).length : Int) = (rs.map fun r => (if r.1 = p then (1 : Int) else 0) + if r.2.1 = p then (1 : Int) else 0).sum := by
  induction rs with
  | nil => rfl
  | cons r rs ih =>
    have : (nbs (r :: rs) p).length = (nb1 r p).length + (nbs rs p).length := by simp [nbs]
    rw [this, List.map_cons, List.sum_cons, ← ih]
    unfold nb1
    by_cases h1 : r.1 = p <;> by_cases h2 : r.2.1 = p <;> simp [h1, h2] <;> omega
theorem nbs_lt {n : Nat} {rs : List Rd} {d : Int → Int → Int} (T : Tr n rs d) (p : Int) : (nbs rs p).length < n := by
  have key : ∀ rs : List Rd, (∀ r ∈ rs, r.1 ≠ r.2.1) → (nbs rs p).length ≤ rs.length := by
    intro rs
    induction rs with
    | nil => intro _; simp [nbs]
    | cons r rs ih =>
      intro h
      have h1 := ih fun r hr => h r (by simp [hr])
      have h2 := h r (by simp)
      have : (nbs (r :: rs) p).length = (nb1 r p).length + (nbs rs p).length := by simp [nbs]
      rw [this]
      unfold nb1
      by_cases a : r.1 = p <;> by_cases b : r.2.1 = p <;> simp [a, b] <;> omega
  have := key rs fun r hr => (T.ok r hr).2.2.1
  have := T.len
  omega
theorem law05 {m : Nat} (hm : 20 ≤ m) {ns : List Int} (hz : ∀ z ∈ ns, Sz 1048577 z) : (sems defs m 37).run [.scr ns] = .ok (.bl true, []) := by
  obtain ⟨m, rfl, hm1⟩ := suc_of hm
  obtain ⟨n, rs, c1, it, sm, h12⟩ := run_law_tree (m := m) (by omega) hz
  obtain ⟨d, T⟩ := tree_tr it
  suffices H : ∃ ρ, evSs (sems defs m) d_law_37.body (start d_law_37.ns [.scr ns]) = .rt (.bl true) ρ by
    obtain ⟨ρ, h⟩ := H
    exact run_rt (d := d_law_37) rfl rfl rfl h
  obtain ⟨o1, ho⟩ : ∃ o1, evSs (sems defs m) d_law_37.body (start d_law_37.ns [.scr ns]) = o1 := ⟨_, rfl⟩
  rw [ho]
  have ln := T.len
  have l1 : rs.length ≤ lim := by unfold lim; omega
  have rg := rng0 n
  have b1 : ((n : Int) ≤ (lim : Nat) ∧ -big ≤ (n : Int)) := by unfold lim big; omega
  have b2 : n ≤ lim := by unfold lim; omega
  simp only [d_law_37, evE.eq_1, evE.eq_2, evE.eq_3, evE.eq_4, evE.eq_5, evE.eq_6, evE.eq_7, evE.eq_8, evE.eq_9, evE.eq_10, evE.eq_11, evE.eq_12, evE.eq_13, evE.eq_14, evE.eq_15, evE.eq_16, evE.eq_17, evE.eq_18, evE.eq_19, evE.eq_20, evE.eq_21, evE.eq_22, evEs.eq_1, evEs.eq_2, evS.eq_1, evS.eq_2, evS.eq_3, evS.eq_4, evS.eq_5, evS.eq_6, evS.eq_7, evS.eq_8, evS.eq_9, evS.eq_10, evS.eq_11, evS.eq_12, evS.eq_13, evS.eq_14, evS.eq_15, evS.eq_16, evS.eq_17, evS.eq_18, evS.eq_19, evS.eq_20, evSs.eq_1, evSs.eq_2, TW.gt, TW.st, TW.sts, TW.start, List.map_cons, List.map_nil, List.length_cons, List.length_nil, List.length_map, List.replicate_succ, List.replicate_zero, Nat.reduceAdd, Nat.reduceSub, List.cons_append, List.nil_append, Tg.put, Tg.names, srcRes, srcOf, Sk.out, Sk.pure, wipeE, Op1.run, Op2.run, slc3, okI, okB, okA, isSc_i, isSc_b, isSc_s, isSc_n, isNon_i, isNon_b, isNon_l, isNon_n, eqS_ii, eqS_bb, inF_ints, ints_map, ints_mapf, bit, IDef.mut, kAt, ownK, if_true, if_false, ↓reduceIte, Bool.false_eq_true, decide_true, decide_false, Bool.not_true, Bool.not_false, true_and, and_true, and_self, Option.isSome_some, Option.isSome_none, eq_self, c1, rds, l1, rg, b1] at ho
  generalize hL : lcGo _ _ _ _ _ = o at ho
  have := lc_all hL rd rs rd rfl (by
    intro r hr
    exact ⟨_, rfl, [some (.scr ns), none, none, none, none, none, none, some (.int n), some (.lst (rs.map rd)), none, none, some (rd r)], by simp only [evE.eq_1, evE.eq_2, evE.eq_3, evE.eq_4, evE.eq_5, evE.eq_6, evE.eq_7, evE.eq_8, evE.eq_9, evE.eq_10, evE.eq_11, evE.eq_12, evE.eq_13, evE.eq_14, evE.eq_15, evE.eq_16, evE.eq_17, evE.eq_18, evE.eq_19, evE.eq_20, evE.eq_21, evE.eq_22, evEs.eq_1, evEs.eq_2, evS.eq_1, evS.eq_2, evS.eq_3, evS.eq_4, evS.eq_5, evS.eq_6, evS.eq_7, evS.eq_8, evS.eq_9, evS.eq_10, evS.eq_11, evS.eq_12, evS.eq_13, evS.eq_14, evS.eq_15, evS.eq_16, evS.eq_17, evS.eq_18, evS.eq_19, evS.eq_20, evSs.eq_1, evSs.eq_2, TW.gt, TW.st, TW.sts, TW.start, List.map_cons, List.map_nil, List.length_cons, List.length_nil, List.length_map, List.replicate_succ, List.replicate_zero, Nat.reduceAdd, Nat.reduceSub, List.cons_append, List.nil_append, Tg.put, Tg.names, srcRes, srcOf, Sk.out, Sk.pure, wipeE, Op1.run, Op2.run, slc3, okI, okB, okA, isSc_i, isSc_b, isSc_s, isSc_n, isNon_i, isNon_b, isNon_l, isNon_n, eqS_ii, eqS_bb, inF_ints, ints_map, ints_mapf, bit, IDef.mut, kAt, ownK, if_true, if_false, ↓reduceIte, Bool.false_eq_true, decide_true, decide_false, Bool.not_true, Bool.not_false, true_and, and_true, and_self, Option.isSome_some, Option.isSome_none, eq_self, rd]⟩)
  subst this
  simp only [evE.eq_1, evE.eq_2, evE.eq_3, evE.eq_4, evE.eq_5, evE.eq_6, evE.eq_7, evE.eq_8, evE.eq_9, evE.eq_10, evE.eq_11, evE.eq_12, evE.eq_13, evE.eq_14, evE.eq_15, evE.eq_16, evE.eq_17, evE.eq_18, evE.eq_19, evE.eq_20, evE.eq_21, evE.eq_22, evEs.eq_1, evEs.eq_2, evS.eq_1, evS.eq_2, evS.eq_3, evS.eq_4, evS.eq_5, evS.eq_6, evS.eq_7, evS.eq_8, evS.eq_9, evS.eq_10, evS.eq_11, evS.eq_12, evS.eq_13, evS.eq_14, evS.eq_15, evS.eq_16, evS.eq_17, evS.eq_18, evS.eq_19, evS.eq_20, evSs.eq_1, evSs.eq_2, TW.gt, TW.st, TW.sts, TW.start, List.map_cons, List.map_nil, List.length_cons, List.length_nil, List.length_map, List.replicate_succ, List.replicate_zero, Nat.reduceAdd, Nat.reduceSub, List.cons_append, List.nil_append, Tg.put, Tg.names, srcRes, srcOf, Sk.out, Sk.pure, wipeE, Op1.run, Op2.run, slc3, okI, okB, okA, isSc_i, isSc_b, isSc_s, isSc_n, isNon_i, isNon_b, isNon_l, isNon_n, eqS_ii, eqS_bb, inF_ints, ints_map, ints_mapf, bit, IDef.mut, kAt, ownK, if_true, if_false, ↓reduceIte, Bool.false_eq_true, decide_true, decide_false, Bool.not_true, Bool.not_false, true_and, and_true, and_self, Option.isSome_some, Option.isSome_none, eq_self, rg, b1] at ho
  generalize hF : forGo _ _ _ _ = o at ho
  obtain ⟨ρ, rfl, a, rfl⟩ := for_inv hF D.int (plc n) (fun pre ρ => ∃ a, ρ = [some (.scr ns), some (rds rs), some (li (pre.map fun p => ((nbs rs p).length : Int))), a, none, none, none, some (.int n), some (rds rs), none, none, none]) rfl ⟨_, rfl⟩ (by
    rintro pre p r ρ e ⟨a, rfl⟩
    refine ⟨_, rfl, ?_⟩
    have hp : Pl n p := plc_mem.mp (by rw [e]; simp)
    have lp : pre.length < n := by have := congrArg List.length e; rw [plc_len] at this; simp at this; omega
    have l2 : pre.length < lim := by unfold lim; omega
    simp only [evE.eq_1, evE.eq_2, evE.eq_3, evE.eq_4, evE.eq_5, evE.eq_6, evE.eq_7, evE.eq_8, evE.eq_9, evE.eq_10, evE.eq_11, evE.eq_12, evE.eq_13, evE.eq_14, evE.eq_15, evE.eq_16, evE.eq_17, evE.eq_18, evE.eq_19, evE.eq_20, evE.eq_21, evE.eq_22, evEs.eq_1, evEs.eq_2, evS.eq_1, evS.eq_2, evS.eq_3, evS.eq_4, evS.eq_5, evS.eq_6, evS.eq_7, evS.eq_8, evS.eq_9, evS.eq_10, evS.eq_11, evS.eq_12, evS.eq_13, evS.eq_14, evS.eq_15, evS.eq_16, evS.eq_17, evS.eq_18, evS.eq_19, evS.eq_20, evSs.eq_1, evSs.eq_2, TW.gt, TW.st, TW.sts, TW.start, List.map_cons, List.map_nil, List.length_cons, List.length_nil, List.length_map, List.replicate_succ, List.replicate_zero, Nat.reduceAdd, Nat.reduceSub, List.cons_append, List.nil_append, Tg.put, Tg.names, srcRes, srcOf, Sk.out, Sk.pure, wipeE, Op1.run, Op2.run, slc3, okI, okB, okA, isSc_i, isSc_b, isSc_s, isSc_n, isNon_i, isNon_b, isNon_l, isNon_n, eqS_ii, eqS_bb, inF_ints, ints_map, ints_mapf, bit, IDef.mut, kAt, ownK, if_true, if_false, ↓reduceIte, Bool.false_eq_true, decide_true, decide_false, Bool.not_true, Bool.not_false, true_and, and_true, and_self, Option.isSome_some, Option.isSome_none, eq_self, rds, l1, li, l2]
    generalize hL : lcGo _ _ _ _ _ = o
    have := lc_all hL rd rs (fun r => .int ((if r.1 = p then (1 : Int) else 0) + if r.2.1 = p then (1 : Int) else 0)) rfl (by
      rintro ⟨x, y, l⟩ hr
      refine ⟨_, rfl, [some (.scr ns), some (rds rs), some (li (pre.map fun p => ((nbs rs p).length : Int))), some (.int p), none, none, none, some (.int n), some (rds rs), none, none, some (rd (x, y, l))], ?_⟩
      simp only [evE.eq_1, evE.eq_2, evE.eq_3, evE.eq_4, evE.eq_5, evE.eq_6, evE.eq_7, evE.eq_8, evE.eq_9, evE.eq_10, evE.eq_11, evE.eq_12, evE.eq_13, evE.eq_14, evE.eq_15, evE.eq_16, evE.eq_17, evE.eq_18, evE.eq_19, evE.eq_20, evE.eq_21, evE.eq_22, evEs.eq_1, evEs.eq_2, evS.eq_1, evS.eq_2, evS.eq_3, evS.eq_4, evS.eq_5, evS.eq_6, evS.eq_7, evS.eq_8, evS.eq_9, evS.eq_10, evS.eq_11, evS.eq_12, evS.eq_13, evS.eq_14, evS.eq_15, evS.eq_16, evS.eq_17, evS.eq_18, evS.eq_19, evS.eq_20, evSs.eq_1, evSs.eq_2, TW.gt, TW.st, TW.sts, TW.start, List.map_cons, List.map_nil, List.length_cons, List.length_nil, List.length_map, List.replicate_succ, List.replicate_zero, Nat.reduceAdd, Nat.reduceSub, List.cons_append, List.nil_append, Tg.put, Tg.names, srcRes, srcOf, Sk.out, Sk.pure, wipeE, Op1.run, Op2.run, slc3, okI, okB, okA, isSc_i, isSc_b, isSc_s, isSc_n, isNon_i, isNon_b, isNon_l, isNon_n, eqS_ii, eqS_bb, inF_ints, ints_map, ints_mapf, bit, IDef.mut, kAt, ownK, if_true, if_false, ↓reduceIte, Bool.false_eq_true, decide_true, decide_false, Bool.not_true, Bool.not_false, true_and, and_true, and_self, Option.isSome_some, Option.isSome_none, eq_self, rd, nth3_0, nth3_1, rds, li, decide_eq_true_eq])
    subst this
    refine ⟨_, by simp only [evE.eq_1, evE.eq_2, evE.eq_3, evE.eq_4, evE.eq_5, evE.eq_6, evE.eq_7, evE.eq_8, evE.eq_9, evE.eq_10, evE.eq_11, evE.eq_12, evE.eq_13, evE.eq_14, evE.eq_15, evE.eq_16, evE.eq_17, evE.eq_18, evE.eq_19, evE.eq_20, evE.eq_21, evE.eq_22, evEs.eq_1, evEs.eq_2, evS.eq_1, evS.eq_2, evS.eq_3, evS.eq_4, evS.eq_5, evS.eq_6, evS.eq_7, evS.eq_8, evS.eq_9, evS.eq_10, evS.eq_11, evS.eq_12, evS.eq_13, evS.eq_14, evS.eq_15, evS.eq_16, evS.eq_17, evS.eq_18, evS.eq_19, evS.eq_20, evSs.eq_1, evSs.eq_2, TW.gt, TW.st, TW.sts, TW.start, List.map_cons, List.map_nil, List.length_cons, List.length_nil, List.length_map, List.replicate_succ, List.replicate_zero, Nat.reduceAdd, Nat.reduceSub, List.cons_append, List.nil_append, Tg.put, Tg.names, srcRes, srcOf, Sk.out, Sk.pure, wipeE, Op1.run, Op2.run, slc3, okI, okB, okA, isSc_i, isSc_b, isSc_s, isSc_n, isNon_i, isNon_b, isNon_l, isNon_n, eqS_ii, eqS_bb, inF_ints, ints_map, ints_mapf, bit, IDef.mut, kAt, ownK, if_true, if_false, ↓reduceIte, Bool.false_eq_true, decide_true, decide_false, Bool.not_true, Bool.not_false, true_and, and_true, and_self, Option.isSome_some, Option.isSome_none, eq_self, ← nbs_deg, l2] <;> rfl, some (.int p), by simp [li, rds]⟩)
  simp only [evE.eq_1, evE.eq_2, evE.eq_3, evE.eq_4, evE.eq_5, evE.eq_6, evE.eq_7, evE.eq_8, evE.eq_9, evE.eq_10, evE.eq_11, evE.eq_12, evE.eq_13, evE.eq_14, evE.eq_15, evE.eq_16, evE.eq_17, evE.eq_18, evE.eq_19, evE.eq_20, evE.eq_21, evE.eq_22, evEs.eq_1, evEs.eq_2, evS.eq_1, evS.eq_2, evS.eq_3, evS.eq_4, evS.eq_5, evS.eq_6, evS.eq_7, evS.eq_8, evS.eq_9, evS.eq_10, evS.eq_11, evS.eq_12, evS.eq_13, evS.eq_14, evS.eq_15, evS.eq_16, evS.eq_17, evS.eq_18, evS.eq_19, evS.eq_20, evSs.eq_1, evSs.eq_2, TW.gt, TW.st, TW.sts, TW.start, List.map_cons, List.map_nil, List.length_cons, List.length_nil, List.length_map, List.replicate_succ, List.replicate_zero, Nat.reduceAdd, Nat.reduceSub, List.cons_append, List.nil_append, Tg.put, Tg.names, srcRes, srcOf, Sk.out, Sk.pure, wipeE, Op1.run, Op2.run, slc3, okI, okB, okA, isSc_i, isSc_b, isSc_s, isSc_n, isNon_i, isNon_b, isNon_l, isNon_n, eqS_ii, eqS_bb, inF_ints, ints_map, ints_mapf, bit, IDef.mut, kAt, ownK, if_true, if_false, ↓reduceIte, Bool.false_eq_true, decide_true, decide_false, Bool.not_true, Bool.not_false, true_and, and_true, and_self, Option.isSome_some, Option.isSome_none, eq_self, rg, b1, plc_len, b2] at ho
  generalize hL : lcGo _ _ _ _ _ = o at ho
  have := lc_map hL D.int (plc n) (fun p => decide ((nbs rs p).length = 1)) .int rfl (by
    intro p hp
    have n1 := nth_plc (plc_mem.mp hp) (fun p => .int ((nbs rs p).length))
    have e : decide (((nbs rs p).length : Int) = 1) = decide ((nbs rs p).length = 1) := decide_eq_decide.mpr (by omega)
    refine ⟨_, rfl, [some (.scr ns), some (rds rs), some (.lst ((plc n).map fun p => .int ((nbs rs p).length))), some (.int p), none, none, none, some (.int n), some (rds rs), none, none, none], by simp only [evE.eq_1, evE.eq_2, evE.eq_3, evE.eq_4, evE.eq_5, evE.eq_6, evE.eq_7, evE.eq_8, evE.eq_9, evE.eq_10, evE.eq_11, evE.eq_12, evE.eq_13, evE.eq_14, evE.eq_15, evE.eq_16, evE.eq_17, evE.eq_18, evE.eq_19, evE.eq_20, evE.eq_21, evE.eq_22, evEs.eq_1, evEs.eq_2, evS.eq_1, evS.eq_2, evS.eq_3, evS.eq_4, evS.eq_5, evS.eq_6, evS.eq_7, evS.eq_8, evS.eq_9, evS.eq_10, evS.eq_11, evS.eq_12, evS.eq_13, evS.eq_14, evS.eq_15, evS.eq_16, evS.eq_17, evS.eq_18, evS.eq_19, evS.eq_20, evSs.eq_1, evSs.eq_2, TW.gt, TW.st, TW.sts, TW.start, List.map_cons, List.map_nil, List.length_cons, List.length_nil, List.length_map, List.replicate_succ, List.replicate_zero, Nat.reduceAdd, Nat.reduceSub, List.cons_append, List.nil_append, Tg.put, Tg.names, srcRes, srcOf, Sk.out, Sk.pure, wipeE, Op1.run, Op2.run, slc3, okI, okB, okA, isSc_i, isSc_b, isSc_s, isSc_n, isNon_i, isNon_b, isNon_l, isNon_n, eqS_ii, eqS_bb, inF_ints, ints_map, ints_mapf, bit, IDef.mut, kAt, ownK, if_true, if_false, ↓reduceIte, Bool.false_eq_true, decide_true, decide_false, Bool.not_true, Bool.not_false, true_and, and_true, and_self, Option.isSome_some, Option.isSome_none, eq_self, li, List.map_map, Function.comp_def, n1, e], fun _ => ⟨[some (.scr ns), some (rds rs), some (.lst ((plc n).map fun p => .int ((nbs rs p).length))), some (.int p), none, none, none, some (.int n), some (rds rs), none, none, none], by simp only [evE.eq_1, evE.eq_2, evE.eq_3, evE.eq_4, evE.eq_5, evE.eq_6, evE.eq_7, evE.eq_8, evE.eq_9, evE.eq_10, evE.eq_11, evE.eq_12, evE.eq_13, evE.eq_14, evE.eq_15, evE.eq_16, evE.eq_17, evE.eq_18, evE.eq_19, evE.eq_20, evE.eq_21, evE.eq_22, evEs.eq_1, evEs.eq_2, evS.eq_1, evS.eq_2, evS.eq_3, evS.eq_4, evS.eq_5, evS.eq_6, evS.eq_7, evS.eq_8, evS.eq_9, evS.eq_10, evS.eq_11, evS.eq_12, evS.eq_13, evS.eq_14, evS.eq_15, evS.eq_16, evS.eq_17, evS.eq_18, evS.eq_19, evS.eq_20, evSs.eq_1, evSs.eq_2, TW.gt, TW.st, TW.sts, TW.start, List.map_cons, List.map_nil, List.length_cons, List.length_nil, List.length_map, List.replicate_succ, List.replicate_zero, Nat.reduceAdd, Nat.reduceSub, List.cons_append, List.nil_append, Tg.put, Tg.names, srcRes, srcOf, Sk.out, Sk.pure, wipeE, Op1.run, Op2.run, slc3, okI, okB, okA, isSc_i, isSc_b, isSc_s, isSc_n, isNon_i, isNon_b, isNon_l, isNon_n, eqS_ii, eqS_bb, inF_ints, ints_map, ints_mapf, bit, IDef.mut, kAt, ownK, if_true, if_false, ↓reduceIte, Bool.false_eq_true, decide_true, decide_false, Bool.not_true, Bool.not_false, true_and, and_true, and_self, Option.isSome_some, Option.isSome_none, eq_self, li, List.map_map, Function.comp_def]⟩⟩)
  subst this
  simp only [evE.eq_1, evE.eq_2, evE.eq_3, evE.eq_4, evE.eq_5, evE.eq_6, evE.eq_7, evE.eq_8, evE.eq_9, evE.eq_10, evE.eq_11, evE.eq_12, evE.eq_13, evE.eq_14, evE.eq_15, evE.eq_16, evE.eq_17, evE.eq_18, evE.eq_19, evE.eq_20, evE.eq_21, evE.eq_22, evEs.eq_1, evEs.eq_2, evS.eq_1, evS.eq_2, evS.eq_3, evS.eq_4, evS.eq_5, evS.eq_6, evS.eq_7, evS.eq_8, evS.eq_9, evS.eq_10, evS.eq_11, evS.eq_12, evS.eq_13, evS.eq_14, evS.eq_15, evS.eq_16, evS.eq_17, evS.eq_18, evS.eq_19, evS.eq_20, evSs.eq_1, evSs.eq_2, TW.gt, TW.st, TW.sts, TW.start, List.map_cons, List.map_nil, List.length_cons, List.length_nil, List.length_map, List.replicate_succ, List.replicate_zero, Nat.reduceAdd, Nat.reduceSub, List.cons_append, List.nil_append, Tg.put, Tg.names, srcRes, srcOf, Sk.out, Sk.pure, wipeE, Op1.run, Op2.run, slc3, okI, okB, okA, isSc_i, isSc_b, isSc_s, isSc_n, isNon_i, isNon_b, isNon_l, isNon_n, eqS_ii, eqS_bb, inF_ints, ints_map, ints_mapf, bit, IDef.mut, kAt, ownK, if_true, if_false, ↓reduceIte, Bool.false_eq_true, decide_true, decide_false, Bool.not_true, Bool.not_false, true_and, and_true, and_self, Option.isSome_some, Option.isSome_none, eq_self, rg, b1, plc_len, b2] at ho
  generalize hL : lcGo _ _ _ _ _ = o at ho
  have := lc_map hL D.int (plc n) (fun p => decide ((nbs rs p).length % 2 = 1)) .int rfl (by
    intro p hp
    have n1 := nth_plc (plc_mem.mp hp) (fun p => .int ((nbs rs p).length))
    have lt := nbs_lt T p
    have i1 := inF_ints ((nbs rs p).length : Int) [1, 3, 5]
    have i2 := inF_ints ((nbs rs p).length : Int) [7, 9, 11]
    simp only [List.map_cons, List.map_nil] at i1 i2
    generalize (nbs rs p).length = k at *
    by_cases e : ((k : Int) ∈ [(1 : Int), 3, 5])
    · have d1 := decide_eq_true e
      have d2 : decide (k % 2 = 1) = true := by simp at e; simp; omega
      refine ⟨_, rfl, [some (.scr ns), some (rds rs), some (.lst ((plc n).map fun p => .int ((nbs rs p).length))), some (.int p), some (li ((plc n).filter fun p => decide ((nbs rs p).length = 1))), none, none, some (.int n), some (rds rs), none, none, none], ?_, fun _ => ⟨[some (.scr ns), some (rds rs), some (.lst ((plc n).map fun p => .int ((nbs rs p).length))), some (.int p), some (li ((plc n).filter fun p => decide ((nbs rs p).length = 1))), none, none, some (.int n), some (rds rs), none, none, none], by simp only [evE.eq_1, evE.eq_2, evE.eq_3, evE.eq_4, evE.eq_5, evE.eq_6, evE.eq_7, evE.eq_8, evE.eq_9, evE.eq_10, evE.eq_11, evE.eq_12, evE.eq_13, evE.eq_14, evE.eq_15, evE.eq_16, evE.eq_17, evE.eq_18, evE.eq_19, evE.eq_20, evE.eq_21, evE.eq_22, evEs.eq_1, evEs.eq_2, evS.eq_1, evS.eq_2, evS.eq_3, evS.eq_4, evS.eq_5, evS.eq_6, evS.eq_7, evS.eq_8, evS.eq_9, evS.eq_10, evS.eq_11, evS.eq_12, evS.eq_13, evS.eq_14, evS.eq_15, evS.eq_16, evS.eq_17, evS.eq_18, evS.eq_19, evS.eq_20, evSs.eq_1, evSs.eq_2, TW.gt, TW.st, TW.sts, TW.start, List.map_cons, List.map_nil, List.length_cons, List.length_nil, List.length_map, List.replicate_succ, List.replicate_zero, Nat.reduceAdd, Nat.reduceSub, List.cons_append, List.nil_append, Tg.put, Tg.names, srcRes, srcOf, Sk.out, Sk.pure, wipeE, Op1.run, Op2.run, slc3, okI, okB, okA, isSc_i, isSc_b, isSc_s, isSc_n, isNon_i, isNon_b, isNon_l, isNon_n, eqS_ii, eqS_bb, inF_ints, ints_map, ints_mapf, bit, IDef.mut, kAt, ownK, if_true, if_false, ↓reduceIte, Bool.false_eq_true, decide_true, decide_false, Bool.not_true, Bool.not_false, true_and, and_true, and_self, Option.isSome_some, Option.isSome_none, eq_self, li, List.map_map, Function.comp_def]⟩⟩
      simp only [evE.eq_1, evE.eq_2, evE.eq_3, evE.eq_4, evE.eq_5, evE.eq_6, evE.eq_7, evE.eq_8, evE.eq_9, evE.eq_10, evE.eq_11, evE.eq_12, evE.eq_13, evE.eq_14, evE.eq_15, evE.eq_16, evE.eq_17, evE.eq_18, evE.eq_19, evE.eq_20, evE.eq_21, evE.eq_22, evEs.eq_1, evEs.eq_2, evS.eq_1, evS.eq_2, evS.eq_3, evS.eq_4, evS.eq_5, evS.eq_6, evS.eq_7, evS.eq_8, evS.eq_9, evS.eq_10, evS.eq_11, evS.eq_12, evS.eq_13, evS.eq_14, evS.eq_15, evS.eq_16, evS.eq_17, evS.eq_18, evS.eq_19, evS.eq_20, evSs.eq_1, evSs.eq_2, TW.gt, TW.st, TW.sts, TW.start, List.map_cons, List.map_nil, List.length_cons, List.length_nil, List.length_map, List.replicate_succ, List.replicate_zero, Nat.reduceAdd, Nat.reduceSub, List.cons_append, List.nil_append, Tg.put, Tg.names, srcRes, srcOf, Sk.out, Sk.pure, wipeE, Op1.run, Op2.run, slc3, okI, okB, okA, isSc_i, isSc_b, isSc_s, isSc_n, isNon_i, isNon_b, isNon_l, isNon_n, eqS_ii, eqS_bb, inF_ints, ints_map, ints_mapf, bit, IDef.mut, kAt, ownK, if_true, if_false, ↓reduceIte, Bool.false_eq_true, decide_true, decide_false, Bool.not_true, Bool.not_false, true_and, and_true, and_self, Option.isSome_some, Option.isSome_none, eq_self, li, List.map_map, Function.comp_def, n1, i1, d1, d2]
    · have d1 := decide_eq_false e
      have d2 : decide ((k : Int) ∈ [(7 : Int), 9, 11]) = decide (k % 2 = 1) := decide_eq_decide.mpr (by simp at e ⊢; omega)
      refine ⟨_, rfl, [some (.scr ns), some (rds rs), some (.lst ((plc n).map fun p => .int ((nbs rs p).length))), some (.int p), some (li ((plc n).filter fun p => decide ((nbs rs p).length = 1))), none, none, some (.int n), some (rds rs), none, none, none], ?_, fun _ => ⟨[some (.scr ns), some (rds rs), some (.lst ((plc n).map fun p => .int ((nbs rs p).length))), some (.int p), some (li ((plc n).filter fun p => decide ((nbs rs p).length = 1))), none, none, some (.int n), some (rds rs), none, none, none], by simp only [evE.eq_1, evE.eq_2, evE.eq_3, evE.eq_4, evE.eq_5, evE.eq_6, evE.eq_7, evE.eq_8, evE.eq_9, evE.eq_10, evE.eq_11, evE.eq_12, evE.eq_13, evE.eq_14, evE.eq_15, evE.eq_16, evE.eq_17, evE.eq_18, evE.eq_19, evE.eq_20, evE.eq_21, evE.eq_22, evEs.eq_1, evEs.eq_2, evS.eq_1, evS.eq_2, evS.eq_3, evS.eq_4, evS.eq_5, evS.eq_6, evS.eq_7, evS.eq_8, evS.eq_9, evS.eq_10, evS.eq_11, evS.eq_12, evS.eq_13, evS.eq_14, evS.eq_15, evS.eq_16, evS.eq_17, evS.eq_18, evS.eq_19, evS.eq_20, evSs.eq_1, evSs.eq_2, TW.gt, TW.st, TW.sts, TW.start, List.map_cons, List.map_nil, List.length_cons, List.length_nil, List.length_map, List.replicate_succ, List.replicate_zero, Nat.reduceAdd, Nat.reduceSub, List.cons_append, List.nil_append, Tg.put, Tg.names, srcRes, srcOf, Sk.out, Sk.pure, wipeE, Op1.run, Op2.run, slc3, okI, okB, okA, isSc_i, isSc_b, isSc_s, isSc_n, isNon_i, isNon_b, isNon_l, isNon_n, eqS_ii, eqS_bb, inF_ints, ints_map, ints_mapf, bit, IDef.mut, kAt, ownK, if_true, if_false, ↓reduceIte, Bool.false_eq_true, decide_true, decide_false, Bool.not_true, Bool.not_false, true_and, and_true, and_self, Option.isSome_some, Option.isSome_none, eq_self, li, List.map_map, Function.comp_def]⟩⟩
      simp only [evE.eq_1, evE.eq_2, evE.eq_3, evE.eq_4, evE.eq_5, evE.eq_6, evE.eq_7, evE.eq_8, evE.eq_9, evE.eq_10, evE.eq_11, evE.eq_12, evE.eq_13, evE.eq_14, evE.eq_15, evE.eq_16, evE.eq_17, evE.eq_18, evE.eq_19, evE.eq_20, evE.eq_21, evE.eq_22, evEs.eq_1, evEs.eq_2, evS.eq_1, evS.eq_2, evS.eq_3, evS.eq_4, evS.eq_5, evS.eq_6, evS.eq_7, evS.eq_8, evS.eq_9, evS.eq_10, evS.eq_11, evS.eq_12, evS.eq_13, evS.eq_14, evS.eq_15, evS.eq_16, evS.eq_17, evS.eq_18, evS.eq_19, evS.eq_20, evSs.eq_1, evSs.eq_2, TW.gt, TW.st, TW.sts, TW.start, List.map_cons, List.map_nil, List.length_cons, List.length_nil, List.length_map, List.replicate_succ, List.replicate_zero, Nat.reduceAdd, Nat.reduceSub, List.cons_append, List.nil_append, Tg.put, Tg.names, srcRes, srcOf, Sk.out, Sk.pure, wipeE, Op1.run, Op2.run, slc3, okI, okB, okA, isSc_i, isSc_b, isSc_s, isSc_n, isNon_i, isNon_b, isNon_l, isNon_n, eqS_ii, eqS_bb, inF_ints, ints_map, ints_mapf, bit, IDef.mut, kAt, ownK, if_true, if_false, ↓reduceIte, Bool.false_eq_true, decide_true, decide_false, Bool.not_true, Bool.not_false, true_and, and_true, and_self, Option.isSome_some, Option.isSome_none, eq_self, li, List.map_map, Function.comp_def, n1, i1, i2, d1, d2])
  subst this
  have r2 : rng 0 2 1 = [0, 1] := rfl
  have b5 : ((2 : Int) ≤ (lim : Nat) ∧ -big ≤ (2 : Int)) := by unfold lim big; omega
  simp only [evE.eq_1, evE.eq_2, evE.eq_3, evE.eq_4, evE.eq_5, evE.eq_6, evE.eq_7, evE.eq_8, evE.eq_9, evE.eq_10, evE.eq_11, evE.eq_12, evE.eq_13, evE.eq_14, evE.eq_15, evE.eq_16, evE.eq_17, evE.eq_18, evE.eq_19, evE.eq_20, evE.eq_21, evE.eq_22, evEs.eq_1, evEs.eq_2, evS.eq_1, evS.eq_2, evS.eq_3, evS.eq_4, evS.eq_5, evS.eq_6, evS.eq_7, evS.eq_8, evS.eq_9, evS.eq_10, evS.eq_11, evS.eq_12, evS.eq_13, evS.eq_14, evS.eq_15, evS.eq_16, evS.eq_17, evS.eq_18, evS.eq_19, evS.eq_20, evSs.eq_1, evSs.eq_2, TW.gt, TW.st, TW.sts, TW.start, List.map_cons, List.map_nil, List.length_cons, List.length_nil, List.length_map, List.replicate_succ, List.replicate_zero, Nat.reduceAdd, Nat.reduceSub, List.cons_append, List.nil_append, Tg.put, Tg.names, srcRes, srcOf, Sk.out, Sk.pure, wipeE, Op1.run, Op2.run, slc3, okI, okB, okA, isSc_i, isSc_b, isSc_s, isSc_n, isNon_i, isNon_b, isNon_l, isNon_n, eqS_ii, eqS_bb, inF_ints, ints_map, ints_mapf, bit, IDef.mut, kAt, ownK, if_true, if_false, ↓reduceIte, Bool.false_eq_true, decide_true, decide_false, Bool.not_true, Bool.not_false, true_and, and_true, and_self, Option.isSome_some, Option.isSome_none, eq_self, r2, b5] at ho
  have k1 := run_leaves T h12 (m := m) (by omega)
  have k2 := run_odd_places T h12 (m := m) (by omega)
  have k3 := run_like (m := m) (by omega) ((plc n).filter fun p => decide ((nbs rs p).length = 1))
  have k4 := run_like (m := m) (by omega) ((plc n).filter fun p => decide ((nbs rs p).length % 2 = 1))
  have f1 : ((plc n).filter fun p => decide ((nbs rs p).length = 1)).length < lim := Nat.lt_of_le_of_lt (List.length_filter_le _ _) (by rw [plc_len]; unfold lim; omega)
  generalize (plc n).filter (fun p => decide ((nbs rs p).length = 1)) = X at *
  generalize (plc n).filter (fun p => decide ((nbs rs p).length % 2 = 1)) = Y at *
  have q1 := beq_rds_self rs
  have q2 := eqable_rds rs
  simp only [rds, li] at k1 k2 k3 k4 q1 q2 ho
  simp only [forGo, evE.eq_1, evE.eq_2, evE.eq_3, evE.eq_4, evE.eq_5, evE.eq_6, evE.eq_7, evE.eq_8, evE.eq_9, evE.eq_10, evE.eq_11, evE.eq_12, evE.eq_13, evE.eq_14, evE.eq_15, evE.eq_16, evE.eq_17, evE.eq_18, evE.eq_19, evE.eq_20, evE.eq_21, evE.eq_22, evEs.eq_1, evEs.eq_2, evS.eq_1, evS.eq_2, evS.eq_3, evS.eq_4, evS.eq_5, evS.eq_6, evS.eq_7, evS.eq_8, evS.eq_9, evS.eq_10, evS.eq_11, evS.eq_12, evS.eq_13, evS.eq_14, evS.eq_15, evS.eq_16, evS.eq_17, evS.eq_18, evS.eq_19, evS.eq_20, evSs.eq_1, evSs.eq_2, TW.gt, TW.st, TW.sts, TW.start, List.map_cons, List.map_nil, List.length_cons, List.length_nil, List.length_map, List.replicate_succ, List.replicate_zero, Nat.reduceAdd, Nat.reduceSub, List.cons_append, List.nil_append, Tg.put, Tg.names, srcRes, srcOf, Sk.out, Sk.pure, wipeE, Op1.run, Op2.run, slc3, okI, okB, okA, isSc_i, isSc_b, isSc_s, isSc_n, isNon_i, isNon_b, isNon_l, isNon_n, eqS_ii, eqS_bb, inF_ints, ints_map, ints_mapf, bit, IDef.mut, kAt, ownK, if_true, if_false, ↓reduceIte, Bool.false_eq_true, decide_true, decide_false, Bool.not_true, Bool.not_false, true_and, and_true, and_self, Option.isSome_some, Option.isSome_none, eq_self, rds, li, k1, k2, k3, k4, f1, q1, q2, Bool.and_self] at ho
  exact ⟨_, ho.symm⟩
end TW.M

namespace TW.M
open PySem
theorem nth_rowA {n : Nat} {d : Int → Int → Int} {s v : Int} (hv : Pl n v) : nth (((plc n).map fun v => d s v).map D.int) v = some (.int (d s v)) := by
  rw [List.map_map]; exact nth_plc hv (fun v => .int (d s v))
theorem law03 {m : Nat} (hm : 20 ≤ m) {ns : List Int} (hz : ∀ z ∈ ns, Sz 1048577 z) : (sems defs m 27).run [.scr ns] = .ok (.bl true, []) := by
  obtain ⟨m, rfl, hm1⟩ := suc_of hm
  obtain ⟨n, rs, c1, it, sm, h12⟩ := run_law_tree (m := m) (by omega) hz
  obtain ⟨d, T⟩ := tree_tr it
  suffices H : ∃ ρ, evSs (sems defs m) d_law_27.body (start d_law_27.ns [.scr ns]) = .rt (.bl true) ρ by
    obtain ⟨ρ, h⟩ := H
    exact run_rt (d := d_law_27) rfl rfl rfl h
  obtain ⟨o1, ho⟩ : ∃ o1, evSs (sems defs m) d_law_27.body (start d_law_27.ns [.scr ns]) = o1 := ⟨_, rfl⟩
  rw [ho]
  have ln := T.len
  have l1 : rs.length ≤ lim := by unfold lim; omega
  have rg := rng0 n
  have b1 : ((n : Int) ≤ (lim : Nat) ∧ -big ≤ (n : Int)) := by unfold lim big; omega
  have b2 : n ≤ lim := by unfold lim; omega
  simp only [d_law_27, evE.eq_1, evE.eq_2, evE.eq_3, evE.eq_4, evE.eq_5, evE.eq_6, evE.eq_7, evE.eq_8, evE.eq_9, evE.eq_10, evE.eq_11, evE.eq_12, evE.eq_13, evE.eq_14, evE.eq_15, evE.eq_16, evE.eq_17, evE.eq_18, evE.eq_19, evE.eq_20, evE.eq_21, evE.eq_22, evEs.eq_1, evEs.eq_2, evS.eq_1, evS.eq_2, evS.eq_3, evS.eq_4, evS.eq_5, evS.eq_6, evS.eq_7, evS.eq_8, evS.eq_9, evS.eq_10, evS.eq_11, evS.eq_12, evS.eq_13, evS.eq_14, evS.eq_15, evS.eq_16, evS.eq_17, evS.eq_18, evS.eq_19, evS.eq_20, evSs.eq_1, evSs.eq_2, TW.gt, TW.st, TW.sts, TW.start, List.map_cons, List.map_nil, List.length_cons, List.length_nil, List.length_map, List.replicate_succ, List.replicate_zero, Nat.reduceAdd, Nat.reduceSub, List.cons_append, List.nil_append, Tg.put, Tg.names, srcRes, srcOf, Sk.out, Sk.pure, wipeE, Op1.run, Op2.run, slc3, okI, okB, okA, isSc_i, isSc_b, isSc_s, isSc_n, isNon_i, isNon_b, isNon_l, isNon_n, eqS_ii, eqS_bb, inF_ints, ints_map, ints_mapf, bit, IDef.mut, kAt, ownK, if_true, if_false, ↓reduceIte, Bool.false_eq_true, decide_true, decide_false, Bool.not_true, Bool.not_false, true_and, and_true, and_self, Option.isSome_some, Option.isSome_none, eq_self, c1, rds, l1] at ho
  generalize hL : lcGo _ _ _ _ _ = o at ho
  have := lc_all hL rd rs rd rfl (by
    intro r hr
    exact ⟨_, rfl, [some (.scr ns), none, some (rd r), some (.int n), some (.lst (rs.map rd)), none, none, none, none, none, none, none], by simp only [evE.eq_1, evE.eq_2, evE.eq_3, evE.eq_4, evE.eq_5, evE.eq_6, evE.eq_7, evE.eq_8, evE.eq_9, evE.eq_10, evE.eq_11, evE.eq_12, evE.eq_13, evE.eq_14, evE.eq_15, evE.eq_16, evE.eq_17, evE.eq_18, evE.eq_19, evE.eq_20, evE.eq_21, evE.eq_22, evEs.eq_1, evEs.eq_2, evS.eq_1, evS.eq_2, evS.eq_3, evS.eq_4, evS.eq_5, evS.eq_6, evS.eq_7, evS.eq_8, evS.eq_9, evS.eq_10, evS.eq_11, evS.eq_12, evS.eq_13, evS.eq_14, evS.eq_15, evS.eq_16, evS.eq_17, evS.eq_18, evS.eq_19, evS.eq_20, evSs.eq_1, evSs.eq_2, TW.gt, TW.st, TW.sts, TW.start, List.map_cons, List.map_nil, List.length_cons, List.length_nil, List.length_map, List.replicate_succ, List.replicate_zero, Nat.reduceAdd, Nat.reduceSub, List.cons_append, List.nil_append, Tg.put, Tg.names, srcRes, srcOf, Sk.out, Sk.pure, wipeE, Op1.run, Op2.run, slc3, okI, okB, okA, isSc_i, isSc_b, isSc_s, isSc_n, isNon_i, isNon_b, isNon_l, isNon_n, eqS_ii, eqS_bb, inF_ints, ints_map, ints_mapf, bit, IDef.mut, kAt, ownK, if_true, if_false, ↓reduceIte, Bool.false_eq_true, decide_true, decide_false, Bool.not_true, Bool.not_false, true_and, and_true, and_self, Option.isSome_some, Option.isSome_none, eq_self, rd]⟩)
  subst this
  simp only [evE.eq_1, evE.eq_2, evE.eq_3, evE.eq_4, evE.eq_5, evE.eq_6, evE.eq_7, evE.eq_8, evE.eq_9, evE.eq_10, evE.eq_11, evE.eq_12, evE.eq_13, evE.eq_14, evE.eq_15, evE.eq_16, evE.eq_17, evE.eq_18, evE.eq_19, evE.eq_20, evE.eq_21, evE.eq_22, evEs.eq_1, evEs.eq_2, evS.eq_1, evS.eq_2, evS.eq_3, evS.eq_4, evS.eq_5, evS.eq_6, evS.eq_7, evS.eq_8, evS.eq_9, evS.eq_10, evS.eq_11, evS.eq_12, evS.eq_13, evS.eq_14, evS.eq_15, evS.eq_16, evS.eq_17, evS.eq_18, evS.eq_19, evS.eq_20, evSs.eq_1, evSs.eq_2, TW.gt, TW.st, TW.sts, TW.start, List.map_cons, List.map_nil, List.length_cons, List.length_nil, List.length_map, List.replicate_succ, List.replicate_zero, Nat.reduceAdd, Nat.reduceSub, List.cons_append, List.nil_append, Tg.put, Tg.names, srcRes, srcOf, Sk.out, Sk.pure, wipeE, Op1.run, Op2.run, slc3, okI, okB, okA, isSc_i, isSc_b, isSc_s, isSc_n, isNon_i, isNon_b, isNon_l, isNon_n, eqS_ii, eqS_bb, inF_ints, ints_map, ints_mapf, bit, IDef.mut, kAt, ownK, if_true, if_false, ↓reduceIte, Bool.false_eq_true, decide_true, decide_false, Bool.not_true, Bool.not_false, true_and, and_true, and_self, Option.isSome_some, Option.isSome_none, eq_self] at ho
  generalize hF : forGo _ _ _ _ = o at ho
  obtain ⟨ρ, rfl, a1, a2, a3, a4, a5, a6, a7, a8, rfl⟩ := for_inv hF rd rs (fun pre ρ => ∃ (a b c e f g h i : Option D), ρ = [some (.scr ns), some (rds rs), a, some (.int n), some (rds rs), b, c, e, f, g, h, i]) rfl ⟨_, _, _, _, _, _, _, _, rfl⟩ (by
    rintro pre ⟨x, y, l⟩ r ρ e ⟨a1, a2, a3, a4, a5, a6, a7, a8, rfl⟩
    refine ⟨_, rfl, ?_⟩
    have e1 : gE rs x y l := .inl (by rw [e]; simp)
    have e2 : gE rs y x l := .inr (by rw [e]; simp)
    simp only [evE.eq_1, evE.eq_2, evE.eq_3, evE.eq_4, evE.eq_5, evE.eq_6, evE.eq_7, evE.eq_8, evE.eq_9, evE.eq_10, evE.eq_11, evE.eq_12, evE.eq_13, evE.eq_14, evE.eq_15, evE.eq_16, evE.eq_17, evE.eq_18, evE.eq_19, evE.eq_20, evE.eq_21, evE.eq_22, evEs.eq_1, evEs.eq_2, evS.eq_1, evS.eq_2, evS.eq_3, evS.eq_4, evS.eq_5, evS.eq_6, evS.eq_7, evS.eq_8, evS.eq_9, evS.eq_10, evS.eq_11, evS.eq_12, evS.eq_13, evS.eq_14, evS.eq_15, evS.eq_16, evS.eq_17, evS.eq_18, evS.eq_19, evS.eq_20, evSs.eq_1, evSs.eq_2, TW.gt, TW.st, TW.sts, TW.start, List.map_cons, List.map_nil, List.length_cons, List.length_nil, List.length_map, List.replicate_succ, List.replicate_zero, Nat.reduceAdd, Nat.reduceSub, List.cons_append, List.nil_append, Tg.put, Tg.names, srcRes, srcOf, Sk.out, Sk.pure, wipeE, Op1.run, Op2.run, slc3, okI, okB, okA, isSc_i, isSc_b, isSc_s, isSc_n, isNon_i, isNon_b, isNon_l, isNon_n, eqS_ii, eqS_bb, inF_ints, ints_map, ints_mapf, bit, IDef.mut, kAt, ownK, if_true, if_false, ↓reduceIte, Bool.false_eq_true, decide_true, decide_false, Bool.not_true, Bool.not_false, true_and, and_true, and_self, Option.isSome_some, Option.isSome_none, eq_self, rd, nth3_0, nth3_1]
    generalize hG : forGo _ _ _ _ = oo
    obtain ⟨ρ, rfl, b1', b2', b3', b4', b5', b6', b7', rfl⟩ := for_inv hG pr [(x, y), (y, x)] (fun pre ρ => ∃ (b c e f g h i : Option D), ρ = [some (.scr ns), some (rds rs), some (rd (x, y, l)), some (.int n), some (rds rs), b, c, e, f, g, h, i]) rfl ⟨_, _, _, _, _, _, _, rfl⟩ (by
      rintro pre ⟨a, b⟩ r' ρ ee ⟨x5, x6, x7, x8, x9, x10, x11, rfl⟩
      refine ⟨_, rfl, ?_⟩
      have e : gE rs a b l := by
        have : (a, b) ∈ [(x, y), (y, x)] := by rw [ee]; simp
        simp at this
        rcases this with ⟨rfl, rfl⟩ | ⟨rfl, rfl⟩
        · exact e1
        · exact e2
      obtain ⟨ha, hb, _, _, _⟩ := T.tm.e _ _ _ e
      have f1 := run_law_farsA T h12 (m := m) (by omega) ha
      have f2 := run_law_farsA T h12 (m := m) (by omega) hb
      have f3 := run_beyond T h12 (m := m) (by omega) e
      simp only [evE.eq_1, evE.eq_2, evE.eq_3, evE.eq_4, evE.eq_5, evE.eq_6, evE.eq_7, evE.eq_8, evE.eq_9, evE.eq_10, evE.eq_11, evE.eq_12, evE.eq_13, evE.eq_14, evE.eq_15, evE.eq_16, evE.eq_17, evE.eq_18, evE.eq_19, evE.eq_20, evE.eq_21, evE.eq_22, evEs.eq_1, evEs.eq_2, evS.eq_1, evS.eq_2, evS.eq_3, evS.eq_4, evS.eq_5, evS.eq_6, evS.eq_7, evS.eq_8, evS.eq_9, evS.eq_10, evS.eq_11, evS.eq_12, evS.eq_13, evS.eq_14, evS.eq_15, evS.eq_16, evS.eq_17, evS.eq_18, evS.eq_19, evS.eq_20, evSs.eq_1, evSs.eq_2, TW.gt, TW.st, TW.sts, TW.start, List.map_cons, List.map_nil, List.length_cons, List.length_nil, List.length_map, List.replicate_succ, List.replicate_zero, Nat.reduceAdd, Nat.reduceSub, List.cons_append, List.nil_append, Tg.put, Tg.names, srcRes, srcOf, Sk.out, Sk.pure, wipeE, Op1.run, Op2.run, slc3, okI, okB, okA, isSc_i, isSc_b, isSc_s, isSc_n, isNon_i, isNon_b, isNon_l, isNon_n, eqS_ii, eqS_bb, inF_ints, ints_map, ints_mapf, bit, IDef.mut, kAt, ownK, if_true, if_false, ↓reduceIte, Bool.false_eq_true, decide_true, decide_false, Bool.not_true, Bool.not_false, true_and, and_true, and_self, Option.isSome_some, Option.isSome_none, eq_self, f1, f2, rg, b1, plc_len, b2]
      generalize hL : lcGo _ _ _ _ _ = o
      have := lc_map hL D.int (plc n) (fun v => decide (d b v < d a v)) .int rfl (by
        intro v hv
        have n1 := nth_rowA (d := d) (s := a) (plc_mem.mp hv)
        have n2 := nth_rowA (d := d) (s := b) (plc_mem.mp hv)
        refine ⟨_, rfl, [some (.scr ns), some (rds rs), some (rd (x, y, l)), some (.int n), some (rds rs), some (.int a), some (.int b), some (li ((plc n).map fun v => d a v)), some (li ((plc n).map fun v => d b v)), x9, x10, some (.int v)], by simp only [evE.eq_1, evE.eq_2, evE.eq_3, evE.eq_4, evE.eq_5, evE.eq_6, evE.eq_7, evE.eq_8, evE.eq_9, evE.eq_10, evE.eq_11, evE.eq_12, evE.eq_13, evE.eq_14, evE.eq_15, evE.eq_16, evE.eq_17, evE.eq_18, evE.eq_19, evE.eq_20, evE.eq_21, evE.eq_22, evEs.eq_1, evEs.eq_2, evS.eq_1, evS.eq_2, evS.eq_3, evS.eq_4, evS.eq_5, evS.eq_6, evS.eq_7, evS.eq_8, evS.eq_9, evS.eq_10, evS.eq_11, evS.eq_12, evS.eq_13, evS.eq_14, evS.eq_15, evS.eq_16, evS.eq_17, evS.eq_18, evS.eq_19, evS.eq_20, evSs.eq_1, evSs.eq_2, TW.gt, TW.st, TW.sts, TW.start, List.map_cons, List.map_nil, List.length_cons, List.length_nil, List.length_map, List.replicate_succ, List.replicate_zero, Nat.reduceAdd, Nat.reduceSub, List.cons_append, List.nil_append, Tg.put, Tg.names, srcRes, srcOf, Sk.out, Sk.pure, wipeE, Op1.run, Op2.run, slc3, okI, okB, okA, isSc_i, isSc_b, isSc_s, isSc_n, isNon_i, isNon_b, isNon_l, isNon_n, eqS_ii, eqS_bb, inF_ints, ints_map, ints_mapf, bit, IDef.mut, kAt, ownK, if_true, if_false, ↓reduceIte, Bool.false_eq_true, decide_true, decide_false, Bool.not_true, Bool.not_false, true_and, and_true, and_self, Option.isSome_some, Option.isSome_none, eq_self, li, n1, n2], fun _ => ⟨[some (.scr ns), some (rds rs), some (rd (x, y, l)), some (.int n), some (rds rs), some (.int a), some (.int b), some (li ((plc n).map fun v => d a v)), some (li ((plc n).map fun v => d b v)), x9, x10, some (.int v)], by simp only [evE.eq_1, evE.eq_2, evE.eq_3, evE.eq_4, evE.eq_5, evE.eq_6, evE.eq_7, evE.eq_8, evE.eq_9, evE.eq_10, evE.eq_11, evE.eq_12, evE.eq_13, evE.eq_14, evE.eq_15, evE.eq_16, evE.eq_17, evE.eq_18, evE.eq_19, evE.eq_20, evE.eq_21, evE.eq_22, evEs.eq_1, evEs.eq_2, evS.eq_1, evS.eq_2, evS.eq_3, evS.eq_4, evS.eq_5, evS.eq_6, evS.eq_7, evS.eq_8, evS.eq_9, evS.eq_10, evS.eq_11, evS.eq_12, evS.eq_13, evS.eq_14, evS.eq_15, evS.eq_16, evS.eq_17, evS.eq_18, evS.eq_19, evS.eq_20, evSs.eq_1, evSs.eq_2, TW.gt, TW.st, TW.sts, TW.start, List.map_cons, List.map_nil, List.length_cons, List.length_nil, List.length_map, List.replicate_succ, List.replicate_zero, Nat.reduceAdd, Nat.reduceSub, List.cons_append, List.nil_append, Tg.put, Tg.names, srcRes, srcOf, Sk.out, Sk.pure, wipeE, Op1.run, Op2.run, slc3, okI, okB, okA, isSc_i, isSc_b, isSc_s, isSc_n, isNon_i, isNon_b, isNon_l, isNon_n, eqS_ii, eqS_bb, inF_ints, ints_map, ints_mapf, bit, IDef.mut, kAt, ownK, if_true, if_false, ↓reduceIte, Bool.false_eq_true, decide_true, decide_false, Bool.not_true, Bool.not_false, true_and, and_true, and_self, Option.isSome_some, Option.isSome_none, eq_self]⟩⟩)
      subst this
      have eb : (plc n).filter (fun v => decide (d b v < d a v)) = bey d n a b := by
        unfold bey
        exact List.filter_congr fun v _ => by rw [T.tm.symm b v, T.tm.symm a v]
      rw [eb]
      have q1 := beqs_ints (bey d n a b) (bey d n a b)
      have q2 : D.eqable 20 (.lst ((bey d n a b).map D.int)) = true := eqable_li 19 _
      simp only [decide_true] at q1
      generalize bey d n a b = X at *
      simp only [evE.eq_1, evE.eq_2, evE.eq_3, evE.eq_4, evE.eq_5, evE.eq_6, evE.eq_7, evE.eq_8, evE.eq_9, evE.eq_10, evE.eq_11, evE.eq_12, evE.eq_13, evE.eq_14, evE.eq_15, evE.eq_16, evE.eq_17, evE.eq_18, evE.eq_19, evE.eq_20, evE.eq_21, evE.eq_22, evEs.eq_1, evEs.eq_2, evS.eq_1, evS.eq_2, evS.eq_3, evS.eq_4, evS.eq_5, evS.eq_6, evS.eq_7, evS.eq_8, evS.eq_9, evS.eq_10, evS.eq_11, evS.eq_12, evS.eq_13, evS.eq_14, evS.eq_15, evS.eq_16, evS.eq_17, evS.eq_18, evS.eq_19, evS.eq_20, evSs.eq_1, evSs.eq_2, TW.gt, TW.st, TW.sts, TW.start, List.map_cons, List.map_nil, List.length_cons, List.length_nil, List.length_map, List.replicate_succ, List.replicate_zero, Nat.reduceAdd, Nat.reduceSub, List.cons_append, List.nil_append, Tg.put, Tg.names, srcRes, srcOf, Sk.out, Sk.pure, wipeE, Op1.run, Op2.run, slc3, okI, okB, okA, isSc_i, isSc_b, isSc_s, isSc_n, isNon_i, isNon_b, isNon_l, isNon_n, eqS_ii, eqS_bb, inF_ints, ints_map, ints_mapf, bit, IDef.mut, kAt, ownK, if_true, if_false, ↓reduceIte, Bool.false_eq_true, decide_true, decide_false, Bool.not_true, Bool.not_false, true_and, and_true, and_self, Option.isSome_some, Option.isSome_none, eq_self, f3, li, D.beq, q1, q2, Bool.and_self, sc_ints]
      generalize hF : forGo _ _ _ _ = o
      obtain ⟨ρ, rfl, xx, rfl⟩ := for_inv hF D.int X (fun pre ρ => ∃ xx, ρ = [some (.scr ns), some (rds rs), some (rd (x, y, l)), some (.int n), some (rds rs), some (.int a), some (.int b), some (li ((plc n).map fun v => d a v)), some (li ((plc n).map fun v => d b v)), some (li X), some (li X), xx]) rfl ⟨_, rfl⟩ (by
        rintro pre v r ρ e ⟨xx, rfl⟩
        have w := run_whole (m := m) (by omega) v
        exact ⟨_, rfl, _, by simp only [chk, evE.eq_1, evE.eq_2, evE.eq_3, evE.eq_4, evE.eq_5, evE.eq_6, evE.eq_7, evE.eq_8, evE.eq_9, evE.eq_10, evE.eq_11, evE.eq_12, evE.eq_13, evE.eq_14, evE.eq_15, evE.eq_16, evE.eq_17, evE.eq_18, evE.eq_19, evE.eq_20, evE.eq_21, evE.eq_22, evEs.eq_1, evEs.eq_2, evS.eq_1, evS.eq_2, evS.eq_3, evS.eq_4, evS.eq_5, evS.eq_6, evS.eq_7, evS.eq_8, evS.eq_9, evS.eq_10, evS.eq_11, evS.eq_12, evS.eq_13, evS.eq_14, evS.eq_15, evS.eq_16, evS.eq_17, evS.eq_18, evS.eq_19, evS.eq_20, evSs.eq_1, evSs.eq_2, TW.gt, TW.st, TW.sts, TW.start, List.map_cons, List.map_nil, List.length_cons, List.length_nil, List.length_map, List.replicate_succ, List.replicate_zero, Nat.reduceAdd, Nat.reduceSub, List.cons_append, List.nil_append, Tg.put, Tg.names, srcRes, srcOf, Sk.out, Sk.pure, wipeE, Op1.run, Op2.run, slc3, okI, okB, okA, isSc_i, isSc_b, isSc_s, isSc_n, isNon_i, isNon_b, isNon_l, isNon_n, eqS_ii, eqS_bb, inF_ints, ints_map, ints_mapf, bit, IDef.mut, kAt, ownK, if_true, if_false, ↓reduceIte, Bool.false_eq_true, decide_true, decide_false, Bool.not_true, Bool.not_false, true_and, and_true, and_self, Option.isSome_some, Option.isSome_none, eq_self, w] <;> rfl, _, rfl⟩)
      exact ⟨_, by simp only [evE.eq_1, evE.eq_2, evE.eq_3, evE.eq_4, evE.eq_5, evE.eq_6, evE.eq_7, evE.eq_8, evE.eq_9, evE.eq_10, evE.eq_11, evE.eq_12, evE.eq_13, evE.eq_14, evE.eq_15, evE.eq_16, evE.eq_17, evE.eq_18, evE.eq_19, evE.eq_20, evE.eq_21, evE.eq_22, evEs.eq_1, evEs.eq_2, evS.eq_1, evS.eq_2, evS.eq_3, evS.eq_4, evS.eq_5, evS.eq_6, evS.eq_7, evS.eq_8, evS.eq_9, evS.eq_10, evS.eq_11, evS.eq_12, evS.eq_13, evS.eq_14, evS.eq_15, evS.eq_16, evS.eq_17, evS.eq_18, evS.eq_19, evS.eq_20, evSs.eq_1, evSs.eq_2, TW.gt, TW.st, TW.sts, TW.start, List.map_cons, List.map_nil, List.length_cons, List.length_nil, List.length_map, List.replicate_succ, List.replicate_zero, Nat.reduceAdd, Nat.reduceSub, List.cons_append, List.nil_append, Tg.put, Tg.names, srcRes, srcOf, Sk.out, Sk.pure, wipeE, Op1.run, Op2.run, slc3, okI, okB, okA, isSc_i, isSc_b, isSc_s, isSc_n, isNon_i, isNon_b, isNon_l, isNon_n, eqS_ii, eqS_bb, inF_ints, ints_map, ints_mapf, bit, IDef.mut, kAt, ownK, if_true, if_false, ↓reduceIte, Bool.false_eq_true, decide_true, decide_false, Bool.not_true, Bool.not_false, true_and, and_true, and_self, Option.isSome_some, Option.isSome_none, eq_self, li] <;> rfl, _, _, _, _, _, _, _, rfl⟩)
    exact ⟨_, rfl, _, _, _, _, _, _, _, _, rfl⟩)
  have q1 := beq_rds_self rs
  have q2 := eqable_rds rs
  simp only [rds] at q1 q2
  simp only [evE.eq_1, evE.eq_2, evE.eq_3, evE.eq_4, evE.eq_5, evE.eq_6, evE.eq_7, evE.eq_8, evE.eq_9, evE.eq_10, evE.eq_11, evE.eq_12, evE.eq_13, evE.eq_14, evE.eq_15, evE.eq_16, evE.eq_17, evE.eq_18, evE.eq_19, evE.eq_20, evE.eq_21, evE.eq_22, evEs.eq_1, evEs.eq_2, evS.eq_1, evS.eq_2, evS.eq_3, evS.eq_4, evS.eq_5, evS.eq_6, evS.eq_7, evS.eq_8, evS.eq_9, evS.eq_10, evS.eq_11, evS.eq_12, evS.eq_13, evS.eq_14, evS.eq_15, evS.eq_16, evS.eq_17, evS.eq_18, evS.eq_19, evS.eq_20, evSs.eq_1, evSs.eq_2, TW.gt, TW.st, TW.sts, TW.start, List.map_cons, List.map_nil, List.length_cons, List.length_nil, List.length_map, List.replicate_succ, List.replicate_zero, Nat.reduceAdd, Nat.reduceSub, List.cons_append, List.nil_append, Tg.put, Tg.names, srcRes, srcOf, Sk.out, Sk.pure, wipeE, Op1.run, Op2.run, slc3, okI, okB, okA, isSc_i, isSc_b, isSc_s, isSc_n, isNon_i, isNon_b, isNon_l, isNon_n, eqS_ii, eqS_bb, inF_ints, ints_map, ints_mapf, bit, IDef.mut, kAt, ownK, if_true, if_false, ↓reduceIte, Bool.false_eq_true, decide_true, decide_false, Bool.not_true, Bool.not_false, true_and, and_true, and_self, Option.isSome_some, Option.isSome_none, eq_self, rds, q1, q2, Bool.and_self] at ho
  exact ⟨_, ho.symm⟩
end TW.M

namespace TW
open PySem PySem.Spec PyProof.Rows L2
def top (i : Nat) : Stmt := PySem.Challenge.pw_treewells_k03_beyond_a_road.main.body.getD i (.Pass ⟨0, 0, 0, 0⟩)
structure Bl (mg : Str → Option Value) : Prop where
  bool : mg "bool" = none
  int : mg "int" = none
  isinstance : mg "isinstance" = none
  len : mg "len" = none
  list : mg "list" = none
  max : mg "max" = none
  range : mg "range" = none
  set : mg "set" = none
  sorted : mg "sorted" = none
abbrev sg (f : Nat) : Sig := (defs f).sig
theorem ok_are_unlike_places : d_are_unlike_places.ok sg = true := by decide +kernel
theorem ok_steps_from : d_steps_from.ok sg = true := by decide +kernel
theorem ok_spread : d_spread.ok sg = true := by decide +kernel
theorem ok_is_tree : d_is_tree.ok sg = true := by decide +kernel
theorem ok_must_be_tree : d_must_be_tree.ok sg = true := by decide +kernel
theorem ok_must_be_places : d_must_be_places.ok sg = true := by decide +kernel
theorem ok_are_neighbours : d_are_neighbours.ok sg = true := by decide +kernel
theorem ok_beyond : d_beyond.ok sg = true := by decide +kernel
theorem ok__law_mix : d__law_mix.ok sg = true := by decide +kernel
theorem ok__law_whole : d__law_whole.ok sg = true := by decide +kernel
theorem ok__law_cell_at : d__law_cell_at.ok sg = true := by decide +kernel
theorem ok__law_older : d__law_older.ok sg = true := by decide +kernel
theorem ok__law_size : d__law_size_8.ok sg = true := by decide +kernel
theorem ok__law_hung : d__law_hung.ok sg = true := by decide +kernel
theorem ok__law_tree : d__law_tree_10.ok sg = true := by decide +kernel
theorem ok__law_fars : d__law_fars_11.ok sg = true := by decide +kernel
theorem ok_law : d_law_27.ok sg = true := by decide +kernel
def N_are_unlike_places : List Str := ["many", "some", "place"]
def P_are_unlike_places : List Str := ["many", "some"]
theorem sc_are_unlike_places : FnScope N_are_unlike_places P_are_unlike_places (defScope (top 7)) := ⟨rfl, rfl, rfl, by decide +kernel, rfl, by decide +kernel, by decide +kernel⟩
def N_steps_from : List Str := ["roads", "place", "found", "a", "b", "length"]
def P_steps_from : List Str := ["roads", "place"]
theorem sc_steps_from : FnScope N_steps_from P_steps_from (defScope (top 8)) := ⟨rfl, rfl, rfl, by decide +kernel, rfl, by decide +kernel, by decide +kernel⟩
def N_spread : List Str := ["roads", "start", "barred", "ahead", "waiting", "at", "other", "length"]
def P_spread : List Str := ["roads", "start", "barred"]
theorem sc_spread : FnScope N_spread P_spread (defScope (top 9)) := ⟨rfl, rfl, rfl, by decide +kernel, rfl, by decide +kernel, by decide +kernel⟩
def N_is_tree : List Str := ["many", "roads", "road"]
def P_is_tree : List Str := ["many", "roads"]
theorem sc_is_tree : FnScope N_is_tree P_is_tree (defScope (top 10)) := ⟨rfl, rfl, rfl, by decide +kernel, rfl, by decide +kernel, by decide +kernel⟩
def N_must_be_tree : List Str := ["many", "roads"]
def P_must_be_tree : List Str := ["many", "roads"]
theorem sc_must_be_tree : FnScope N_must_be_tree P_must_be_tree (defScope (top 11)) := ⟨rfl, rfl, rfl, by decide +kernel, rfl, by decide +kernel, by decide +kernel⟩
def N_must_be_places : List Str := ["many", "some", "place"]
def P_must_be_places : List Str := ["many", "some"]
theorem sc_must_be_places : FnScope N_must_be_places P_must_be_places (defScope (top 12)) := ⟨rfl, rfl, rfl, by decide +kernel, rfl, by decide +kernel, by decide +kernel⟩
def N_are_neighbours : List Str := ["roads", "a", "b", "other", "length"]
def P_are_neighbours : List Str := ["roads", "a", "b"]
theorem sc_are_neighbours : FnScope N_are_neighbours P_are_neighbours (defScope (top 13)) := ⟨rfl, rfl, rfl, by decide +kernel, rfl, by decide +kernel, by decide +kernel⟩
def N_beyond : List Str := ["many", "roads", "a", "b"]
def P_beyond : List Str := ["many", "roads", "a", "b"]
theorem sc_beyond : FnScope N_beyond P_beyond (defScope (top 14)) := ⟨rfl, rfl, rfl, by decide +kernel, rfl, by decide +kernel, by decide +kernel⟩
def N__law_mix : List Str := ["_law_number", "_law_k", "_law_mixed"]
def P__law_mix : List Str := ["_law_number", "_law_k"]
theorem sc__law_mix : FnScope N__law_mix P__law_mix (defScope (top 16)) := ⟨rfl, rfl, rfl, by decide +kernel, rfl, by decide +kernel, by decide +kernel⟩
def N__law_whole : List Str := ["_law_found"]
def P__law_whole : List Str := ["_law_found"]
theorem sc__law_whole : FnScope N__law_whole P__law_whole (defScope (top 17)) := ⟨rfl, rfl, rfl, by decide +kernel, rfl, by decide +kernel, by decide +kernel⟩
def N__law_cell_at : List Str := ["_law_script", "_law_k"]
def P__law_cell_at : List Str := ["_law_script", "_law_k"]
theorem sc__law_cell_at : FnScope N__law_cell_at P__law_cell_at (defScope (top 18)) := ⟨rfl, rfl, rfl, by decide +kernel, rfl, by decide +kernel, by decide +kernel⟩
def N__law_older : List Str := ["_law_cell", "_law_k", "_law_mixed"]
def P__law_older : List Str := ["_law_cell", "_law_k"]
theorem sc__law_older : FnScope N__law_older P__law_older (defScope (top 19)) := ⟨rfl, rfl, rfl, by decide +kernel, rfl, by decide +kernel, by decide +kernel⟩
def N__law_size : List Str := ["_law_cell", "_law_k", "_law_mixed", "_law_some"]
def P__law_size : List Str := ["_law_cell", "_law_k"]
theorem sc__law_size : FnScope N__law_size P__law_size (defScope (top 20)) := ⟨rfl, rfl, rfl, by decide +kernel, rfl, by decide +kernel, by decide +kernel⟩
def N__law_hung : List Str := ["_law_roads", "_law_many", "_law_cell", "_law_counts", "_law_alone_ones", "_law_place", "_law_other", "_law_k", "_law_road"]
def P__law_hung : List Str := ["_law_roads", "_law_many", "_law_cell"]
theorem sc__law_hung : FnScope N__law_hung P__law_hung (defScope (top 21)) := ⟨rfl, rfl, rfl, by decide +kernel, rfl, by decide +kernel, by decide +kernel⟩
def N__law_tree : List Str := ["_law_script", "_law_cell", "_law_many", "_law_shape", "_law_names", "_law_k", "_law_roads", "_law_one", "_law_pair", "_law_at"]
def P__law_tree : List Str := ["_law_script"]
theorem sc__law_tree : FnScope N__law_tree P__law_tree (defScope (top 22)) := ⟨rfl, rfl, rfl, by decide +kernel, rfl, by decide +kernel, by decide +kernel⟩
def N__law_fars : List Str := ["_law_many", "_law_roads", "_law_start", "_law_found", "_law_turn", "_law_a", "_law_b", "_law_length", "_law_place", "_law_one", "_law_other"]
def P__law_fars : List Str := ["_law_many", "_law_roads", "_law_start"]
theorem sc__law_fars : FnScope N__law_fars P__law_fars (defScope (top 23)) := ⟨rfl, rfl, rfl, by decide +kernel, rfl, by decide +kernel, by decide +kernel⟩
def N_law : List Str := ["_law_script", "_law_handed", "_law_road", "_law_many", "_law_roads", "_law_a", "_law_b", "_law_one", "_law_other", "_law_due", "_law_found", "_law_place"]
def P_law : List Str := ["_law_script"]
theorem sc_law : FnScope N_law P_law (defScope (top 24)) := ⟨rfl, rfl, rfl, by decide +kernel, rfl, by decide +kernel, by decide +kernel⟩
section
variable {P : Program} {w : World} {K : PySem.W.Frag} {mg : Str → Option Value} {base : Heap} {T : List NdefX.NTab} {cls : Nat → Addr}
theorem der_are_unlike_places (n : Nat) (B : Bl mg)    {f : Addr} (cdv : Value) (A : Around) (outer : List PySem.Env) (s : Shared) (H : Hp) (E : XK) (hr : Room (n + 1) (A.deeper (envOfC "are_unlike_places" (defScope (top 7)) s.heap.objs.size f cdv))) :
    PSs (cxOf (L2.CX P w) P w K mg base N_are_unlike_places "are_unlike_places" (defScope (top 7)) f cdv A outer s H E) (defBody (top 7)) (rdSs (Cn defs K T cls n) d_are_unlike_places.body (WOf E)) := by
  have ok : Ok (cxOf (L2.CX P w) P w K mg base N_are_unlike_places "are_unlike_places" (defScope (top 7)) f cdv A outer s H E) (Cn defs K T cls n) := ⟨rfl, rfl, by have := hr.un; show (A.deeper _).units + 66 < cLine; omega⟩
  have nd := sc_are_unlike_places.nd
  exact (ss_cons (s_for (passes_of rfl) ok (i_lst ok (d_var (pv 1))) (g_name (pg_name (i := 2) nd rfl (by first | exact Or.inl rfl | exact Or.inr rfl))) (ss_cons (s_if (p_w (w_or (p_cmp (o := .lt) o_lt (d_var (pv 2)) d_int rfl) (w_one_or (p_cmp (o := .ge) o_ge (d_var (pv 2)) (d_var (pv 0)) rfl)))) (ss_cons (s_ret d_bl) ss_nil) ss_nil) ss_nil)) (ss_cons (s_ret (d_cmp (o := .eqI) o_eqI (d_lenSet ok B.len B.set (d_var (pv 1))) (d_len ok B.len (d_var (pv 1))) rfl)) ss_nil))
theorem der_steps_from (n : Nat) (B : Bl mg)    {f : Addr} (cdv : Value) (A : Around) (outer : List PySem.Env) (s : Shared) (H : Hp) (E : XK) (hr : Room (n + 1) (A.deeper (envOfC "steps_from" (defScope (top 8)) s.heap.objs.size f cdv))) :
    PSs (cxOf (L2.CX P w) P w K mg base N_steps_from "steps_from" (defScope (top 8)) f cdv A outer s H E) (defBody (top 8)) (rdSs (Cn defs K T cls n) d_steps_from.body (WOf E)) := by
  have ok : Ok (cxOf (L2.CX P w) P w K mg base N_steps_from "steps_from" (defScope (top 8)) f cdv A outer s H E) (Cn defs K T cls n) := ⟨rfl, rfl, by have := hr.un; show (A.deeper _).units + 66 < cLine; omega⟩
  have nd := sc_steps_from.nd
  exact (ss_cons (s_set (i := 2) nd rfl (by first | exact Or.inl rfl | exact Or.inr rfl) (d_lst d_nil)) (ss_cons (s_for (passes_of rfl) ok (i_lst ok (d_var (pv 0))) (g_lsp ok (g_cons (pg_name (i := 3) nd rfl (by first | exact Or.inl rfl | exact Or.inr rfl)) (g_cons (pg_name (i := 4) nd rfl (by first | exact Or.inl rfl | exact Or.inr rfl)) (g_cons (pg_name (i := 5) nd rfl (by first | exact Or.inl rfl | exact Or.inr rfl)) g_nil)))) (ss_cons (s_if (p_cmp (o := .eqI) o_eqI (d_var (pv 3)) (d_var (pv 1)) rfl) (ss_cons (s_app ok (pv 2) (d_tup (d_cons (d_sc (d_var (pv 4))) (d_cons (d_sc (d_var (pv 5))) d_nil)))) ss_nil) ss_nil) (ss_cons (s_if (p_cmp (o := .eqI) o_eqI (d_var (pv 4)) (d_var (pv 1)) rfl) (ss_cons (s_app ok (pv 2) (d_tup (d_cons (d_sc (d_var (pv 3))) (d_cons (d_sc (d_var (pv 5))) d_nil)))) ss_nil) ss_nil) ss_nil))) (ss_cons (s_ret (d_mv (pv 2))) ss_nil)))
theorem der_spread (n : Nat) (B : Bl mg) {a_steps_from : Addr} {fd_steps_from : FuncData} (c_steps_from : Cal defs P w K mg base T cls n 1 "steps_from" a_steps_from fd_steps_from P_steps_from)   {f : Addr} (cdv : Value) (A : Around) (outer : List PySem.Env) (s : Shared) (H : Hp) (E : XK) (hr : Room (n + 1) (A.deeper (envOfC "spread" (defScope (top 9)) s.heap.objs.size f cdv))) :
    PSs (cxOf (L2.CX P w) P w K mg base N_spread "spread" (defScope (top 9)) f cdv A outer s H E) (defBody (top 9)) (rdSs (Cn defs K T cls n) d_spread.body (WOf E)) := by
  have ok : Ok (cxOf (L2.CX P w) P w K mg base N_spread "spread" (defScope (top 9)) f cdv A outer s H E) (Cn defs K T cls n) := ⟨rfl, rfl, by have := hr.un; show (A.deeper _).units + 66 < cLine; omega⟩
  have nd := sc_spread.nd
  exact (ss_cons (s_set (i := 3) nd rfl (by first | exact Or.inl rfl | exact Or.inr rfl) (d_dic1 (d_sc (d_var (pv 1))) (d_sc (d_var (pv 1))))) (ss_cons (s_set (i := 4) nd rfl (by first | exact Or.inl rfl | exact Or.inr rfl) (d_lst (d_cons (d_sc (d_var (pv 1))) d_nil))) (ss_cons (s_set (i := 5) nd rfl (by first | exact Or.inl rfl | exact Or.inr rfl) d_int) (ss_cons (s_whl (passes_of rfl) (p_cmp (o := .lt) o_lt (d_var (pv 5)) (d_len ok B.len (d_var (pv 4))) rfl) (ss_cons (s_for (passes_of rfl) ok (i_lst ok (d_call (f := 1) c_steps_from.F ok hr (takes_of rfl rfl rfl rfl) c_steps_from.g c_steps_from.k c_steps_from.b (d_cons (d_var (pv 0)) (d_cons (d_sc (d_ix (o := .subL) (x_lst ok) (d_var (pv 4)) (d_var (pv 5)))) d_nil)))) (g_tup ok (g_cons (pg_name (i := 6) nd rfl (by first | exact Or.inl rfl | exact Or.inr rfl)) (g_cons (pg_name (i := 7) nd rfl (by first | exact Or.inl rfl | exact Or.inr rfl)) g_nil))) (ss_cons (s_if (p_w (w_and (p_ninK ok (d_var (pv 6)) (d_var (pv 3)) rfl) (w_one_and (p_cmp (o := .ninL) (o_ninL ok) (d_var (pv 6)) (d_var (pv 2)) rfl)))) (ss_cons (s_setk ok (pv 3) (d_sc (d_var (pv 6))) (d_sc (d_ix (o := .subL) (x_lst ok) (d_var (pv 4)) (d_var (pv 5))))) (ss_cons (s_app ok (pv 4) (d_sc (d_var (pv 6)))) ss_nil)) ss_nil) ss_nil)) (ss_cons (s_aug (o := .addI) (i := 5) a_add nd rfl (by first | exact Or.inl rfl | exact Or.inr rfl) d_int) ss_nil))) (ss_cons (s_ret (d_mv (pv 3))) ss_nil)))))
theorem der_is_tree (n : Nat) (B : Bl mg) {a_are_unlike_places : Addr} {fd_are_unlike_places : FuncData} (c_are_unlike_places : Cal defs P w K mg base T cls n 0 "are_unlike_places" a_are_unlike_places fd_are_unlike_places P_are_unlike_places) {a_spread : Addr} {fd_spread : FuncData} (c_spread : Cal defs P w K mg base T cls n 2 "spread" a_spread fd_spread P_spread)  (g_MOST : ∃ t, mg "MOST" = some (.int 12 t)) {f : Addr} (cdv : Value) (A : Around) (outer : List PySem.Env) (s : Shared) (H : Hp) (E : XK) (hr : Room (n + 1) (A.deeper (envOfC "is_tree" (defScope (top 10)) s.heap.objs.size f cdv))) :
    PSs (cxOf (L2.CX P w) P w K mg base N_is_tree "is_tree" (defScope (top 10)) f cdv A outer s H E) (defBody (top 10)) (rdSs (Cn defs K T cls n) d_is_tree.body (WOf E)) := by
  have ok : Ok (cxOf (L2.CX P w) P w K mg base N_is_tree "is_tree" (defScope (top 10)) f cdv A outer s H E) (Cn defs K T cls n) := ⟨rfl, rfl, by have := hr.un; show (A.deeper _).units + 66 < cLine; omega⟩
  have nd := sc_is_tree.nd
  exact (ss_cons (s_if (p_w (w_or (p_cmp (o := .lt) o_lt (d_var (pv 0)) d_int rfl) (w_or (p_cmp (o := .gt) o_gt (d_var (pv 0)) (d_glob g_MOST) rfl) (w_one_or (p_cmp (o := .neI) o_neI (d_len ok B.len (d_var (pv 1))) (d_bin (o := .subI) o_sub (d_var (pv 0)) d_int) rfl))))) (ss_cons (s_ret d_bl) ss_nil) ss_nil) (ss_cons (s_for (passes_of rfl) ok (i_lst ok (d_var (pv 1))) (g_name (pg_name (i := 2) nd rfl (by first | exact Or.inl rfl | exact Or.inr rfl))) (ss_cons (s_if (p_w (w_or (p_cmp (o := .neI) o_neI (d_len ok B.len (d_var (pv 2))) d_int rfl) (w_or (p_cmp (o := .lt) o_lt (d_ix (o := .subL) (x_lst ok) (d_var (pv 2)) d_int) d_int rfl) (w_one_or (p_not (p_val (d_call (f := 0) c_are_unlike_places.F ok hr (takes_of rfl rfl rfl rfl) c_are_unlike_places.g c_are_unlike_places.k c_are_unlike_places.b (d_cons (d_sc (d_var (pv 0))) (d_cons (d_scl (d_slcHi ok (d_var (pv 2)) d_int)) d_nil))))))))) (ss_cons (s_ret d_bl) ss_nil) ss_nil) ss_nil)) (ss_cons (s_ret (d_cmp (o := .eqI) o_eqI (d_len ok B.len (d_call (f := 2) c_spread.F ok hr (takes_of rfl rfl rfl rfl) c_spread.g c_spread.k c_spread.b (d_cons (d_var (pv 1)) (d_cons d_int (d_cons (d_lst d_nil) d_nil))))) (d_var (pv 0)) rfl)) ss_nil)))
theorem der_must_be_tree (n : Nat) (B : Bl mg) {a_is_tree : Addr} {fd_is_tree : FuncData} (c_is_tree : Cal defs P w K mg base T cls n 3 "is_tree" a_is_tree fd_is_tree P_is_tree) (x_NoTree : Exc K mg "NoTree" (cls 1))  {f : Addr} (cdv : Value) (A : Around) (outer : List PySem.Env) (s : Shared) (H : Hp) (E : XK) (hr : Room (n + 1) (A.deeper (envOfC "must_be_tree" (defScope (top 11)) s.heap.objs.size f cdv))) :
    PSs (cxOf (L2.CX P w) P w K mg base N_must_be_tree "must_be_tree" (defScope (top 11)) f cdv A outer s H E) (defBody (top 11)) (rdSs (Cn defs K T cls n) d_must_be_tree.body (WOf E)) := by
  have ok : Ok (cxOf (L2.CX P w) P w K mg base N_must_be_tree "must_be_tree" (defScope (top 11)) f cdv A outer s H E) (Cn defs K T cls n) := ⟨rfl, rfl, by have := hr.un; show (A.deeper _).units + 66 < cLine; omega⟩
  have nd := sc_must_be_tree.nd
  exact (ss_cons (s_if (p_not (p_val (d_call (f := 3) c_is_tree.F ok hr (takes_of rfl rfl rfl rfl) c_is_tree.g c_is_tree.k c_is_tree.b (d_cons (d_sc (d_var (pv 0))) (d_cons (d_var (pv 1)) d_nil))))) (ss_cons (s_rai (c := 1) ok (takes_of rfl rfl rfl rfl) x_NoTree.e x_NoTree.g x_NoTree.k x_NoTree.b x_NoTree.t) ss_nil) ss_nil) ss_nil)
theorem der_must_be_places (n : Nat) (B : Bl mg)  (x_NoPlace : Exc K mg "NoPlace" (cls 2))  {f : Addr} (cdv : Value) (A : Around) (outer : List PySem.Env) (s : Shared) (H : Hp) (E : XK) (hr : Room (n + 1) (A.deeper (envOfC "must_be_places" (defScope (top 12)) s.heap.objs.size f cdv))) :
    PSs (cxOf (L2.CX P w) P w K mg base N_must_be_places "must_be_places" (defScope (top 12)) f cdv A outer s H E) (defBody (top 12)) (rdSs (Cn defs K T cls n) d_must_be_places.body (WOf E)) := by
  have ok : Ok (cxOf (L2.CX P w) P w K mg base N_must_be_places "must_be_places" (defScope (top 12)) f cdv A outer s H E) (Cn defs K T cls n) := ⟨rfl, rfl, by have := hr.un; show (A.deeper _).units + 66 < cLine; omega⟩
  have nd := sc_must_be_places.nd
  exact (ss_cons (s_for (passes_of rfl) ok (i_lst ok (d_var (pv 1))) (g_name (pg_name (i := 2) nd rfl (by first | exact Or.inl rfl | exact Or.inr rfl))) (ss_cons (s_if (p_w (w_or (p_cmp (o := .lt) o_lt (d_var (pv 2)) d_int rfl) (w_one_or (p_cmp (o := .ge) o_ge (d_var (pv 2)) (d_var (pv 0)) rfl)))) (ss_cons (s_rai (c := 2) ok (takes_of rfl rfl rfl rfl) x_NoPlace.e x_NoPlace.g x_NoPlace.k x_NoPlace.b x_NoPlace.t) ss_nil) ss_nil) ss_nil)) ss_nil)
theorem der_are_neighbours (n : Nat) (B : Bl mg) {a_steps_from : Addr} {fd_steps_from : FuncData} (c_steps_from : Cal defs P w K mg base T cls n 1 "steps_from" a_steps_from fd_steps_from P_steps_from)   {f : Addr} (cdv : Value) (A : Around) (outer : List PySem.Env) (s : Shared) (H : Hp) (E : XK) (hr : Room (n + 1) (A.deeper (envOfC "are_neighbours" (defScope (top 13)) s.heap.objs.size f cdv))) :
    PSs (cxOf (L2.CX P w) P w K mg base N_are_neighbours "are_neighbours" (defScope (top 13)) f cdv A outer s H E) (defBody (top 13)) (rdSs (Cn defs K T cls n) d_are_neighbours.body (WOf E)) := by
  have ok : Ok (cxOf (L2.CX P w) P w K mg base N_are_neighbours "are_neighbours" (defScope (top 13)) f cdv A outer s H E) (Cn defs K T cls n) := ⟨rfl, rfl, by have := hr.un; show (A.deeper _).units + 66 < cLine; omega⟩
  have nd := sc_are_neighbours.nd
  exact (ss_cons (s_ret (d_cmp (o := .inL) (o_inL ok) (d_var (pv 2)) (d_lc ok nd (i_lst ok (d_call (f := 1) c_steps_from.F ok hr (takes_of rfl rfl rfl rfl) c_steps_from.g c_steps_from.k c_steps_from.b (d_cons (d_var (pv 0)) (d_cons (d_sc (d_var (pv 1))) d_nil)))) (blkOk_by (own := [("other", 3), ("length", 4)]) (N := N_are_neighbours) (sc := defScope (top 13)) (by decide +kernel)) rfl (fun _ _ _ _ _ => (g_tup (Ok.blk ok _ _ _ _ _) (g_cons (pg_name (i := 3) nd rfl (by first | exact Or.inl rfl | exact Or.inr rfl)) (g_cons (pg_name (i := 4) nd rfl (by first | exact Or.inl rfl | exact Or.inr rfl)) g_nil)))) (fun _ _ _ _ _ => t_none) (fun _ _ _ _ _ => (d_sc (d_var (pv 3))))) rfl)) ss_nil)
theorem der_beyond (n : Nat) (B : Bl mg) {a_must_be_tree : Addr} {fd_must_be_tree : FuncData} (c_must_be_tree : Cal defs P w K mg base T cls n 15 "must_be_tree" a_must_be_tree fd_must_be_tree P_must_be_tree) {a_must_be_places : Addr} {fd_must_be_places : FuncData} (c_must_be_places : Cal defs P w K mg base T cls n 16 "must_be_places" a_must_be_places fd_must_be_places P_must_be_places) {a_are_neighbours : Addr} {fd_are_neighbours : FuncData} (c_are_neighbours : Cal defs P w K mg base T cls n 25 "are_neighbours" a_are_neighbours fd_are_neighbours P_are_neighbours) {a_spread : Addr} {fd_spread : FuncData} (c_spread : Cal defs P w K mg base T cls n 2 "spread" a_spread fd_spread P_spread) (x_NoRoad : Exc K mg "NoRoad" (cls 3))  {f : Addr} (cdv : Value) (A : Around) (outer : List PySem.Env) (s : Shared) (H : Hp) (E : XK) (hr : Room (n + 1) (A.deeper (envOfC "beyond" (defScope (top 14)) s.heap.objs.size f cdv))) :
    PSs (cxOf (L2.CX P w) P w K mg base N_beyond "beyond" (defScope (top 14)) f cdv A outer s H E) (defBody (top 14)) (rdSs (Cn defs K T cls n) d_beyond.body (WOf E)) := by
  have ok : Ok (cxOf (L2.CX P w) P w K mg base N_beyond "beyond" (defScope (top 14)) f cdv A outer s H E) (Cn defs K T cls n) := ⟨rfl, rfl, by have := hr.un; show (A.deeper _).units + 66 < cLine; omega⟩
  have nd := sc_beyond.nd
  exact (ss_cons (s_exp (d_call (f := 15) c_must_be_tree.F ok hr (takes_of rfl rfl rfl rfl) c_must_be_tree.g c_must_be_tree.k c_must_be_tree.b (d_cons (d_sc (d_var (pv 0))) (d_cons (d_var (pv 1)) d_nil)))) (ss_cons (s_exp (d_call (f := 16) c_must_be_places.F ok hr (takes_of rfl rfl rfl rfl) c_must_be_places.g c_must_be_places.k c_must_be_places.b (d_cons (d_sc (d_var (pv 0))) (d_cons (d_lst (d_cons (d_sc (d_var (pv 2))) (d_cons (d_sc (d_var (pv 3))) d_nil))) d_nil)))) (ss_cons (s_if (p_not (p_val (d_call (f := 25) c_are_neighbours.F ok hr (takes_of rfl rfl rfl rfl) c_are_neighbours.g c_are_neighbours.k c_are_neighbours.b (d_cons (d_var (pv 1)) (d_cons (d_sc (d_var (pv 2))) (d_cons (d_sc (d_var (pv 3))) d_nil)))))) (ss_cons (s_rai (c := 3) ok (takes_of rfl rfl rfl rfl) x_NoRoad.e x_NoRoad.g x_NoRoad.k x_NoRoad.b x_NoRoad.t) ss_nil) ss_nil) (ss_cons (s_ret (d_sortK ok B.sorted (d_call (f := 2) c_spread.F ok hr (takes_of rfl rfl rfl rfl) c_spread.g c_spread.k c_spread.b (d_cons (d_var (pv 1)) (d_cons (d_sc (d_var (pv 3))) (d_cons (d_lst (d_cons (d_sc (d_var (pv 2))) d_nil)) d_nil)))))) ss_nil))))
theorem der__law_mix (n : Nat) (B : Bl mg)    {f : Addr} (cdv : Value) (A : Around) (outer : List PySem.Env) (s : Shared) (H : Hp) (E : XK) (hr : Room (n + 1) (A.deeper (envOfC "_law_mix" (defScope (top 16)) s.heap.objs.size f cdv))) :
    PSs (cxOf (L2.CX P w) P w K mg base N__law_mix "_law_mix" (defScope (top 16)) f cdv A outer s H E) (defBody (top 16)) (rdSs (Cn defs K T cls n) d__law_mix.body (WOf E)) := by
  have ok : Ok (cxOf (L2.CX P w) P w K mg base N__law_mix "_law_mix" (defScope (top 16)) f cdv A outer s H E) (Cn defs K T cls n) := ⟨rfl, rfl, by have := hr.un; show (A.deeper _).units + 66 < cLine; omega⟩
  have nd := sc__law_mix.nd
  exact (ss_cons (s_set (i := 2) nd rfl (by first | exact Or.inl rfl | exact Or.inr rfl) (d_bin (o := .mod) o_mod (d_bin (o := .mulI) o_mul (d_bin (o := .addI) o_add (d_bin (o := .addI) o_add (d_bin (o := .mulI) o_mul (d_var (pv 0)) (d_var (pv 0))) (d_bin (o := .mulI) o_mul (d_var (pv 1)) (d_var (pv 0)))) (d_bin (o := .mulI) o_mul (d_bin (o := .mulI) o_mul d_int (d_var (pv 1))) (d_var (pv 1)))) d_int) d_int)) (ss_cons (s_ret (d_bin (o := .mod) o_mod (d_bin (o := .mulI) o_mul (d_var (pv 2)) (d_var (pv 2))) d_int)) ss_nil))
theorem der__law_whole (n : Nat) (B : Bl mg)    {f : Addr} (cdv : Value) (A : Around) (outer : List PySem.Env) (s : Shared) (H : Hp) (E : XK) (hr : Room (n + 1) (A.deeper (envOfC "_law_whole" (defScope (top 17)) s.heap.objs.size f cdv))) :
    PSs (cxOf (L2.CX P w) P w K mg base N__law_whole "_law_whole" (defScope (top 17)) f cdv A outer s H E) (defBody (top 17)) (rdSs (Cn defs K T cls n) d__law_whole.body (WOf E)) := by
  have ok : Ok (cxOf (L2.CX P w) P w K mg base N__law_whole "_law_whole" (defScope (top 17)) f cdv A outer s H E) (Cn defs K T cls n) := ⟨rfl, rfl, by have := hr.un; show (A.deeper _).units + 66 < cLine; omega⟩
  have nd := sc__law_whole.nd
  exact (ss_cons (s_ret (d_sc (d_and (d_isi (o := .isInt) (T := "int") ok (by decide) (fun _ _ _ => rfl) boot_int B.isinstance B.int (d_var (pv 0))) (d_one (d_not (d_isi (o := .isBool) (T := "bool") ok (by decide) (fun _ _ _ => rfl) boot_bool B.isinstance B.bool (d_var (pv 0)))))))) ss_nil)
theorem der__law_cell_at (n : Nat) (B : Bl mg)    {f : Addr} (cdv : Value) (A : Around) (outer : List PySem.Env) (s : Shared) (H : Hp) (E : XK) (hr : Room (n + 1) (A.deeper (envOfC "_law_cell_at" (defScope (top 18)) s.heap.objs.size f cdv))) :
    PSs (cxOf (L2.CX P w) P w K mg base N__law_cell_at "_law_cell_at" (defScope (top 18)) f cdv A outer s H E) (defBody (top 18)) (rdSs (Cn defs K T cls n) d__law_cell_at.body (WOf E)) := by
  have ok : Ok (cxOf (L2.CX P w) P w K mg base N__law_cell_at "_law_cell_at" (defScope (top 18)) f cdv A outer s H E) (Cn defs K T cls n) := ⟨rfl, rfl, by have := hr.un; show (A.deeper _).units + 66 < cLine; omega⟩
  have nd := sc__law_cell_at.nd
  exact (ss_cons (s_if (p_cmp (o := .lt) o_lt (d_var (pv 1)) (d_len ok B.len (d_var (pv 0))) rfl) (ss_cons (s_ret (d_sc (d_ix (o := .subL) (x_lst ok) (d_var (pv 0)) (d_var (pv 1))))) ss_nil) ss_nil) (ss_cons (s_ret d_int) ss_nil))
theorem der__law_older (n : Nat) (B : Bl mg) {a__law_mix : Addr} {fd__law_mix : FuncData} (c__law_mix : Cal defs P w K mg base T cls n 4 "_law_mix" a__law_mix fd__law_mix P__law_mix)   {f : Addr} (cdv : Value) (A : Around) (outer : List PySem.Env) (s : Shared) (H : Hp) (E : XK) (hr : Room (n + 1) (A.deeper (envOfC "_law_older" (defScope (top 19)) s.heap.objs.size f cdv))) :
    PSs (cxOf (L2.CX P w) P w K mg base N__law_older "_law_older" (defScope (top 19)) f cdv A outer s H E) (defBody (top 19)) (rdSs (Cn defs K T cls n) d__law_older.body (WOf E)) := by
  have ok : Ok (cxOf (L2.CX P w) P w K mg base N__law_older "_law_older" (defScope (top 19)) f cdv A outer s H E) (Cn defs K T cls n) := ⟨rfl, rfl, by have := hr.un; show (A.deeper _).units + 66 < cLine; omega⟩
  have nd := sc__law_older.nd
  exact (ss_cons (s_set (i := 2) nd rfl (by first | exact Or.inl rfl | exact Or.inr rfl) (d_call (f := 4) c__law_mix.F ok hr (takes_of rfl rfl rfl rfl) c__law_mix.g c__law_mix.k c__law_mix.b (d_cons (d_bin (o := .addI) o_add (d_bin (o := .fdiv) o_fdiv (d_var (pv 0)) d_int) (d_bin (o := .mulI) o_mul (d_var (pv 1)) (d_var (pv 1)))) (d_cons d_int d_nil)))) (ss_cons (s_ret (d_sc (d_ix (o := .subL) (x_lst ok) (d_lst (d_cons (d_bin (o := .subI) o_sub (d_var (pv 1)) d_int) (d_cons d_int (d_cons (d_bin (o := .mod) o_mod (d_var (pv 2)) (d_var (pv 1))) (d_cons (d_max2 ok B.max d_int (d_bin (o := .subI) o_sub (d_bin (o := .subI) o_sub (d_var (pv 1)) d_int) (d_bin (o := .mod) o_mod (d_var (pv 2)) d_int))) (d_cons (d_bin (o := .fdiv) o_fdiv (d_bin (o := .subI) o_sub (d_var (pv 1)) d_int) d_int) d_nil)))))) (d_bin (o := .mod) o_mod (d_var (pv 0)) d_int)))) ss_nil))
theorem der__law_size (n : Nat) (B : Bl mg) {a__law_mix : Addr} {fd__law_mix : FuncData} (c__law_mix : Cal defs P w K mg base T cls n 4 "_law_mix" a__law_mix fd__law_mix P__law_mix)   {f : Addr} (cdv : Value) (A : Around) (outer : List PySem.Env) (s : Shared) (H : Hp) (E : XK) (hr : Room (n + 1) (A.deeper (envOfC "_law_size" (defScope (top 20)) s.heap.objs.size f cdv))) :
    PSs (cxOf (L2.CX P w) P w K mg base N__law_size "_law_size" (defScope (top 20)) f cdv A outer s H E) (defBody (top 20)) (rdSs (Cn defs K T cls n) d__law_size_8.body (WOf E)) := by
  have ok : Ok (cxOf (L2.CX P w) P w K mg base N__law_size "_law_size" (defScope (top 20)) f cdv A outer s H E) (Cn defs K T cls n) := ⟨rfl, rfl, by have := hr.un; show (A.deeper _).units + 66 < cLine; omega⟩
  have nd := sc__law_size.nd
  exact (ss_cons (s_set (i := 2) nd rfl (by first | exact Or.inl rfl | exact Or.inr rfl) (d_call (f := 4) c__law_mix.F ok hr (takes_of rfl rfl rfl rfl) c__law_mix.g c__law_mix.k c__law_mix.b (d_cons (d_bin (o := .addI) o_add (d_var (pv 0)) (d_bin (o := .mulI) o_mul (d_bin (o := .mulI) o_mul d_int (d_var (pv 1))) (d_var (pv 1)))) (d_cons d_int d_nil)))) (ss_cons (s_set (i := 3) nd rfl (by first | exact Or.inl rfl | exact Or.inr rfl) (d_lst (d_cons (d_bin (o := .addI) o_add d_int (d_bin (o := .mod) o_mod (d_var (pv 2)) d_int)) (d_cons (d_bin (o := .addI) o_add d_int (d_bin (o := .mod) o_mod (d_var (pv 2)) d_int)) (d_cons (d_bin (o := .addI) o_add (d_bin (o := .mulI) o_mul (d_bin (o := .addI) o_add d_int (d_bin (o := .mod) o_mod (d_var (pv 2)) d_int)) (d_bin (o := .pow) o_pow d_int d_int)) (d_bin (o := .mod) o_mod (d_var (pv 2)) d_int)) (d_cons (d_bin (o := .addI) o_add d_int (d_bin (o := .mod) o_mod (d_bin (o := .mulI) o_mul (d_var (pv 0)) (d_var (pv 2))) (d_bin (o := .pow) o_pow d_int d_int))) d_nil)))))) (ss_cons (s_ret (d_sc (d_ix (o := .subL) (x_lst ok) (d_var (pv 3)) (d_bin (o := .mod) o_mod (d_bin (o := .fdiv) o_fdiv (d_var (pv 0)) d_int) d_int)))) ss_nil)))
theorem der__law_hung (n : Nat) (B : Bl mg) {a__law_mix : Addr} {fd__law_mix : FuncData} (c__law_mix : Cal defs P w K mg base T cls n 4 "_law_mix" a__law_mix fd__law_mix P__law_mix)   {f : Addr} (cdv : Value) (A : Around) (outer : List PySem.Env) (s : Shared) (H : Hp) (E : XK) (hr : Room (n + 1) (A.deeper (envOfC "_law_hung" (defScope (top 21)) s.heap.objs.size f cdv))) :
    PSs (cxOf (L2.CX P w) P w K mg base N__law_hung "_law_hung" (defScope (top 21)) f cdv A outer s H E) (defBody (top 21)) (rdSs (Cn defs K T cls n) d__law_hung.body (WOf E)) := by
  have ok : Ok (cxOf (L2.CX P w) P w K mg base N__law_hung "_law_hung" (defScope (top 21)) f cdv A outer s H E) (Cn defs K T cls n) := ⟨rfl, rfl, by have := hr.un; show (A.deeper _).units + 66 < cLine; omega⟩
  have nd := sc__law_hung.nd
  exact (ss_cons (s_set (i := 3) nd rfl (by first | exact Or.inl rfl | exact Or.inr rfl) (d_lc ok nd (i_r1 B.range (d_var (pv 1))) (blkOk_by (own := [("_law_place", 5)]) (N := N__law_hung) (sc := defScope (top 21)) (by decide +kernel)) rfl (fun _ _ _ _ _ => (g_name (pg_name (i := 5) nd rfl (by first | exact Or.inl rfl | exact Or.inr rfl)))) (fun _ _ _ _ _ => t_none) (fun _ _ _ _ _ => (d_len (Ok.blk ok _ _ _ _ _) B.len (d_lc (Ok.blk ok _ _ _ _ _) nd (i_lst (Ok.blk ok _ _ _ _ _) (d_var (pv 0))) (blkOk_by (own := [("_law_road", 8)]) (N := N__law_hung) (by kernel_rfl)) rfl (fun _ _ _ _ _ => (g_name (pg_name (i := 8) nd rfl (by first | exact Or.inl rfl | exact Or.inr rfl)))) (fun _ _ _ _ _ => (t_one (p_cmp (o := .inL) (o_inL (Ok.blk (Ok.blk ok _ _ _ _ _) _ _ _ _ _)) (d_var (pv 5)) (d_slcHi (Ok.blk (Ok.blk ok _ _ _ _ _) _ _ _ _ _) (d_var (pv 8)) d_int) rfl))) (fun _ _ _ _ _ => (d_opq (d_var (pv 8))))))))) (ss_cons (s_setLc ok nd rfl rfl (sw_true rfl rfl rfl rfl) rfl (i_r1 B.range (d_var (pv 1))) (blkOk_by (own := [("_law_place", 5)]) (N := N__law_hung) (sc := defScope (top 21)) (by decide +kernel)) rfl (fun _ _ _ _ _ => (g_name (pg_name (i := 5) nd rfl (by first | exact Or.inl rfl | exact Or.inr rfl)))) (fun _ _ _ _ _ => (t_one (p_cmp (o := .eqI) o_eqI (d_ix (o := .subL) (x_lst (Ok.blk ok _ _ _ _ _)) (d_var (pv 3)) (d_var (pv 5))) d_int rfl))) (fun _ _ _ _ _ => (d_sc (d_var (pv 5))))) (ss_cons (s_set (i := 5) nd rfl (by first | exact Or.inl rfl | exact Or.inr rfl) (d_ix (o := .subL) (x_lst ok) (d_var (pv 4)) (d_bin (o := .mod) o_mod (d_call (f := 4) c__law_mix.F ok hr (takes_of rfl rfl rfl rfl) c__law_mix.g c__law_mix.k c__law_mix.b (d_cons (d_sc (d_var (pv 2))) (d_cons d_int d_nil))) (d_len ok B.len (d_var (pv 4)))))) (ss_cons (s_set (i := 6) nd rfl (by first | exact Or.inl rfl | exact Or.inr rfl) (d_bin (o := .mod) o_mod (d_bin (o := .addI) o_add (d_bin (o := .addI) o_add (d_var (pv 5)) d_int) (d_bin (o := .mod) o_mod (d_call (f := 4) c__law_mix.F ok hr (takes_of rfl rfl rfl rfl) c__law_mix.g c__law_mix.k c__law_mix.b (d_cons (d_sc (d_var (pv 2))) (d_cons d_int d_nil))) (d_bin (o := .subI) o_sub (d_var (pv 1)) d_int))) (d_var (pv 1)))) (ss_cons (s_for (passes_of rfl) ok (i_r1 B.range (d_len ok B.len (d_var (pv 0)))) (g_name (pg_name (i := 7) nd rfl (by first | exact Or.inl rfl | exact Or.inr rfl))) (ss_cons (s_if (p_cmp (o := .inL) (o_inL ok) (d_var (pv 5)) (d_slcHi ok (d_ix (o := .subL) (x_lst ok) (d_var (pv 0)) (d_var (pv 7))) d_int) rfl) (ss_cons (s_seti (pv 0) (d_sc (d_var (pv 7))) (d_ix (o := .subL) (x_lst ok) (d_lst (d_cons (d_lst (d_cons (d_sc (d_var (pv 6))) (d_cons (d_sc (d_var (pv 5))) (d_cons (d_sc (d_ix (o := .subL) (x_lst ok) (d_ix (o := .subL) (x_lst ok) (d_var (pv 0)) (d_var (pv 7))) d_int)) d_nil)))) (d_cons (d_lst (d_cons (d_sc (d_var (pv 5))) (d_cons (d_sc (d_var (pv 6))) (d_cons (d_sc (d_ix (o := .subL) (x_lst ok) (d_ix (o := .subL) (x_lst ok) (d_var (pv 0)) (d_var (pv 7))) d_int)) d_nil)))) d_nil))) (d_bin (o := .mod) o_mod (d_var (pv 2)) d_int))) ss_nil) ss_nil) ss_nil)) ss_nil)))))
theorem der__law_tree (n : Nat) (B : Bl mg) {a__law_cell_at : Addr} {fd__law_cell_at : FuncData} (c__law_cell_at : Cal defs P w K mg base T cls n 6 "_law_cell_at" a__law_cell_at fd__law_cell_at P__law_cell_at) {a__law_mix : Addr} {fd__law_mix : FuncData} (c__law_mix : Cal defs P w K mg base T cls n 4 "_law_mix" a__law_mix fd__law_mix P__law_mix) {a__law_older : Addr} {fd__law_older : FuncData} (c__law_older : Cal defs P w K mg base T cls n 7 "_law_older" a__law_older fd__law_older P__law_older) {a__law_size : Addr} {fd__law_size : FuncData} (c__law_size : Cal defs P w K mg base T cls n 8 "_law_size" a__law_size fd__law_size P__law_size) {a__law_hung : Addr} {fd__law_hung : FuncData} (c__law_hung : Cal defs P w K mg base T cls n 9 "_law_hung" a__law_hung fd__law_hung P__law_hung)   {f : Addr} (cdv : Value) (A : Around) (outer : List PySem.Env) (s : Shared) (H : Hp) (E : XK) (hr : Room (n + 1) (A.deeper (envOfC "_law_tree" (defScope (top 22)) s.heap.objs.size f cdv))) :
    PSs (cxOf (L2.CX P w) P w K mg base N__law_tree "_law_tree" (defScope (top 22)) f cdv A outer s H E) (defBody (top 22)) (rdSs (Cn defs K T cls n) d__law_tree_10.body (WOf E)) := by
  have ok : Ok (cxOf (L2.CX P w) P w K mg base N__law_tree "_law_tree" (defScope (top 22)) f cdv A outer s H E) (Cn defs K T cls n) := ⟨rfl, rfl, by have := hr.un; show (A.deeper _).units + 66 < cLine; omega⟩
  have nd := sc__law_tree.nd
  exact (ss_cons (s_set (i := 1) nd rfl (by first | exact Or.inl rfl | exact Or.inr rfl) (d_call (f := 6) c__law_cell_at.F ok hr (takes_of rfl rfl rfl rfl) c__law_cell_at.g c__law_cell_at.k c__law_cell_at.b (d_cons (d_var (pv 0)) (d_cons d_int d_nil)))) (ss_cons (s_set (i := 2) nd rfl (by first | exact Or.inl rfl | exact Or.inr rfl) (d_ix (o := .subL) (x_lst ok) (d_lst (d_cons (d_bin (o := .addI) o_add d_int (d_bin (o := .mod) o_mod (d_bin (o := .fdiv) o_fdiv (d_var (pv 1)) d_int) d_int)) (d_cons (d_bin (o := .addI) o_add d_int (d_bin (o := .mod) o_mod (d_bin (o := .fdiv) o_fdiv (d_var (pv 1)) d_int) d_int)) (d_cons d_int (d_cons (d_bin (o := .addI) o_add d_int (d_bin (o := .mod) o_mod (d_bin (o := .fdiv) o_fdiv (d_var (pv 1)) d_int) d_int)) d_nil))))) (d_bin (o := .mod) o_mod (d_var (pv 1)) d_int))) (ss_cons (s_set (i := 3) nd rfl (by first | exact Or.inl rfl | exact Or.inr rfl) (d_call (f := 6) c__law_cell_at.F ok hr (takes_of rfl rfl rfl rfl) c__law_cell_at.g c__law_cell_at.k c__law_cell_at.b (d_cons (d_var (pv 0)) (d_cons d_int d_nil)))) (ss_cons (s_set (i := 4) nd rfl (by first | exact Or.inl rfl | exact Or.inr rfl) (d_lst d_nil)) (ss_cons (s_for (passes_of rfl) ok (i_r1 B.range (d_var (pv 2))) (g_name (pg_name (i := 5) nd rfl (by first | exact Or.inl rfl | exact Or.inr rfl))) (ss_cons (s_ins ok (pv 4) (d_bin (o := .mod) o_mod (d_call (f := 4) c__law_mix.F ok hr (takes_of rfl rfl rfl rfl) c__law_mix.g c__law_mix.k c__law_mix.b (d_cons (d_bin (o := .addI) o_add (d_var (pv 3)) (d_bin (o := .mulI) o_mul (d_var (pv 5)) (d_var (pv 5)))) (d_cons d_int d_nil))) (d_bin (o := .addI) o_add (d_var (pv 5)) d_int)) (d_sc (d_var (pv 5)))) ss_nil)) (ss_cons (s_set (i := 6) nd rfl (by first | exact Or.inl rfl | exact Or.inr rfl) (d_lst d_nil)) (ss_cons (s_for (passes_of rfl) ok (i_r2 B.range d_int (d_var (pv 2))) (g_name (pg_name (i := 5) nd rfl (by first | exact Or.inl rfl | exact Or.inr rfl))) (ss_cons (s_set (i := 8) nd rfl (by first | exact Or.inl rfl | exact Or.inr rfl) (d_lst (d_cons (d_sc (d_ix (o := .subL) (x_lst ok) (d_var (pv 4)) (d_call (f := 7) c__law_older.F ok hr (takes_of rfl rfl rfl rfl) c__law_older.g c__law_older.k c__law_older.b (d_cons (d_sc (d_var (pv 3))) (d_cons (d_sc (d_var (pv 5))) d_nil))))) (d_cons (d_sc (d_ix (o := .subL) (x_lst ok) (d_var (pv 4)) (d_var (pv 5)))) d_nil)))) (ss_cons (s_if (p_cmp (o := .eqI) o_eqI (d_bin (o := .mod) o_mod (d_call (f := 4) c__law_mix.F ok hr (takes_of rfl rfl rfl rfl) c__law_mix.g c__law_mix.k c__law_mix.b (d_cons (d_bin (o := .addI) o_add (d_var (pv 3)) (d_var (pv 5))) (d_cons d_int d_nil))) d_int) d_int rfl) (ss_cons (s_set (i := 8) nd rfl (by first | exact Or.inl rfl | exact Or.inr rfl) (d_rev ok (d_var (pv 8)))) ss_nil) ss_nil) (ss_cons (s_ins ok (pv 6) (d_bin (o := .mod) o_mod (d_call (f := 4) c__law_mix.F ok hr (takes_of rfl rfl rfl rfl) c__law_mix.g c__law_mix.k c__law_mix.b (d_cons (d_bin (o := .addI) o_add (d_var (pv 3)) (d_var (pv 5))) (d_cons d_int d_nil))) (d_var (pv 5))) (d_scl (d_bin (o := .cat) o_cat (d_var (pv 8)) (d_lst (d_cons (d_call (f := 8) c__law_size.F ok hr (takes_of rfl rfl rfl rfl) c__law_size.g c__law_size.k c__law_size.b (d_cons (d_sc (d_var (pv 3))) (d_cons (d_sc (d_var (pv 5))) d_nil))) d_nil))))) ss_nil)))) (ss_cons (s_for (passes_of rfl) ok (i_lst ok (d_slc ok (d_var (pv 0)) d_int d_int)) (g_name (pg_name (i := 7) nd rfl (by first | exact Or.inl rfl | exact Or.inr rfl))) (ss_cons (s_if (p_w (w_and (p_cmp (o := .gt) o_gt (d_var (pv 2)) d_int rfl) (w_one_and (p_cmp (o := .eqI) o_eqI (d_bin (o := .mod) o_mod (d_var (pv 7)) d_int) d_int rfl)))) (ss_cons (s_exp (d_callM (f := 9) c__law_hung.F ok hr (takes_of rfl rfl rfl rfl) c__law_hung.g c__law_hung.k c__law_hung.b (pv 6) (d_cons (d_sc (d_var (pv 2))) (d_cons (d_bin (o := .fdiv) o_fdiv (d_var (pv 7)) d_int) d_nil)))) ss_nil) ss_nil) (ss_cons (s_if (p_w (w_and (p_cmp (o := .gt) o_gt (d_var (pv 2)) d_int rfl) (w_one_and (p_cmp (o := .eqI) o_eqI (d_bin (o := .mod) o_mod (d_var (pv 7)) d_int) d_int rfl)))) (ss_cons (s_set (i := 9) nd rfl (by first | exact Or.inl rfl | exact Or.inr rfl) (d_bin (o := .mod) o_mod (d_call (f := 4) c__law_mix.F ok hr (takes_of rfl rfl rfl rfl) c__law_mix.g c__law_mix.k c__law_mix.b (d_cons (d_sc (d_var (pv 7))) (d_cons d_int d_nil))) (d_bin (o := .subI) o_sub (d_var (pv 2)) d_int))) (ss_cons (s_set2 ok (pv 6) (d_var (pv 9)) d_int (d_bin (o := .addI) o_add d_int (d_bin (o := .mod) o_mod (d_bin (o := .addI) o_add (d_ix (o := .subL) (x_lst ok) (d_ix (o := .subL) (x_lst ok) (d_var (pv 6)) (d_var (pv 9))) d_int) (d_bin (o := .mod) o_mod (d_call (f := 4) c__law_mix.F ok hr (takes_of rfl rfl rfl rfl) c__law_mix.g c__law_mix.k c__law_mix.b (d_cons (d_sc (d_var (pv 7))) (d_cons d_int d_nil))) d_int)) (d_bin (o := .pow) o_pow d_int d_int)))) ss_nil)) ss_nil) ss_nil))) (ss_cons (s_ret (d_tup (d_cons (d_sc (d_var (pv 2))) (d_cons (d_mv (pv 6)) d_nil)))) ss_nil)))))))))
theorem der__law_fars (n : Nat) (B : Bl mg)    {f : Addr} (cdv : Value) (A : Around) (outer : List PySem.Env) (s : Shared) (H : Hp) (E : XK) (hr : Room (n + 1) (A.deeper (envOfC "_law_fars" (defScope (top 23)) s.heap.objs.size f cdv))) :
    PSs (cxOf (L2.CX P w) P w K mg base N__law_fars "_law_fars" (defScope (top 23)) f cdv A outer s H E) (defBody (top 23)) (rdSs (Cn defs K T cls n) d__law_fars_11.body (WOf E)) := by
  have ok : Ok (cxOf (L2.CX P w) P w K mg base N__law_fars "_law_fars" (defScope (top 23)) f cdv A outer s H E) (Cn defs K T cls n) := ⟨rfl, rfl, by have := hr.un; show (A.deeper _).units + 66 < cLine; omega⟩
  have nd := sc__law_fars.nd
  exact (ss_cons (s_set (i := 3) nd rfl (by first | exact Or.inl rfl | exact Or.inr rfl) (d_dic1 (d_sc (d_var (pv 2))) d_int)) (ss_cons (s_for (passes_of rfl) ok (i_r1 B.range (d_var (pv 0))) (g_name (pg_name (i := 4) nd rfl (by first | exact Or.inl rfl | exact Or.inr rfl))) (ss_cons (s_for (passes_of rfl) ok (i_lst ok (d_var (pv 1))) (g_lsp ok (g_cons (pg_name (i := 5) nd rfl (by first | exact Or.inl rfl | exact Or.inr rfl)) (g_cons (pg_name (i := 6) nd rfl (by first | exact Or.inl rfl | exact Or.inr rfl)) (g_cons (pg_name (i := 7) nd rfl (by first | exact Or.inl rfl | exact Or.inr rfl)) g_nil)))) (ss_cons (s_for (passes_of rfl) ok (i_lst ok (d_lst (d_cons (d_tup (d_cons (d_sc (d_var (pv 5))) (d_cons (d_sc (d_var (pv 6))) d_nil))) (d_cons (d_tup (d_cons (d_sc (d_var (pv 6))) (d_cons (d_sc (d_var (pv 5))) d_nil))) d_nil)))) (g_tup ok (g_cons (pg_name (i := 9) nd rfl (by first | exact Or.inl rfl | exact Or.inr rfl)) (g_cons (pg_name (i := 10) nd rfl (by first | exact Or.inl rfl | exact Or.inr rfl)) g_nil))) (ss_cons (s_if (p_w (w_and (p_inK ok (d_var (pv 9)) (d_var (pv 3)) rfl) (w_one_and (p_ninK ok (d_var (pv 10)) (d_var (pv 3)) rfl)))) (ss_cons (s_setk ok (pv 3) (d_sc (d_var (pv 10))) (d_bin (o := .addI) o_add (d_ixK ok (d_var (pv 3)) (d_var (pv 9)) (fun _ _ => rfl)) (d_var (pv 7)))) ss_nil) ss_nil) ss_nil)) ss_nil)) ss_nil)) (ss_cons (s_ret (d_lc ok nd (i_r1 B.range (d_var (pv 0))) (blkOk_by (own := [("_law_place", 8)]) (N := N__law_fars) (sc := defScope (top 23)) (by decide +kernel)) rfl (fun _ _ _ _ _ => (g_name (pg_name (i := 8) nd rfl (by first | exact Or.inl rfl | exact Or.inr rfl)))) (fun _ _ _ _ _ => t_none) (fun _ _ _ _ _ => (d_sc (d_ixK (Ok.blk ok _ _ _ _ _) (d_var (pv 3)) (d_var (pv 8)) (fun _ _ => rfl)))))) ss_nil)))
theorem der_law (n : Nat) (B : Bl mg) {a__law_tree : Addr} {fd__law_tree : FuncData} (c__law_tree : Cal defs P w K mg base T cls n 10 "_law_tree" a__law_tree fd__law_tree P__law_tree) {a__law_fars : Addr} {fd__law_fars : FuncData} (c__law_fars : Cal defs P w K mg base T cls n 11 "_law_fars" a__law_fars fd__law_fars P__law_fars) {a_beyond : Addr} {fd_beyond : FuncData} (c_beyond : Cal defs P w K mg base T cls n 26 "beyond" a_beyond fd_beyond P_beyond) {a__law_whole : Addr} {fd__law_whole : FuncData} (c__law_whole : Cal defs P w K mg base T cls n 5 "_law_whole" a__law_whole fd__law_whole P__law_whole)   {f : Addr} (cdv : Value) (A : Around) (outer : List PySem.Env) (s : Shared) (H : Hp) (E : XK) (hr : Room (n + 1) (A.deeper (envOfC "law" (defScope (top 24)) s.heap.objs.size f cdv))) :
    PSs (cxOf (L2.CX P w) P w K mg base N_law "law" (defScope (top 24)) f cdv A outer s H E) (defBody (top 24)) (rdSs (Cn defs K T cls n) d_law_27.body (WOf E)) := by
  have ok : Ok (cxOf (L2.CX P w) P w K mg base N_law "law" (defScope (top 24)) f cdv A outer s H E) (Cn defs K T cls n) := ⟨rfl, rfl, by have := hr.un; show (A.deeper _).units + 66 < cLine; omega⟩
  have nd := sc_law.nd
  exact (ss_cons (s_asg (d_call (f := 10) c__law_tree.F ok hr (takes_of rfl rfl rfl rfl) c__law_tree.g c__law_tree.k c__law_tree.b (d_cons (d_var (pv 0)) d_nil)) (g_tup ok (g_cons (pg_name (i := 3) nd rfl (by first | exact Or.inl rfl | exact Or.inr rfl)) (g_cons (pg_name (i := 4) nd rfl (by first | exact Or.inl rfl | exact Or.inr rfl)) g_nil)))) (ss_cons (s_setLc ok nd rfl rfl (sw_true rfl rfl rfl rfl) rfl (i_lst ok (d_var (pv 4))) (blkOk_by (own := [("_law_road", 2)]) (N := N_law) (sc := defScope (top 24)) (by decide +kernel)) rfl (fun _ _ _ _ _ => (g_name (pg_name (i := 2) nd rfl (by first | exact Or.inl rfl | exact Or.inr rfl)))) (fun _ _ _ _ _ => t_none) (fun _ _ _ _ _ => (d_list (Ok.blk ok _ _ _ _ _) B.list (d_var (pv 2))))) (ss_cons (s_for (passes_of rfl) ok (i_lst ok (d_var (pv 4))) (g_name (pg_name (i := 2) nd rfl (by first | exact Or.inl rfl | exact Or.inr rfl))) (ss_cons (s_for (passes_of rfl) ok (i_lst ok (d_lst (d_cons (d_tup (d_cons (d_sc (d_ix (o := .subL) (x_lst ok) (d_var (pv 2)) d_int)) (d_cons (d_sc (d_ix (o := .subL) (x_lst ok) (d_var (pv 2)) d_int)) d_nil))) (d_cons (d_tup (d_cons (d_sc (d_ix (o := .subL) (x_lst ok) (d_var (pv 2)) d_int)) (d_cons (d_sc (d_ix (o := .subL) (x_lst ok) (d_var (pv 2)) d_int)) d_nil))) d_nil)))) (g_tup ok (g_cons (pg_name (i := 5) nd rfl (by first | exact Or.inl rfl | exact Or.inr rfl)) (g_cons (pg_name (i := 6) nd rfl (by first | exact Or.inl rfl | exact Or.inr rfl)) g_nil))) (ss_cons (s_set (i := 7) nd rfl (by first | exact Or.inl rfl | exact Or.inr rfl) (d_call (f := 11) c__law_fars.F ok hr (takes_of rfl rfl rfl rfl) c__law_fars.g c__law_fars.k c__law_fars.b (d_cons (d_sc (d_var (pv 3))) (d_cons (d_var (pv 4)) (d_cons (d_sc (d_var (pv 5))) d_nil))))) (ss_cons (s_set (i := 8) nd rfl (by first | exact Or.inl rfl | exact Or.inr rfl) (d_call (f := 11) c__law_fars.F ok hr (takes_of rfl rfl rfl rfl) c__law_fars.g c__law_fars.k c__law_fars.b (d_cons (d_sc (d_var (pv 3))) (d_cons (d_var (pv 4)) (d_cons (d_sc (d_var (pv 6))) d_nil))))) (ss_cons (s_setLc ok nd rfl rfl (sw_true rfl rfl rfl rfl) rfl (i_r1 B.range (d_var (pv 3))) (blkOk_by (own := [("_law_place", 11)]) (N := N_law) (sc := defScope (top 24)) (by decide +kernel)) rfl (fun _ _ _ _ _ => (g_name (pg_name (i := 11) nd rfl (by first | exact Or.inl rfl | exact Or.inr rfl)))) (fun _ _ _ _ _ => (t_one (p_cmp (o := .gt) o_gt (d_ix (o := .subL) (x_lst (Ok.blk ok _ _ _ _ _)) (d_var (pv 7)) (d_var (pv 11))) (d_ix (o := .subL) (x_lst (Ok.blk ok _ _ _ _ _)) (d_var (pv 8)) (d_var (pv 11))) rfl))) (fun _ _ _ _ _ => (d_sc (d_var (pv 11))))) (ss_cons (s_set (i := 10) nd rfl (by first | exact Or.inl rfl | exact Or.inr rfl) (d_call (f := 26) c_beyond.F ok hr (takes_of rfl rfl rfl rfl) c_beyond.g c_beyond.k c_beyond.b (d_cons (d_sc (d_var (pv 3))) (d_cons (d_var (pv 1)) (d_cons (d_sc (d_var (pv 5))) (d_cons (d_sc (d_var (pv 6))) d_nil)))))) (ss_cons (s_if (p_w (w_or (p_not (p_val (d_isi (o := .isList) (T := "list") ok (by decide) (fun _ _ _ => rfl) boot_list B.isinstance B.list (d_var (pv 10))))) (w_one_or (p_cmp (o := .neD) (o_neD ok) (d_var (pv 10)) (d_var (pv 9)) rfl)))) (ss_cons (s_ret d_bl) ss_nil) ss_nil) (ss_cons (s_forC (s_for (passes_of rfl) ok (i_lst ok (d_var (pv 10))) (g_name (pg_name (i := 11) nd rfl (by first | exact Or.inl rfl | exact Or.inr rfl))) (ss_cons (s_if (p_not (p_val (d_call (f := 5) c__law_whole.F ok hr (takes_of rfl rfl rfl rfl) c__law_whole.g c__law_whole.k c__law_whole.b (d_cons (d_sc (d_var (pv 11))) d_nil)))) (ss_cons (s_ret d_bl) ss_nil) ss_nil) ss_nil))) (ss_cons (s_clr ok (pv 10)) ss_nil)))))))) ss_nil)) (ss_cons (s_ret (d_cmp (o := .eqD) (o_eqD ok) (d_var (pv 1)) (d_var (pv 4)) rfl)) ss_nil))))
end
def cls (K : PySem.W.Frag) (c : Nat) : Addr := He.ga K ((["TreeError", "NoTree", "NoPlace", "NoRoad", "NoSpot", "NoSite", "NoYard", "NoWorth", "NoGift", "NoText", "NoKind", "NoQuestion", "NoRow", "NoName"] : List Str).getD c "")
/-- what the top leaves -/
structure Left (K : PySem.W.Frag) (mg : Str → Option Value) (fd : Nat → FuncData) : Prop where
  B : Bl mg
  g_MOST : ∃ t, mg "MOST" = some (.int 12 t)
  x_NoPlace : Exc K mg "NoPlace" (cls K 2)
  x_NoRoad : Exc K mg "NoRoad" (cls K 3)
  x_NoTree : Exc K mg "NoTree" (cls K 1)
  F_are_unlike_places : FnP K "are_unlike_places" (top 7) (He.ga K "are_unlike_places") (fd 0)
  g_are_unlike_places : mg "are_unlike_places" = some (.ref (He.ga K "are_unlike_places"))
  F_steps_from : FnP K "steps_from" (top 8) (He.ga K "steps_from") (fd 1)
  g_steps_from : mg "steps_from" = some (.ref (He.ga K "steps_from"))
  F_spread : FnP K "spread" (top 9) (He.ga K "spread") (fd 2)
  g_spread : mg "spread" = some (.ref (He.ga K "spread"))
  F_is_tree : FnP K "is_tree" (top 10) (He.ga K "is_tree") (fd 3)
  g_is_tree : mg "is_tree" = some (.ref (He.ga K "is_tree"))
  F_must_be_tree : FnP K "must_be_tree" (top 11) (He.ga K "must_be_tree") (fd 4)
  g_must_be_tree : mg "must_be_tree" = some (.ref (He.ga K "must_be_tree"))
  F_must_be_places : FnP K "must_be_places" (top 12) (He.ga K "must_be_places") (fd 5)
  g_must_be_places : mg "must_be_places" = some (.ref (He.ga K "must_be_places"))
  F_are_neighbours : FnP K "are_neighbours" (top 13) (He.ga K "are_neighbours") (fd 6)
  g_are_neighbours : mg "are_neighbours" = some (.ref (He.ga K "are_neighbours"))
  F_beyond : FnP K "beyond" (top 14) (He.ga K "beyond") (fd 7)
  g_beyond : mg "beyond" = some (.ref (He.ga K "beyond"))
  F__law_mix : FnP K "_law_mix" (top 16) (He.ga K "_law_mix") (fd 8)
  g__law_mix : mg "_law_mix" = some (.ref (He.ga K "_law_mix"))
  F__law_whole : FnP K "_law_whole" (top 17) (He.ga K "_law_whole") (fd 9)
  g__law_whole : mg "_law_whole" = some (.ref (He.ga K "_law_whole"))
  F__law_cell_at : FnP K "_law_cell_at" (top 18) (He.ga K "_law_cell_at") (fd 10)
  g__law_cell_at : mg "_law_cell_at" = some (.ref (He.ga K "_law_cell_at"))
  F__law_older : FnP K "_law_older" (top 19) (He.ga K "_law_older") (fd 11)
  g__law_older : mg "_law_older" = some (.ref (He.ga K "_law_older"))
  F__law_size : FnP K "_law_size" (top 20) (He.ga K "_law_size") (fd 12)
  g__law_size : mg "_law_size" = some (.ref (He.ga K "_law_size"))
  F__law_hung : FnP K "_law_hung" (top 21) (He.ga K "_law_hung") (fd 13)
  g__law_hung : mg "_law_hung" = some (.ref (He.ga K "_law_hung"))
  F__law_tree : FnP K "_law_tree" (top 22) (He.ga K "_law_tree") (fd 14)
  g__law_tree : mg "_law_tree" = some (.ref (He.ga K "_law_tree"))
  F__law_fars : FnP K "_law_fars" (top 23) (He.ga K "_law_fars") (fd 15)
  g__law_fars : mg "_law_fars" = some (.ref (He.ga K "_law_fars"))
  F_law : FnP K "law" (top 24) (He.ga K "law") (fd 16)
  g_law : mg "law" = some (.ref (He.ga K "law"))
section
variable {P : Program} {w : World} {K : PySem.W.Frag} {mg : Str → Option Value} {base : Heap} {fd : Nat → FuncData}
structure All (P : Program) (w : World) (K : PySem.W.Frag) (mg : Str → Option Value) (base : Heap) (fd : Nat → FuncData) (n : Nat) : Prop where
  f_are_unlike_places : FnOk P w K mg base (L2.CX P w) (n + 1) (He.ga K "are_unlike_places") (fd 0) P_are_unlike_places (spF (Cn defs K [] (cls K) n) (sems defs n 0))
  f_steps_from : FnOk P w K mg base (L2.CX P w) (n + 1) (He.ga K "steps_from") (fd 1) P_steps_from (spF (Cn defs K [] (cls K) n) (sems defs n 1))
  f_spread : FnOk P w K mg base (L2.CX P w) (n + 1) (He.ga K "spread") (fd 2) P_spread (spF (Cn defs K [] (cls K) n) (sems defs n 2))
  f_is_tree : FnOk P w K mg base (L2.CX P w) (n + 1) (He.ga K "is_tree") (fd 3) P_is_tree (spF (Cn defs K [] (cls K) n) (sems defs n 3))
  f_must_be_tree : FnOk P w K mg base (L2.CX P w) (n + 1) (He.ga K "must_be_tree") (fd 4) P_must_be_tree (spF (Cn defs K [] (cls K) n) (sems defs n 15))
  f_must_be_places : FnOk P w K mg base (L2.CX P w) (n + 1) (He.ga K "must_be_places") (fd 5) P_must_be_places (spF (Cn defs K [] (cls K) n) (sems defs n 16))
  f_are_neighbours : FnOk P w K mg base (L2.CX P w) (n + 1) (He.ga K "are_neighbours") (fd 6) P_are_neighbours (spF (Cn defs K [] (cls K) n) (sems defs n 25))
  f_beyond : FnOk P w K mg base (L2.CX P w) (n + 1) (He.ga K "beyond") (fd 7) P_beyond (spF (Cn defs K [] (cls K) n) (sems defs n 26))
  f__law_mix : FnOk P w K mg base (L2.CX P w) (n + 1) (He.ga K "_law_mix") (fd 8) P__law_mix (spF (Cn defs K [] (cls K) n) (sems defs n 4))
  f__law_whole : FnOk P w K mg base (L2.CX P w) (n + 1) (He.ga K "_law_whole") (fd 9) P__law_whole (spF (Cn defs K [] (cls K) n) (sems defs n 5))
  f__law_cell_at : FnOk P w K mg base (L2.CX P w) (n + 1) (He.ga K "_law_cell_at") (fd 10) P__law_cell_at (spF (Cn defs K [] (cls K) n) (sems defs n 6))
  f__law_older : FnOk P w K mg base (L2.CX P w) (n + 1) (He.ga K "_law_older") (fd 11) P__law_older (spF (Cn defs K [] (cls K) n) (sems defs n 7))
  f__law_size : FnOk P w K mg base (L2.CX P w) (n + 1) (He.ga K "_law_size") (fd 12) P__law_size (spF (Cn defs K [] (cls K) n) (sems defs n 8))
  f__law_hung : FnOk P w K mg base (L2.CX P w) (n + 1) (He.ga K "_law_hung") (fd 13) P__law_hung (spF (Cn defs K [] (cls K) n) (sems defs n 9))
  f__law_tree : FnOk P w K mg base (L2.CX P w) (n + 1) (He.ga K "_law_tree") (fd 14) P__law_tree (spF (Cn defs K [] (cls K) n) (sems defs n 10))
  f__law_fars : FnOk P w K mg base (L2.CX P w) (n + 1) (He.ga K "_law_fars") (fd 15) P__law_fars (spF (Cn defs K [] (cls K) n) (sems defs n 11))
  f_law : FnOk P w K mg base (L2.CX P w) (n + 1) (He.ga K "law") (fd 16) P_law (spF (Cn defs K [] (cls K) n) (sems defs n 27))
theorem bn_are_unlike_places (s : Left K mg fd) : Binds K (fd 0) P_are_unlike_places [] := s.F_are_unlike_places.bindsN fun _ _ _ _ _ _ us hl => match us, hl with | [_, _], _ => rfl
theorem bn_steps_from (s : Left K mg fd) : Binds K (fd 1) P_steps_from [] := s.F_steps_from.bindsN fun _ _ _ _ _ _ us hl => match us, hl with | [_, _], _ => rfl
theorem bn_spread (s : Left K mg fd) : Binds K (fd 2) P_spread [] := s.F_spread.bindsN fun _ _ _ _ _ _ us hl => match us, hl with | [_, _, _], _ => rfl
theorem bn_is_tree (s : Left K mg fd) : Binds K (fd 3) P_is_tree [] := s.F_is_tree.bindsN fun _ _ _ _ _ _ us hl => match us, hl with | [_, _], _ => rfl
theorem bn_must_be_tree (s : Left K mg fd) : Binds K (fd 4) P_must_be_tree [] := s.F_must_be_tree.bindsN fun _ _ _ _ _ _ us hl => match us, hl with | [_, _], _ => rfl
theorem bn_must_be_places (s : Left K mg fd) : Binds K (fd 5) P_must_be_places [] := s.F_must_be_places.bindsN fun _ _ _ _ _ _ us hl => match us, hl with | [_, _], _ => rfl
theorem bn_are_neighbours (s : Left K mg fd) : Binds K (fd 6) P_are_neighbours [] := s.F_are_neighbours.bindsN fun _ _ _ _ _ _ us hl => match us, hl with | [_, _, _], _ => rfl
theorem bn_beyond (s : Left K mg fd) : Binds K (fd 7) P_beyond [] := s.F_beyond.bindsN fun _ _ _ _ _ _ us hl => match us, hl with | [_, _, _, _], _ => rfl
theorem bn__law_mix (s : Left K mg fd) : Binds K (fd 8) P__law_mix [] := s.F__law_mix.bindsN fun _ _ _ _ _ _ us hl => match us, hl with | [_, _], _ => rfl
theorem bn__law_whole (s : Left K mg fd) : Binds K (fd 9) P__law_whole [] := s.F__law_whole.bindsN fun _ _ _ _ _ _ us hl => match us, hl with | [_], _ => rfl
theorem bn__law_cell_at (s : Left K mg fd) : Binds K (fd 10) P__law_cell_at [] := s.F__law_cell_at.bindsN fun _ _ _ _ _ _ us hl => match us, hl with | [_, _], _ => rfl
theorem bn__law_older (s : Left K mg fd) : Binds K (fd 11) P__law_older [] := s.F__law_older.bindsN fun _ _ _ _ _ _ us hl => match us, hl with | [_, _], _ => rfl
theorem bn__law_size (s : Left K mg fd) : Binds K (fd 12) P__law_size [] := s.F__law_size.bindsN fun _ _ _ _ _ _ us hl => match us, hl with | [_, _], _ => rfl
theorem bn__law_hung (s : Left K mg fd) : Binds K (fd 13) P__law_hung [] := s.F__law_hung.bindsN fun _ _ _ _ _ _ us hl => match us, hl with | [_, _, _], _ => rfl
theorem bn__law_tree (s : Left K mg fd) : Binds K (fd 14) P__law_tree [] := s.F__law_tree.bindsN fun _ _ _ _ _ _ us hl => match us, hl with | [_], _ => rfl
theorem bn__law_fars (s : Left K mg fd) : Binds K (fd 15) P__law_fars [] := s.F__law_fars.bindsN fun _ _ _ _ _ _ us hl => match us, hl with | [_, _, _], _ => rfl
theorem bn_law (s : Left K mg fd) : Binds K (fd 16) P_law [] := s.F_law.bindsN fun _ _ _ _ _ _ us hl => match us, hl with | [_], _ => rfl
theorem up_are_unlike_places (s : Left K mg fd) {n : Nat} (a : All P w K mg base fd n) : FnOk P w K mg base (L2.CX P w) (n + 1 + 1) (He.ga K "are_unlike_places") (fd 0) P_are_unlike_places (spF (Cn defs K [] (cls K) (n + 1)) (sems defs (n + 1) 0)) := by
  have h := fn_okD (P := P) (w := w) (mg := mg) (base := base) (sig_ok defs K [] (cls K) n) ok_are_unlike_places s.F_are_unlike_places sc_are_unlike_places rfl rfl (der_are_unlike_places n s.B   )
  rw [spF_eq (Ψ := sems defs (n + 1))] at h
  exact h
theorem up_steps_from (s : Left K mg fd) {n : Nat} (a : All P w K mg base fd n) : FnOk P w K mg base (L2.CX P w) (n + 1 + 1) (He.ga K "steps_from") (fd 1) P_steps_from (spF (Cn defs K [] (cls K) (n + 1)) (sems defs (n + 1) 1)) := by
  have h := fn_okD (P := P) (w := w) (mg := mg) (base := base) (sig_ok defs K [] (cls K) n) ok_steps_from s.F_steps_from sc_steps_from rfl rfl (der_steps_from n s.B   )
  rw [spF_eq (Ψ := sems defs (n + 1))] at h
  exact h
theorem up_spread (s : Left K mg fd) {n : Nat} (a : All P w K mg base fd n) : FnOk P w K mg base (L2.CX P w) (n + 1 + 1) (He.ga K "spread") (fd 2) P_spread (spF (Cn defs K [] (cls K) (n + 1)) (sems defs (n + 1) 2)) := by
  have h := fn_okD (P := P) (w := w) (mg := mg) (base := base) (sig_ok defs K [] (cls K) n) ok_spread s.F_spread sc_spread rfl rfl (der_spread n s.B ⟨a.f_steps_from, s.g_steps_from, s.F_steps_from.kp, bn_steps_from s⟩  )
  rw [spF_eq (Ψ := sems defs (n + 1))] at h
  exact h
theorem up_is_tree (s : Left K mg fd) {n : Nat} (a : All P w K mg base fd n) : FnOk P w K mg base (L2.CX P w) (n + 1 + 1) (He.ga K "is_tree") (fd 3) P_is_tree (spF (Cn defs K [] (cls K) (n + 1)) (sems defs (n + 1) 3)) := by
  have h := fn_okD (P := P) (w := w) (mg := mg) (base := base) (sig_ok defs K [] (cls K) n) ok_is_tree s.F_is_tree sc_is_tree rfl rfl (der_is_tree n s.B ⟨a.f_are_unlike_places, s.g_are_unlike_places, s.F_are_unlike_places.kp, bn_are_unlike_places s⟩ ⟨a.f_spread, s.g_spread, s.F_spread.kp, bn_spread s⟩  s.g_MOST)
  rw [spF_eq (Ψ := sems defs (n + 1))] at h
  exact h
theorem up_must_be_tree (s : Left K mg fd) {n : Nat} (a : All P w K mg base fd n) : FnOk P w K mg base (L2.CX P w) (n + 1 + 1) (He.ga K "must_be_tree") (fd 4) P_must_be_tree (spF (Cn defs K [] (cls K) (n + 1)) (sems defs (n + 1) 15)) := by
  have h := fn_okD (P := P) (w := w) (mg := mg) (base := base) (sig_ok defs K [] (cls K) n) ok_must_be_tree s.F_must_be_tree sc_must_be_tree rfl rfl (der_must_be_tree n s.B ⟨a.f_is_tree, s.g_is_tree, s.F_is_tree.kp, bn_is_tree s⟩ s.x_NoTree )
  rw [spF_eq (Ψ := sems defs (n + 1))] at h
  exact h
theorem up_must_be_places (s : Left K mg fd) {n : Nat} (a : All P w K mg base fd n) : FnOk P w K mg base (L2.CX P w) (n + 1 + 1) (He.ga K "must_be_places") (fd 5) P_must_be_places (spF (Cn defs K [] (cls K) (n + 1)) (sems defs (n + 1) 16)) := by
  have h := fn_okD (P := P) (w := w) (mg := mg) (base := base) (sig_ok defs K [] (cls K) n) ok_must_be_places s.F_must_be_places sc_must_be_places rfl rfl (der_must_be_places n s.B  s.x_NoPlace )
  rw [spF_eq (Ψ := sems defs (n + 1))] at h
  exact h
theorem up_are_neighbours (s : Left K mg fd) {n : Nat} (a : All P w K mg base fd n) : FnOk P w K mg base (L2.CX P w) (n + 1 + 1) (He.ga K "are_neighbours") (fd 6) P_are_neighbours (spF (Cn defs K [] (cls K) (n + 1)) (sems defs (n + 1) 25)) := by
  have h := fn_okD (P := P) (w := w) (mg := mg) (base := base) (sig_ok defs K [] (cls K) n) ok_are_neighbours s.F_are_neighbours sc_are_neighbours rfl rfl (der_are_neighbours n s.B ⟨a.f_steps_from, s.g_steps_from, s.F_steps_from.kp, bn_steps_from s⟩  )
  rw [spF_eq (Ψ := sems defs (n + 1))] at h
  exact h
theorem up_beyond (s : Left K mg fd) {n : Nat} (a : All P w K mg base fd n) : FnOk P w K mg base (L2.CX P w) (n + 1 + 1) (He.ga K "beyond") (fd 7) P_beyond (spF (Cn defs K [] (cls K) (n + 1)) (sems defs (n + 1) 26)) := by
  have h := fn_okD (P := P) (w := w) (mg := mg) (base := base) (sig_ok defs K [] (cls K) n) ok_beyond s.F_beyond sc_beyond rfl rfl (der_beyond n s.B ⟨a.f_must_be_tree, s.g_must_be_tree, s.F_must_be_tree.kp, bn_must_be_tree s⟩ ⟨a.f_must_be_places, s.g_must_be_places, s.F_must_be_places.kp, bn_must_be_places s⟩ ⟨a.f_are_neighbours, s.g_are_neighbours, s.F_are_neighbours.kp, bn_are_neighbours s⟩ ⟨a.f_spread, s.g_spread, s.F_spread.kp, bn_spread s⟩ s.x_NoRoad )
  rw [spF_eq (Ψ := sems defs (n + 1))] at h
  exact h
theorem up__law_mix (s : Left K mg fd) {n : Nat} (a : All P w K mg base fd n) : FnOk P w K mg base (L2.CX P w) (n + 1 + 1) (He.ga K "_law_mix") (fd 8) P__law_mix (spF (Cn defs K [] (cls K) (n + 1)) (sems defs (n + 1) 4)) := by
  have h := fn_okD (P := P) (w := w) (mg := mg) (base := base) (sig_ok defs K [] (cls K) n) ok__law_mix s.F__law_mix sc__law_mix rfl rfl (der__law_mix n s.B   )
  rw [spF_eq (Ψ := sems defs (n + 1))] at h
  exact h
theorem up__law_whole (s : Left K mg fd) {n : Nat} (a : All P w K mg base fd n) : FnOk P w K mg base (L2.CX P w) (n + 1 + 1) (He.ga K "_law_whole") (fd 9) P__law_whole (spF (Cn defs K [] (cls K) (n + 1)) (sems defs (n + 1) 5)) := by
  have h := fn_okD (P := P) (w := w) (mg := mg) (base := base) (sig_ok defs K [] (cls K) n) ok__law_whole s.F__law_whole sc__law_whole rfl rfl (der__law_whole n s.B   )
  rw [spF_eq (Ψ := sems defs (n + 1))] at h
  exact h
theorem up__law_cell_at (s : Left K mg fd) {n : Nat} (a : All P w K mg base fd n) : FnOk P w K mg base (L2.CX P w) (n + 1 + 1) (He.ga K "_law_cell_at") (fd 10) P__law_cell_at (spF (Cn defs K [] (cls K) (n + 1)) (sems defs (n + 1) 6)) := by
  have h := fn_okD (P := P) (w := w) (mg := mg) (base := base) (sig_ok defs K [] (cls K) n) ok__law_cell_at s.F__law_cell_at sc__law_cell_at rfl rfl (der__law_cell_at n s.B   )
  rw [spF_eq (Ψ := sems defs (n + 1))] at h
  exact h
theorem up__law_older (s : Left K mg fd) {n : Nat} (a : All P w K mg base fd n) : FnOk P w K mg base (L2.CX P w) (n + 1 + 1) (He.ga K "_law_older") (fd 11) P__law_older (spF (Cn defs K [] (cls K) (n + 1)) (sems defs (n + 1) 7)) := by
  have h := fn_okD (P := P) (w := w) (mg := mg) (base := base) (sig_ok defs K [] (cls K) n) ok__law_older s.F__law_older sc__law_older rfl rfl (der__law_older n s.B ⟨a.f__law_mix, s.g__law_mix, s.F__law_mix.kp, bn__law_mix s⟩  )
  rw [spF_eq (Ψ := sems defs (n + 1))] at h
  exact h
theorem up__law_size (s : Left K mg fd) {n : Nat} (a : All P w K mg base fd n) : FnOk P w K mg base (L2.CX P w) (n + 1 + 1) (He.ga K "_law_size") (fd 12) P__law_size (spF (Cn defs K [] (cls K) (n + 1)) (sems defs (n + 1) 8)) := by
  have h := fn_okD (P := P) (w := w) (mg := mg) (base := base) (sig_ok defs K [] (cls K) n) ok__law_size s.F__law_size sc__law_size rfl rfl (der__law_size n s.B ⟨a.f__law_mix, s.g__law_mix, s.F__law_mix.kp, bn__law_mix s⟩  )
  rw [spF_eq (Ψ := sems defs (n + 1))] at h
  exact h
theorem up__law_hung (s : Left K mg fd) {n : Nat} (a : All P w K mg base fd n) : FnOk P w K mg base (L2.CX P w) (n + 1 + 1) (He.ga K "_law_hung") (fd 13) P__law_hung (spF (Cn defs K [] (cls K) (n + 1)) (sems defs (n + 1) 9)) := by
  have h := fn_okD (P := P) (w := w) (mg := mg) (base := base) (sig_ok defs K [] (cls K) n) ok__law_hung s.F__law_hung sc__law_hung rfl rfl (der__law_hung n s.B ⟨a.f__law_mix, s.g__law_mix, s.F__law_mix.kp, bn__law_mix s⟩  )
  rw [spF_eq (Ψ := sems defs (n + 1))] at h
  exact h
theorem up__law_tree (s : Left K mg fd) {n : Nat} (a : All P w K mg base fd n) : FnOk P w K mg base (L2.CX P w) (n + 1 + 1) (He.ga K "_law_tree") (fd 14) P__law_tree (spF (Cn defs K [] (cls K) (n + 1)) (sems defs (n + 1) 10)) := by
  have h := fn_okD (P := P) (w := w) (mg := mg) (base := base) (sig_ok defs K [] (cls K) n) ok__law_tree s.F__law_tree sc__law_tree rfl rfl (der__law_tree n s.B ⟨a.f__law_cell_at, s.g__law_cell_at, s.F__law_cell_at.kp, bn__law_cell_at s⟩ ⟨a.f__law_mix, s.g__law_mix, s.F__law_mix.kp, bn__law_mix s⟩ ⟨a.f__law_older, s.g__law_older, s.F__law_older.kp, bn__law_older s⟩ ⟨a.f__law_size, s.g__law_size, s.F__law_size.kp, bn__law_size s⟩ ⟨a.f__law_hung, s.g__law_hung, s.F__law_hung.kp, bn__law_hung s⟩  )
  rw [spF_eq (Ψ := sems defs (n + 1))] at h
  exact h
theorem up__law_fars (s : Left K mg fd) {n : Nat} (a : All P w K mg base fd n) : FnOk P w K mg base (L2.CX P w) (n + 1 + 1) (He.ga K "_law_fars") (fd 15) P__law_fars (spF (Cn defs K [] (cls K) (n + 1)) (sems defs (n + 1) 11)) := by
  have h := fn_okD (P := P) (w := w) (mg := mg) (base := base) (sig_ok defs K [] (cls K) n) ok__law_fars s.F__law_fars sc__law_fars rfl rfl (der__law_fars n s.B   )
  rw [spF_eq (Ψ := sems defs (n + 1))] at h
  exact h
theorem up_law (s : Left K mg fd) {n : Nat} (a : All P w K mg base fd n) : FnOk P w K mg base (L2.CX P w) (n + 1 + 1) (He.ga K "law") (fd 16) P_law (spF (Cn defs K [] (cls K) (n + 1)) (sems defs (n + 1) 27)) := by
  have h := fn_okD (P := P) (w := w) (mg := mg) (base := base) (sig_ok defs K [] (cls K) n) ok_law s.F_law sc_law rfl rfl (der_law n s.B ⟨a.f__law_tree, s.g__law_tree, s.F__law_tree.kp, bn__law_tree s⟩ ⟨a.f__law_fars, s.g__law_fars, s.F__law_fars.kp, bn__law_fars s⟩ ⟨a.f_beyond, s.g_beyond, s.F_beyond.kp, bn_beyond s⟩ ⟨a.f__law_whole, s.g__law_whole, s.F__law_whole.kp, bn__law_whole s⟩  )
  rw [spF_eq (Ψ := sems defs (n + 1))] at h
  exact h
theorem all (s : Left K mg fd) : ∀ n, All P w K mg base fd n
  | 0 => ⟨fn_noD (C := Cn defs K [] (cls K) 0) s.F_are_unlike_places sc_are_unlike_places, fn_noD (C := Cn defs K [] (cls K) 0) s.F_steps_from sc_steps_from, fn_noD (C := Cn defs K [] (cls K) 0) s.F_spread sc_spread, fn_noD (C := Cn defs K [] (cls K) 0) s.F_is_tree sc_is_tree, fn_noD (C := Cn defs K [] (cls K) 0) s.F_must_be_tree sc_must_be_tree, fn_noD (C := Cn defs K [] (cls K) 0) s.F_must_be_places sc_must_be_places, fn_noD (C := Cn defs K [] (cls K) 0) s.F_are_neighbours sc_are_neighbours, fn_noD (C := Cn defs K [] (cls K) 0) s.F_beyond sc_beyond, fn_noD (C := Cn defs K [] (cls K) 0) s.F__law_mix sc__law_mix, fn_noD (C := Cn defs K [] (cls K) 0) s.F__law_whole sc__law_whole, fn_noD (C := Cn defs K [] (cls K) 0) s.F__law_cell_at sc__law_cell_at, fn_noD (C := Cn defs K [] (cls K) 0) s.F__law_older sc__law_older, fn_noD (C := Cn defs K [] (cls K) 0) s.F__law_size sc__law_size, fn_noD (C := Cn defs K [] (cls K) 0) s.F__law_hung sc__law_hung, fn_noD (C := Cn defs K [] (cls K) 0) s.F__law_tree sc__law_tree, fn_noD (C := Cn defs K [] (cls K) 0) s.F__law_fars sc__law_fars, fn_noD (C := Cn defs K [] (cls K) 0) s.F_law sc_law⟩
  | n + 1 => have a := all s n
    ⟨up_are_unlike_places s a, up_steps_from s a, up_spread s a, up_is_tree s a, up_must_be_tree s a, up_must_be_places s a, up_are_neighbours s a, up_beyond s a, up__law_mix s a, up__law_whole s a, up__law_cell_at s a, up__law_older s a, up__law_size s a, up__law_hung s a, up__law_tree s a, up__law_fars s a, up_law s a⟩
end
def fn : List He.DefD := [⟨("are_unlike_places", none), "are_unlike_places", "are_unlike_places", defArgs (top 7), defBody (top 7), defScope (top 7), [], []⟩,
 ⟨("steps_from", none), "steps_from", "steps_from", defArgs (top 8), defBody (top 8), defScope (top 8), [], []⟩,
 ⟨("spread", none), "spread", "spread", defArgs (top 9), defBody (top 9), defScope (top 9), [], []⟩,
 ⟨("is_tree", none), "is_tree", "is_tree", defArgs (top 10), defBody (top 10), defScope (top 10), [], []⟩,
 ⟨("must_be_tree", none), "must_be_tree", "must_be_tree", defArgs (top 11), defBody (top 11), defScope (top 11), [], []⟩,
 ⟨("must_be_places", none), "must_be_places", "must_be_places", defArgs (top 12), defBody (top 12), defScope (top 12), [], []⟩,
 ⟨("are_neighbours", none), "are_neighbours", "are_neighbours", defArgs (top 13), defBody (top 13), defScope (top 13), [], []⟩,
 ⟨("beyond", none), "beyond", "beyond", defArgs (top 14), defBody (top 14), defScope (top 14), [], []⟩,
 ⟨("_law_mix", none), "_law_mix", "_law_mix", defArgs (top 16), defBody (top 16), defScope (top 16), [], []⟩,
 ⟨("_law_whole", none), "_law_whole", "_law_whole", defArgs (top 17), defBody (top 17), defScope (top 17), [], []⟩,
 ⟨("_law_cell_at", none), "_law_cell_at", "_law_cell_at", defArgs (top 18), defBody (top 18), defScope (top 18), [], []⟩,
 ⟨("_law_older", none), "_law_older", "_law_older", defArgs (top 19), defBody (top 19), defScope (top 19), [], []⟩,
 ⟨("_law_size", none), "_law_size", "_law_size", defArgs (top 20), defBody (top 20), defScope (top 20), [], []⟩,
 ⟨("_law_hung", none), "_law_hung", "_law_hung", defArgs (top 21), defBody (top 21), defScope (top 21), [], []⟩,
 ⟨("_law_tree", none), "_law_tree", "_law_tree", defArgs (top 22), defBody (top 22), defScope (top 22), [], []⟩,
 ⟨("_law_fars", none), "_law_fars", "_law_fars", defArgs (top 23), defBody (top 23), defScope (top 23), [], []⟩,
 ⟨("law", none), "law", "law", defArgs (top 24), defBody (top 24), defScope (top 24), [], []⟩]
def fa : List He.Fa := [.glo "are_unlike_places", .glo "steps_from", .glo "spread", .glo "is_tree", .glo "must_be_tree", .glo "must_be_places", .glo "are_neighbours", .glo "beyond", .glo "_law_mix", .glo "_law_whole", .glo "_law_cell_at", .glo "_law_older", .glo "_law_size", .glo "_law_hung", .glo "_law_tree", .glo "_law_fars", .glo "law", .free "bool", .free "int", .free "isinstance", .free "len", .free "list", .free "max", .free "range", .free "set", .free "sorted", .int "MOST" 12, .exc "NoPlace", .glo "NoPlace", .exc "NoRoad", .glo "NoRoad", .exc "NoTree", .glo "NoTree"]
theorem left_of {K : PySem.W.Frag} {h : Heap} {mg : Str → Option Value} (X : K.In h) (G : h.Ns mainGlobals mg) (c : He.SaysD fa fn K) : ∃ fd : Nat → FuncData, Left K mg fd := by
  obtain ⟨fd0, F0⟩ := c.def_ 0 (d := ⟨("are_unlike_places", none), "are_unlike_places", "are_unlike_places", defArgs (top 7), defBody (top 7), defScope (top 7), [], []⟩) rfl
  obtain ⟨fd1, F1⟩ := c.def_ 1 (d := ⟨("steps_from", none), "steps_from", "steps_from", defArgs (top 8), defBody (top 8), defScope (top 8), [], []⟩) rfl
  obtain ⟨fd2, F2⟩ := c.def_ 2 (d := ⟨("spread", none), "spread", "spread", defArgs (top 9), defBody (top 9), defScope (top 9), [], []⟩) rfl
  obtain ⟨fd3, F3⟩ := c.def_ 3 (d := ⟨("is_tree", none), "is_tree", "is_tree", defArgs (top 10), defBody (top 10), defScope (top 10), [], []⟩) rfl
  obtain ⟨fd4, F4⟩ := c.def_ 4 (d := ⟨("must_be_tree", none), "must_be_tree", "must_be_tree", defArgs (top 11), defBody (top 11), defScope (top 11), [], []⟩) rfl
  obtain ⟨fd5, F5⟩ := c.def_ 5 (d := ⟨("must_be_places", none), "must_be_places", "must_be_places", defArgs (top 12), defBody (top 12), defScope (top 12), [], []⟩) rfl
  obtain ⟨fd6, F6⟩ := c.def_ 6 (d := ⟨("are_neighbours", none), "are_neighbours", "are_neighbours", defArgs (top 13), defBody (top 13), defScope (top 13), [], []⟩) rfl
  obtain ⟨fd7, F7⟩ := c.def_ 7 (d := ⟨("beyond", none), "beyond", "beyond", defArgs (top 14), defBody (top 14), defScope (top 14), [], []⟩) rfl
  obtain ⟨fd8, F8⟩ := c.def_ 8 (d := ⟨("_law_mix", none), "_law_mix", "_law_mix", defArgs (top 16), defBody (top 16), defScope (top 16), [], []⟩) rfl
  obtain ⟨fd9, F9⟩ := c.def_ 9 (d := ⟨("_law_whole", none), "_law_whole", "_law_whole", defArgs (top 17), defBody (top 17), defScope (top 17), [], []⟩) rfl
  obtain ⟨fd10, F10⟩ := c.def_ 10 (d := ⟨("_law_cell_at", none), "_law_cell_at", "_law_cell_at", defArgs (top 18), defBody (top 18), defScope (top 18), [], []⟩) rfl
  obtain ⟨fd11, F11⟩ := c.def_ 11 (d := ⟨("_law_older", none), "_law_older", "_law_older", defArgs (top 19), defBody (top 19), defScope (top 19), [], []⟩) rfl
  obtain ⟨fd12, F12⟩ := c.def_ 12 (d := ⟨("_law_size", none), "_law_size", "_law_size", defArgs (top 20), defBody (top 20), defScope (top 20), [], []⟩) rfl
  obtain ⟨fd13, F13⟩ := c.def_ 13 (d := ⟨("_law_hung", none), "_law_hung", "_law_hung", defArgs (top 21), defBody (top 21), defScope (top 21), [], []⟩) rfl
  obtain ⟨fd14, F14⟩ := c.def_ 14 (d := ⟨("_law_tree", none), "_law_tree", "_law_tree", defArgs (top 22), defBody (top 22), defScope (top 22), [], []⟩) rfl
  obtain ⟨fd15, F15⟩ := c.def_ 15 (d := ⟨("_law_fars", none), "_law_fars", "_law_fars", defArgs (top 23), defBody (top 23), defScope (top 23), [], []⟩) rfl
  obtain ⟨fd16, F16⟩ := c.def_ 16 (d := ⟨("law", none), "law", "law", defArgs (top 24), defBody (top 24), defScope (top 24), [], []⟩) rfl
  refine ⟨fun i => ([fd0, fd1, fd2, fd3, fd4, fd5, fd6, fd7, fd8, fd9, fd10, fd11, fd12, fd13, fd14, fd15, fd16] : List FuncData).getD i fd0, ⟨⟨He.free_ok X G (c.fact 17 (f := .free "bool") rfl), He.free_ok X G (c.fact 18 (f := .free "int") rfl), He.free_ok X G (c.fact 19 (f := .free "isinstance") rfl), He.free_ok X G (c.fact 20 (f := .free "len") rfl), He.free_ok X G (c.fact 21 (f := .free "list") rfl), He.free_ok X G (c.fact 22 (f := .free "max") rfl), He.free_ok X G (c.fact 23 (f := .free "range") rfl), He.free_ok X G (c.fact 24 (f := .free "set") rfl), He.free_ok X G (c.fact 25 (f := .free "sorted") rfl)⟩, He.int_ok X G (c.fact 26 (f := .int "MOST" 12) rfl), exc_mk X G (c.fact 27 (f := .exc "NoPlace") rfl) (c.fact 28 (f := .glo "NoPlace") rfl), exc_mk X G (c.fact 29 (f := .exc "NoRoad") rfl) (c.fact 30 (f := .glo "NoRoad") rfl), exc_mk X G (c.fact 31 (f := .exc "NoTree") rfl) (c.fact 32 (f := .glo "NoTree") rfl), F0, He.glo_ok X G (c.fact 0 (f := .glo "are_unlike_places") rfl), F1, He.glo_ok X G (c.fact 1 (f := .glo "steps_from") rfl), F2, He.glo_ok X G (c.fact 2 (f := .glo "spread") rfl), F3, He.glo_ok X G (c.fact 3 (f := .glo "is_tree") rfl), F4, He.glo_ok X G (c.fact 4 (f := .glo "must_be_tree") rfl), F5, He.glo_ok X G (c.fact 5 (f := .glo "must_be_places") rfl), F6, He.glo_ok X G (c.fact 6 (f := .glo "are_neighbours") rfl), F7, He.glo_ok X G (c.fact 7 (f := .glo "beyond") rfl), F8, He.glo_ok X G (c.fact 8 (f := .glo "_law_mix") rfl), F9, He.glo_ok X G (c.fact 9 (f := .glo "_law_whole") rfl), F10, He.glo_ok X G (c.fact 10 (f := .glo "_law_cell_at") rfl), F11, He.glo_ok X G (c.fact 11 (f := .glo "_law_older") rfl), F12, He.glo_ok X G (c.fact 12 (f := .glo "_law_size") rfl), F13, He.glo_ok X G (c.fact 13 (f := .glo "_law_hung") rfl), F14, He.glo_ok X G (c.fact 14 (f := .glo "_law_tree") rfl), F15, He.glo_ok X G (c.fact 15 (f := .glo "_law_fars") rfl), F16, He.glo_ok X G (c.fact 16 (f := .glo "law") rfl)⟩⟩
abbrev R : PySem.W.OpenRow := PySem.W.OpenLaw.row PySem.Challenge.rw_treewells_k03_beyond_a_road
abbrev hk : PySem.W.Hook := He.hookD 4 fa fn
def ob (s : PySem.W.SharedT) : He.AlD := He.obsDG 4 fa fn (HandSHeadRun.getT s)
theorem ob_eq (s : PySem.W.SharedT) : ob s = hk.obs s.abs := He.obsDG_eq (HandSHeadRun.getT_eq s)
def loose : List PySem.Str := (([PySem.Str.ofString "TreeError", PySem.Str.ofString "NoTree", PySem.Str.ofString "NoPlace", PySem.Str.ofString "NoRoad", PySem.Str.ofString "are_unlike_places", PySem.Str.ofString "steps_from", PySem.Str.ofString "spread", PySem.Str.ofString "is_tree", PySem.Str.ofString "must_be_tree", PySem.Str.ofString "must_be_places", PySem.Str.ofString "are_neighbours", PySem.Str.ofString "beyond", PySem.Str.ofString "_law_mix", PySem.Str.ofString "_law_whole", PySem.Str.ofString "_law_cell_at", PySem.Str.ofString "_law_older", PySem.Str.ofString "_law_size", PySem.Str.ofString "_law_hung", PySem.Str.ofString "_law_tree", PySem.Str.ofString "_law_fars", PySem.Str.ofString "MOST"] : List PySem.Str))
theorem run (w : World) : HandSHeadRun.RunEq R (PySem.W.view R.prog [24]) hk ob 3000 loose w := by
  intro os
  kernel_rfl
theorem holds_of (law_true : ∀ ns : List Int, ns.length ≤ 63 → (∀ z ∈ ns, Builtin.Int.intBits z ≤ 1048576) → ∃ ms, (sems defs 40 27).run [.scr ns] = .ok (.bl true, ms)) : PySem.Challenge.rw_treewells_k03_beyond_a_road.Holds := by
  w_on; o_law
  refine HandSHeadRun.head_any (r := PySem.W.OpenLaw.row PySem.Challenge.rw_treewells_k03_beyond_a_road) (q := PySem.W.view (PySem.W.OpenLaw.row PySem.Challenge.rw_treewells_k03_beyond_a_road).prog [24]) (H := hk) (ob := ob) (M := 3000) (loose := loose) (d := HandSHeadRun.topDef (PySem.W.OpenLaw.row PySem.Challenge.rw_treewells_k03_beyond_a_road).prog 24) (kwd := []) ob_eq
    (by kernel_rfl) (fun s => by kernel_rfl) run (by kernel_rfl) (by kernel_rfl) (by kernel_rfl) (by rfl) (by first | assumption | decide +kernel) (by decide +kernel) ⟨rfl, rfl, rfl, rfl, rfl, by decide +kernel⟩ ?hw ?hc
  case hw => w_witness2
  case hc =>
    refine walk_ofEB (l := PySem.Challenge.rw_treewells_k03_beyond_a_road) (n := 63) (k := 41) (x := "_law_script") (CX := fun w => L2.CX PySem.Challenge.rw_treewells_k03_beyond_a_road.prog w) rfl (by decide) (by kernel_rfl) ⟨rfl, by decide, by decide⟩ ?F (fun w H s e s2 z => cx_no w H s e s2 z)
    intro w mg fa h Y G hmg0
    obtain ⟨K, KX, c⟩ := Y
    have hmg : mg ("law" : PySem.Str) = some (.ref fa) := by
      have e : (HandSHeadRun.topDef (PySem.W.OpenLaw.row PySem.Challenge.rw_treewells_k03_beyond_a_road).prog 24).name = ("law" : PySem.Str) := by kernel_rfl
      rw [← e]
      exact hmg0
    obtain ⟨fd, s⟩ := left_of KX G c
    have e := hmg.symm.trans s.g_law
    cases e
    refine ⟨K, fd 16, spF (Cn defs K [] (cls K) 40) (sems defs 40 27), KX, fun s1 u => FunD.bindsA (ps := ["_law_script"]) s.F_law (fun _ _ _ _ _ _ us hl => match us, hl with | [_], _ => rfl) s1 [u] rfl, fun H a ns hl hb hS => ?_, fun base _ _ => (all s 40).f_law⟩
    obtain ⟨ms, hm⟩ := law_true ns hl hb
    exact law_sp rfl rfl rfl rfl hm hS
end TW

namespace TW
open PySem
theorem sz_of {z : Int} (h : Builtin.Int.intBits z ≤ 1048576) : Sz 1048577 z := by
  unfold Builtin.Int.intBits at h
  unfold Sz
  by_cases e : z = 0
  · subst e; exact Nat.two_pow_pos _
  · rw [if_neg (by simpa using e)] at h
    exact Nat.lt_of_lt_of_le Nat.lt_log2_self (Nat.pow_le_pow_right (by decide) (by omega))
end TW
set_option maxRecDepth 100000 in
set_option maxHeartbeats 1000000 in
theorem PySem.Challenge.cw_treewells_k03_beyond_a_road_holds : PySem.Challenge.rw_treewells_k03_beyond_a_road.Holds := by
  exact TW.holds_of fun ns hl hb => ⟨_, TW.M.law03 (by omega) fun z hz => TW.sz_of (hb z hz)⟩

