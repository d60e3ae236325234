import PyProof.Rows.All
import Wide.All
import OpenK.AllK
import Wide.FinOn
import HandS.ForMost
import HandS.Wide
import HandS.Nested
import HandS.ExcOwn
import HandS.WordsExc
import HandS.EndTab
import HandS.ExcIs
import HandS.HeadHook1
import HandS.Style
import HandS.Conv
import HandS.More
import HandS.SortInts
import HandS.Deep
import HandS.IsInst
import HandS.SetFor
import HandS.SortRule
import HandS.Text
import HandS.Walk
import HandS.TryOnly
import HandS.TupLe
import HandS.SortKw
import HandS.Iter
import KE.SortKeyHeap
import KE.KMinKey
import HandS.Keys
import PyProof.Rows.StrDigitsNeg
import HandS.Zip
import HandS.Words
import HandS.Defaults
import HandS.HeadEnd
import HandS.HeadHook2
import HandS.EndBits
import HandS.Head0
import HandS.Head1
import HandS.Head2
import KE.KStateDown
import PySem.Challenge.RW_treewells_k83_rows_as_texts
set_option Elab.async false
set_option autoImplicit false
set_option linter.all false
set_option maxRecDepth 100000
set_option maxHeartbeats 1000000
/-! ## data, the language, what it reckons -/
namespace TW
open PySem
/-- Python's data -/
inductive D where
  | non | bl (b : Bool) | int (i : Int) | str (s : Str)
  | lst (xs : List D) | tup (xs : List D)
  | dic (ks : List (Int × D)) | dct (ks : List ((Int × Int) × D))
  | scr (ns : List Int) | any | exn (c : Nat)
  deriving Inhabited
def D.isSc : D → Bool
  | .non | .bl _ | .int _ | .str _ => true
  | _ => false
def D.isNon : D → Bool
  | .non => true
  | _ => false
inductive Res (α : Type) where
  | ok (a : α) | exc (c : Nat) | bad
def lim : Nat := 100000
def bit (b : Bool) : Int := if b then 1 else 0
mutual
def D.beq : D → D → Bool
  | .non, .non => true
  | .bl a, .bl b => a == b
  | .bl a, .int j => bit a == j
  | .int i, .bl b => i == bit b
  | .int i, .int j => i == j
  | .str x, .str y => x == y
  | .lst xs, .lst ys => D.beqs xs ys
  | .tup xs, .tup ys => D.beqs xs ys
  | _, _ => false
def D.beqs : List D → List D → Bool
  | [], [] => true
  | x :: xs, y :: ys => D.beq x y && D.beqs xs ys
  | _, _ => false
end
mutual
/-- what == takes: scalars, lists, tuples, no deeper than n -/
def D.eqable : Nat → D → Bool
  | _, .non | _, .bl _ | _, .int _ => true
  | _, .str x => x.cps.all fun c => decide (c < 0x110000)
  | n + 1, .lst xs => D.eqables n xs
  | n + 1, .tup xs => D.eqables n xs
  | _, _ => false
def D.eqables : Nat → List D → Bool
  | _, [] => true
  | n, x :: xs => D.eqable n x && D.eqables n xs
end
def ints? : List D → Option (List Int)
  | [] => some []
  | .int i :: r => (ints? r).map (i :: ·)
  | _ :: _ => none
def bools? : List D → Option (List Bool)
  | [] => some []
  | .bl i :: r => (bools? r).map (i :: ·)
  | _ :: _ => none
def strs? : List D → Option (List Str)
  | [] => some []
  | .str i :: r => (strs? r).map (i :: ·)
  | _ :: _ => none
def ins (x : Int) : List Int → List Int
  | [] => [x]
  | y :: r => if x ≤ y then x :: y :: r else y :: ins x r
def isort : List Int → List Int
  | [] => []
  | x :: r => ins x (isort r)
def pairs? : List D → Option (List (Int × Int))
  | [] => some []
  | .tup [.int i, .int j] :: r => (pairs? r).map ((i, j) :: ·)
  | _ :: _ => none
/-- pairs in their order -/
def pLe (a b : Int × Int) : Bool := decide (a.1 < b.1 ∨ (a.1 = b.1 ∧ a.2 ≤ b.2))
def pins (x : Int × Int) : List (Int × Int) → List (Int × Int)
  | [] => [x]
  | y :: r => if pLe x y = true then x :: y :: r else y :: pins x r
def psort : List (Int × Int) → List (Int × Int)
  | [] => []
  | x :: r => pins x (psort r)
def prD (p : Int × Int) : D := .tup [.int p.1, .int p.2]
def dedup : List Int → List Int
  | [] => []
  | x :: r => if r.contains x then dedup r else x :: dedup r
def maxI : Int → List Int → Int
  | m, [] => m
  | m, x :: r => maxI (if m < x then x else m) r
def minI : Int → List Int → Int
  | m, [] => m
  | m, x :: r => minI (if x < m then x else m) r
/-- the place an index names -/
def ixAt (n : Nat) (i : Int) : Option Nat := if 0 ≤ i then (if i < n then some i.toNat else none) else if -(n : Int) ≤ i then some (i + n).toNat else none
def nth {α : Type} (xs : List α) (i : Int) : Option α := (ixAt xs.length i).bind fun j => xs[j]?
/-- a slice's end -/
def clip (n d : Nat) : Option Int → Nat
  | none => d
  | some i => if i < 0 then (i + n).toNat else min i.toNat n
def cut {α : Type} (xs : List α) (lo hi : Option Int) : List α := (xs.drop (clip xs.length 0 lo)).take (clip xs.length xs.length hi - clip xs.length 0 lo)
def rep {α : Type} (xs : List α) (n : Nat) : List α := (List.replicate n xs).flatten
def look {κ : Type} [DecidableEq κ] : List (κ × D) → κ → Option D
  | [], _ => none
  | (j, d) :: r, i => if j = i then some d else look r i
def put {κ : Type} [DecidableEq κ] (ks : List (κ × D)) (k : κ) (d : D) : List (κ × D) :=
  if (ks.any fun e => decide (e.1 = k)) = true then ks.map (fun e => if e.1 = k then (e.1, d) else e) else ks ++ [(k, d)]
def rng (a b c : Int) : List Int := if 0 < c then (List.range ((b - a + c - 1) / c).toNat).map fun (k : Nat) => a + (k : Int) * c else []
def big : Int := 4611686018427387904
def mulOk (i j : Int) : Bool := decide (i.natAbs.log2 + j.natAbs.log2 < 50000000)
inductive Op1 where
  | len | neg | toInt | abs | sumL | maxL | minL | sortL | sortP | sortSet | lenSet | lenSetB | allL | anyL | listL | listK | sortK | revL | isN | notN | sc | scl | opq | rngL
  | isInt | isBool | isList | isStr | isTup | isX (cs : List Nat)
  deriving DecidableEq
/-- a refusal's class c is one of class j (0: TreeError, 14: ValueError) -/
def isSub (c j : Nat) : Bool := c == j || j == 0 || j == 14
def Op1.onK : Op1 → Bool
  | .listK | .sortK => true
  | _ => false
inductive Op2 where
  | addI | subI | mulI | fdiv | mod | pow | cat | rep | addS
  | lt | le | gt | ge | eqI | neI | eqD | neD | inL | ninL | inD | ninD | inK | ninK | inT | ninT
  | max2 | min2 | maxD | minD | subL | subT | subK | subP | subS | slcLo | slcHi | idx | cnt | cntB
  deriving DecidableEq
def okI (i : Int) : Res D := .ok (.int i)
def okB (b : Bool) : Res D := .ok (.bl b)
def okA : D → Bool → Res D
  | .any, _ => .bad
  | _, b => okB b
def okT : D → Bool → Res D
  | .any, _ | .exn _, _ => .bad
  | _, b => okB b
def Op1.run : Op1 → D → Res D
  | .len, .lst ds => okI ds.length
  | .len, .tup ds => okI ds.length
  | .len, .dic ks => okI ks.length
  | .len, .scr ns => okI ns.length
  | .len, .str s => if s.length ≤ lim then okI s.length else .bad
  | .neg, .int i => okI (-i)
  | .toInt, .bl b => okI (bit b)
  | .toInt, .int i => okI i
  | .abs, .int i => okI (if i < 0 then -i else i)
  | .sumL, .lst ds => match ints? ds with | some ns => okI ns.sum | none => .bad
  | .maxL, .lst ds => match ints? ds with | some (m :: r) => okI (maxI m r) | _ => .bad
  | .minL, .lst ds => match ints? ds with | some (m :: r) => okI (minI m r) | _ => .bad
  | .maxL, .tup ds => match ints? ds with | some (m :: r) => okI (maxI m r) | _ => .bad
  | .minL, .tup ds => match ints? ds with | some (m :: r) => okI (minI m r) | _ => .bad
  | .sortL, .lst ds => match ints? ds with | some ns => .ok (.lst ((isort ns).map .int)) | none => .bad
  | .sortP, .lst ds => match pairs? ds with | some ps => .ok (.lst ((psort ps).map prD)) | none => .bad
  | .sortSet, .lst ds => match ints? ds with | some ns => if ns.length < 4000 ∧ (dedup ns).length < 4000 then .ok (.lst ((isort (dedup ns)).map .int)) else .bad | none => .bad
  | .lenSet, .lst ds => match ints? ds with | some ns => if ns.length < 4000 then okI (dedup ns).length else .bad | none => .bad
  | .lenSetB, .lst ds => match bools? ds with | some ns => okI (bit (ns.contains true) + bit (ns.contains false)) | none => .bad
  | .allL, .lst ds => match bools? ds with | some bs => okB (bs.all id) | none => .bad
  | .anyL, .lst ds => match bools? ds with | some bs => okB (bs.any id) | none => .bad
  | .listL, .lst ds => .ok (.lst ds)
  | .listL, .tup ds => .ok (.lst ds)
  | .listK, .dic ks => .ok (.lst (ks.map fun k => .int k.1))
  | .sortK, .dic ks => if ks.length < 64 then .ok (.lst ((isort (ks.map (·.1))).map .int)) else .bad
  | .revL, .lst ds => .ok (.lst ds.reverse)
  | .isN, d => okA d d.isNon
  | .notN, d => okA d (!d.isNon)
  | .sc, d => if d.isSc then .ok d else .bad
  | .scl, .lst ds => if ds.all D.isSc then .ok (.lst ds) else .bad
  | .opq, _ => .ok .any
  | .rngL, .int n => if n ≤ lim ∧ -big ≤ n then .ok (.lst ((rng 0 n 1).map .int)) else .bad
  | .isInt, d => okT d (match d with | .int _ => true | .bl _ => true | _ => false)
  | .isBool, d => okT d (match d with | .bl _ => true | _ => false)
  | .isList, d => okT d (match d with | .lst _ => true | .scr _ => true | _ => false)
  | .isStr, d => okT d (match d with | .str _ => true | _ => false)
  | .isTup, d => okT d (match d with | .tup _ => true | _ => false)
  | .isX cs, .exn c => if c < 14 then okB (cs.any fun j => isSub c j) else .bad
  | .isX _, .non => okB false
  | _, _ => .bad
/-- scalars of one kind -/
def eqS : D → D → Option Bool
  | .int i, .int j => some (i == j)
  | .bl i, .bl j => some (i == j)
  | .str i, .str j => some (i == j)
  | .non, .non => some true
  | .non, .int _ | .int _, .non | .non, .bl _ | .bl _, .non | .non, .str _ | .str _, .non => some false
  | .int _, .str _ | .str _, .int _ | .bl _, .str _ | .str _, .bl _ => some false
  | _, _ => none
/-- among flat things -/
def inF (x : D) : List D → Option Bool
  | [] => if x.isSc then some false else none
  | y :: r => match eqS y x, inF x r with
    | some a, some b => some (a || b)
    | _, _ => none
def idxF (x : D) : List D → Option Nat
  | [] => none
  | y :: r => match eqS y x with
    | some true => some 0
    | some false => (idxF x r).map (· + 1)
    | none => none
def Op2.run : Op2 → D → D → Res D
  | .addI, .int i, .int j => okI (i + j)
  | .subI, .int i, .int j => okI (i - j)
  | .mulI, .int i, .int j => if mulOk i j then okI (i * j) else .bad
  | .fdiv, .int i, .int j => if 0 < j ∧ j.natAbs.log2 < 9000 then okI (i / j) else .bad
  | .mod, .int i, .int j => if 0 < j then okI (i % j) else .bad
  | .pow, .int i, .int j => if 0 ≤ j ∧ j ≤ 1000 ∧ i.natAbs < 1000000 then okI (i ^ j.toNat) else .bad
  | .cat, .lst a, .lst b => if a.length + b.length ≤ lim then .ok (.lst (a ++ b)) else .bad
  | .rep, .lst a, .int k => if k ≤ lim ∧ -1000 ≤ k ∧ a.length * k.toNat ≤ lim then .ok (.lst (TW.rep a k.toNat)) else .bad
  | .addS, .str a, .str b => if a.length + b.length ≤ lim then .ok (.str (a ++ b)) else .bad
  | .lt, .int i, .int j => okB (decide (i < j))
  | .le, .int i, .int j => okB (decide (i ≤ j))
  | .gt, .int i, .int j => okB (decide (j < i))
  | .ge, .int i, .int j => okB (decide (j ≤ i))
  | .eqI, a, b => match eqS a b with | some c => okB c | none => .bad
  | .neI, a, b => match eqS a b with | some c => okB (!c) | none => .bad
  | .eqD, a, b => if a.eqable 20 && b.eqable 20 then okB (D.beq a b) else .bad
  | .neD, a, b => if a.eqable 20 && b.eqable 20 then okB (!D.beq a b) else .bad
  | .inL, x, .lst ds => match inF x ds with | some b => okB b | none => .bad
  | .ninL, x, .lst ds => match inF x ds with | some b => okB (!b) | none => .bad
  | .inT, x, .tup ds => match inF x ds with | some b => okB b | none => .bad
  | .ninT, x, .tup ds => match inF x ds with | some b => okB (!b) | none => .bad
  | .inD, x, .lst ds => if x.eqable 20 && D.eqables 20 ds then okB (ds.any fun y => D.beq y x) else .bad
  | .ninD, x, .lst ds => if x.eqable 20 && D.eqables 20 ds then okB (!ds.any fun y => D.beq y x) else .bad
  | .inK, .int i, .dic ks => okB (look ks i).isSome
  | .ninK, .int i, .dic ks => okB !(look ks i).isSome
  | .inK, .tup [.int i, .int j], .dct ks => okB (look ks (i, j)).isSome
  | .max2, .int i, .int j => okI (if j > i then j else i)
  | .min2, .int i, .int j => okI (if j < i then j else i)
  | .maxD, .lst ds, .int d => match ints? ds with | some (m :: r) => okI (maxI m r) | some [] => okI d | none => .bad
  | .minD, .lst ds, .int d => match ints? ds with | some (m :: r) => okI (minI m r) | some [] => okI d | none => .bad
  | .subL, .lst ds, .int i => match nth ds i with | some d => .ok d | none => .bad
  | .subL, .scr ns, .int i => match nth ns i with | some d => okI d | none => .bad
  | .subT, .tup ds, .int i => match nth ds i with | some d => .ok d | none => .bad
  | .subK, .dic ks, .int i => match look ks i with | some d => .ok d | none => .bad
  | .subP, .dct ks, .tup [.int i, .int j] => match look ks (i, j) with | some d => .ok d | none => .bad
  | .subS, .str s, .int i => if s.length ≤ lim then match nth s.cps.toList i with | some c => .ok (.str ⟨#[c]⟩) | none => .bad else .bad
  | .slcLo, .lst ds, .int i => .ok (.lst (cut ds (some i) none))
  | .slcHi, .lst ds, .int i => .ok (.lst (cut ds none (some i)))
  | .slcLo, .scr ds, .int i => .ok (.lst ((cut ds (some i) none).map .int))
  | .slcHi, .scr ds, .int i => .ok (.lst ((cut ds none (some i)).map .int))
  | .idx, .lst ds, x => if x.isSc && ds.all D.isSc then match idxF x ds with | some n => okI n | none => .bad else .bad
  | .cnt, .lst ds, .int x => match ints? ds with | some ns => okI (ns.count x) | none => .bad
  | .cntB, .lst ds, .bl x => match bools? ds with | some bs => okI (bs.count x) | none => .bad
  | _, _, _ => .bad
/-- xs[a:b] -/
def slc3 : D → D → D → Res D
  | .lst ds, .int i, .int j => .ok (.lst (cut ds (some i) (some j)))
  | .scr ds, .int i, .int j => .ok (.lst ((cut ds (some i) (some j)).map .int))
  | _, _, _ => .bad
/-- how a def's data stands: a scalar; shared; its top alone its owner's; all of it its owner's; the two borrowed -/
inductive Kind where
  | im | sh | top | deep | bt | bo
  deriving DecidableEq
/-! texts, by their signs -/
def tlS (s : Str) : List Nat := s.cps.toList
def mkS (l : List Nat) : Str := ⟨l.toArray⟩
def numT (n : Nat) : List Nat := (Nat.toDigits 10 n).map Char.toNat
def decT (n : Int) : List Nat := if n < 0 then 45 :: numT n.natAbs else numT n.natAbs
def digV (l : List Nat) : Nat := l.foldl (fun acc c => acc * 10 + (c - 48)) 0
def preT (S l : List Nat) : Bool := l.take S.length == S
/-- l cut at each S; k signs are still to be passed over -/
def splT (S : List Nat) : Nat → List Nat → List Nat → List (List Nat)
  | _, acc, [] => [acc]
  | 0, acc, c :: r => if preT S (c :: r) = true then acc :: splT S (S.length - 1) [] r else splT S 0 (acc ++ [c]) r
  | k + 1, acc, _ :: r => splT S k acc r
def glueT (S : List Nat) : List (List Nat) → List Nat
  | [] => []
  | [p] => p
  | p :: q :: r => p ++ (S ++ glueT S (q :: r))
def signs (s : Str) : List D := (tlS s).map fun c => .str (mkS [c])
inductive T1 where
  | strI | intS | upper
  deriving DecidableEq
inductive T2 where
  | inS | ninS | starts | split | join | lo | hi
  deriving DecidableEq
/-- a method of texts: what it is of is looked at first -/
def T2.mth : T2 → Bool
  | .starts | .split | .join => true
  | _ => false
def T1.run : T1 → D → Option D
  | .strI, .int n => if n.natAbs.log2 < 1900 then some (.str (mkS (decT n))) else none
  | .intS, .str s => if tlS s ≠ [] ∧ (tlS s).all (fun c => decide (48 ≤ c) && decide (c ≤ 57)) = true ∧ s.length ≤ 640 then some (.int (digV (tlS s))) else none
  | .upper, .str s => match tlS s with
    | [] => some (.str s)
    | [c] => if 97 ≤ c ∧ c ≤ 122 then some (.str (mkS [c - 32])) else none
    | _ => none
  | _, _ => none
def T2.run : T2 → Str → D → Option D
  | .inS, a, .str b => match tlS a with
    | [c] => some (.bl (decide (c ∈ tlS b)))
    | _ => none
  | .ninS, a, .str b => match tlS a with
    | [c] => some (.bl (!decide (c ∈ tlS b)))
    | _ => none
  | .starts, a, .str b => if tlS b ≠ [] then some (.bl (preT (tlS b) (tlS a))) else none
  | .split, a, .str b => if tlS b ≠ [] ∧ (tlS b).all (fun c => decide (c < 256)) = true ∧ a.length ≤ lim then some (.lst ((splT (tlS b) 0 [] (tlS a)).map fun l => .str (mkS l))) else none
  | .join, a, .lst ds => match strs? ds with
    | some ss => if (ss.map (·.length)).sum + ss.length * a.length ≤ lim then some (.str (mkS (glueT (tlS a) (ss.map tlS)))) else none
    | none => none
  | .lo, a, .int i => if a.length ≤ lim then some (.str (mkS (cut (tlS a) (some i) none))) else none
  | .hi, a, .int i => if a.length ≤ lim then some (.str (mkS (cut (tlS a) none (some i)))) else none
  | _, _, _ => none
def T2.kd : T2 → Kind
  | .split => .deep
  | _ => .im
/-- targets -/
inductive Tg where
  | nm (i : Nat) | tup (is : List Nat) | lsp (is : List Nat)
/-- what is walked -/
inductive Sk where
  | lst | r1 | r2 | r3 | dic (i : Nat) | str
mutual
inductive IE where
  | var (i : Nat) | mv (i : Nat) | cst (d : D)
  | op1 (o : Op1) (a : IE) | op2 (o : Op2) (a b : IE) | mth (o : Op2) (a b : IE) | slc (a lo hi : IE)
  | not (a : IE) | and (a b : IE) | or (a b : IE)
  | lst (es : IEs) | tup (es : IEs) | dic1 (k v : IE) | dic0 | dct0
  | call (f : Nat) (es : IEs) | callM (f i : Nat) (es : IEs)
  | lc (k : Sk) (a b c : IE) (t : Tg) (test : IE) (elt : IE)
  | pop (i : Nat) | popAt (i : Nat) (e : IE)
  | key (o : Nat) (k : Sk) (a b c : IE) (js : List Nat) (body : IE)
  | callN (f i : Nat) (es : IEs) | callT (f : Nat) (es : IEs)
  | lcM (a : IE) (i : Nat) (elt : IE)
  | filt (i t : Nat) (test : IE)
  | catD (i j : Nat)
  | t1 (o : T1) (a : IE) | t2 (o : T2) (a b : IE) | t3 (a b c : IE)
  | idxV (i : Nat) (e : IE)
inductive IEs where
  | nil | cons (e : IE) (es : IEs)
end
mutual
inductive IS where
  | asg (t : Tg) (e : IE) | aug (i : Nat) (o : Op2) (e : IE) | exp (e : IE)
  | app (i : Nat) (e : IE) | ins (i : Nat) (a e : IE) | clr (i : Nat)
  | seti (i : Nat) (a e : IE) | set2 (i : Nat) (a b e : IE) | augi (i : Nat) (a : IE) (o : Op2) (e : IE) | aug2 (i : Nat) (k l : Int) (o : Op2) (e : IE)
  | setk (i : Nat) (a e : IE) | setp (i : Nat) (a e : IE)
  | ifs (c : IE) (a b : ISs) | whl (c : IE) (b : ISs)
  | for (k : Sk) (a b c : IE) (t : Tg) (body : ISs)
  | ret (e : IE) | retN | rai (c : Nat)
  | dead
  | forC (a : IE) (t : Tg) (c : IE) (d : D)
  | appA (i t : Nat) (d : D)
  | appT (i t : Nat) (c : IE) (d : D)
  | tryC (i j f : Nat) (es : IEs)
inductive ISs where
  | nil | cons (s : IS) (r : ISs) | frz (i : Nat) (r : ISs)
end
abbrev Env := List (Option D)
def gt : Env → Nat → Option D
  | [], _ => none
  | d :: _, 0 => d
  | _ :: r, i + 1 => gt r i
def st : Env → Nat → Option D → Env
  | [], _, _ => []
  | _ :: r, 0, d => d :: r
  | x :: r, i + 1, d => x :: st r i d
def sts : Env → List Nat → List D → Option Env
  | ρ, [], [] => some ρ
  | ρ, i :: is, d :: ds => sts (st ρ i (some d)) is ds
  | _, _, _ => none
def Tg.put : Tg → D → Env → Option Env
  | .nm i, d, ρ => some (st ρ i (some d))
  | .tup is, .tup ds, ρ => sts ρ is ds
  | .lsp is, .lst ds, ρ => sts ρ is ds
  | _, _, _ => none
def Tg.names : Tg → List Nat
  | .nm i => [i] | .tup is => is | .lsp is => is
/-- what a def reckons: its answer, its parameters' data behind it -/
structure FnSem where
  np : Nat
  pk : Nat → Kind
  rk : Kind
  run : List D → Res (D × Env)
instance : Inhabited ISs := ⟨.nil⟩
structure IDef where
  np : Nat
  ns : Nat
  ks : List Kind
  rk : Kind
  body : ISs
instance : Inhabited IDef := ⟨⟨0, 0, [], .sh, .nil⟩⟩
def kAt (l : List Kind) (i : Nat) : Kind := l.getD i .sh
def ownK : Kind → Bool
  | .top | .deep => true
  | _ => false
/-- its first parameter is written -/
def IDef.mut (d : IDef) : Bool := decide (0 < d.np) && ownK (kAt d.ks 0)
/-- another parameter that is written -/
def IDef.mj (d : IDef) : Option Nat := if d.mut = true then none else (List.range d.np).find? fun j => ownK (kAt d.ks j)
def IDef.mx (d : IDef) (ρ : Env) : Env := match d.mj with
  | some j => List.replicate j none ++ [gt ρ j]
  | none => []
def wipeE (ρ : Env) : List Nat → Env
  | [] => ρ
  | i :: is => st (wipeE ρ is) i none
/-- a comprehension whose item may write -/
def lcGoM (i : Nat) (elt : Env → Res (D × Env)) : List D → Env → Option (List D × Env)
  | [], ρ => some ([], ρ)
  | x :: r, ρ => match elt (st ρ i (some x)) with
    | .ok (d, ρ1) => if d.isSc = true then match lcGoM i elt r ρ1 with | some (ds, ρ2) => some (d :: ds, ρ2) | none => none else none
    | _ => none
/-- an own list without those that fail a test -/
def flGo (t : Nat) (test : Env → Res (D × Env)) (ρ : Env) : List D → Option (List D)
  | [] => some []
  | d :: r => match test (st ρ t (some d)) with
    | .ok (.bl b, _) => match flGo t test ρ r with | some ds => some (if b = true then d :: ds else ds) | none => none
    | _ => none
/-- each of some lists, one thing put behind -/
def appD (d : D) : List D → Option (List D)
  | [] => some []
  | .lst es :: r => if es.length < lim then match appD d r with | some r' => some (.lst (es ++ [d]) :: r') | none => none else none
  | _ :: _ => none
/-- a comprehension's turns -/
def lcGo (put : D → Env → Option Env) (test elt : Env → Res (D × Env)) : List D → Env → Res (List D)
  | [], _ => .ok []
  | d :: ds, ρ => match put d ρ with
    | none => .bad
    | some ρ1 => match test ρ1 with
      | .ok (.bl true, ρ2) => match elt ρ2 with
        | .ok (x, _) => match lcGo put test elt ds ρ with
          | .ok r => .ok (x :: r)
          | _ => .bad
        | _ => .bad
      | .ok (.bl false, _) => lcGo put test elt ds ρ
      | _ => .bad
def Sk.pure : Sk → Bool
  | .dic _ => false
  | _ => true
/-- a dict that was walked is not looked at again -/
def Sk.out : Sk → Env → Env
  | .dic i, ρ => st ρ i none
  | _, ρ => ρ
def srcOf (k : Sk) (ρ : Env) : D → D → D → Option (List D)
  | a, b, c => match k, a, b, c with
    | .lst, .lst ds, _, _ => some ds
    | .lst, .scr ns, _, _ => some (ns.map .int)
    | .r1, .int n, _, _ => if n ≤ lim ∧ -big ≤ n then some ((rng 0 n 1).map .int) else none
    | .r2, .int m, .int n, _ => if n ≤ lim ∧ -big ≤ n ∧ -1000 ≤ m ∧ m ≤ lim then some ((rng m n 1).map .int) else none
    | .r3, .int m, .int n, .int c => if n ≤ lim ∧ -big ≤ n ∧ -1000 ≤ m ∧ m ≤ lim ∧ 0 < c ∧ c ≤ 1000 then some ((rng m n c).map .int) else none
    | .str, .str s, _, _ => if s.length ≤ lim then some (signs s) else none
    | .dic i, _, _, _ => match gt ρ i with
      | some (.dic ks) => some (ks.map fun k => .int k.1)
      | _ => none
    | _, _, _, _ => none
/-- what is walked, the state behind it -/
def srcRes (k : Sk) (ra : Res (D × Env)) (fb fc : Env → Res (D × Env)) : Res (List D × Env) := match ra with
  | .ok (x, ρ1) => match fb ρ1 with
    | .ok (y, ρ2) => match fc ρ2 with
      | .ok (z, ρ3) => match srcOf k ρ3 x y z with
        | some ds => .ok (ds, ρ3)
        | none => .bad
      | .exc c => .exc c | .bad => .bad
    | .exc c => .exc c | .bad => .bad
  | .exc c => .exc c | .bad => .bad
/-- a key: a number, or two -/
inductive KV where
  | i (n : Int) | p (a b : Int)
def kvD : D → Option KV
  | .int n => some (.i n)
  | .tup [.int a, .int b] => some (.p a b)
  | _ => none
/-- whether a key comes to be the best one (mx: of max) -/
def better (mx : Bool) : KV → KV → Option Bool
  | .i a, .i b => some (if mx then decide (b < a) else decide (a < b))
  | .p a b, .p c d => if mx then none else some (decide (a < c ∨ (a = c ∧ b < d)))
  | _, _ => none
def keysGo (f : D → Res (D × Env)) : List D → Option (List KV)
  | [] => some []
  | d :: r => match f d with
    | .ok (k, _) => match kvD k, keysGo f r with
      | some a, some l => some (a :: l)
      | _, _ => none
    | _ => none
/-- the first item of the greatest (least) key -/
def bestGo (mx : Bool) : D → KV → List D → List KV → Option D
  | xb, _, [], [] => some xb
  | xb, kb, d :: ds, k :: ks => match better mx k kb with
    | some true => bestGo mx d k ds ks
    | some false => bestGo mx xb kb ds ks
    | none => none
  | _, _, _, _ => none
def intK : List KV → Option (List Int)
  | [] => some []
  | .i n :: r => (intK r).map (n :: ·)
  | .p _ _ :: _ => none
/-- sorted by their keys -/
def sortV {α : Type} (xs : List α) (ks : List Int) : List α := ((xs.zip ks).mergeSort fun a b => decide (a.2 ≤ b.2)).map (·.1)
def keyRun (o : Nat) (ds : List D) (ks : List KV) : Option D := match o, ds, ks with
  | 0, d :: r, k :: l => bestGo true d k r l
  | 1, d :: r, k :: l => bestGo false d k r l
  | 2, ds, ks => match ints? ds, intK ks with
    | some is, some ns => if is.length ≤ lim then some (.lst ((sortV is ns).map .int)) else none
    | _, _ => none
  | _, _, _ => none
mutual
def evE (Φ : Nat → FnSem) : IE → Env → Res (D × Env)
  | .var i, ρ => match gt ρ i with | some d => .ok (d, ρ) | none => .bad
  | .mv i, ρ => match gt ρ i with | some d => .ok (d, st ρ i none) | none => .bad
  | .cst d, ρ => .ok (d, ρ)
  | .op1 o a, ρ => match evE Φ a ρ with
    | .ok (d, ρ1) => match o.run d with | .ok x => .ok (x, ρ1) | .exc c => .exc c | .bad => .bad
    | .exc c => .exc c | .bad => .bad
  | .op2 o a b, ρ => match evE Φ a ρ with
    | .ok (d, ρ1) => match evE Φ b ρ1 with
      | .ok (e, ρ2) => match o.run d e with | .ok x => .ok (x, ρ2) | .exc c => .exc c | .bad => .bad
      | .exc c => .exc c | .bad => .bad
    | .exc c => .exc c | .bad => .bad
  | .mth o a b, ρ => match evE Φ a ρ with
    | .ok (.lst d, ρ1) => match evE Φ b ρ1 with
      | .ok (e, ρ2) => match o.run (.lst d) e with | .ok x => .ok (x, ρ2) | .exc c => .exc c | .bad => .bad
      | .exc c => .exc c | .bad => .bad
    | .ok _ => .bad
    | .exc c => .exc c | .bad => .bad
  | .slc a b c, ρ => match evE Φ a ρ with
    | .ok (d, ρ1) => match evE Φ b ρ1 with
      | .ok (.int i, ρ2) => match evE Φ c ρ2 with
        | .ok (.int j, ρ3) => match slc3 d (.int i) (.int j) with | .ok x => .ok (x, ρ3) | .exc c => .exc c | .bad => .bad
        | .ok _ => .bad
        | .exc c => .exc c | .bad => .bad
      | .ok _ => .bad
      | .exc c => .exc c | .bad => .bad
    | .exc c => .exc c | .bad => .bad
  | .not a, ρ => match evE Φ a ρ with
    | .ok (.bl b, ρ1) => .ok (.bl (!b), ρ1) | .ok _ => .bad
    | .exc c => .exc c | .bad => .bad
  | .and a b, ρ => match evE Φ a ρ with
    | .ok (.bl true, ρ1) => evE Φ b ρ1
    | .ok (.bl false, ρ1) => .ok (.bl false, ρ1)
    | .ok _ => .bad
    | .exc c => .exc c | .bad => .bad
  | .or a b, ρ => match evE Φ a ρ with
    | .ok (.bl false, ρ1) => evE Φ b ρ1
    | .ok (.bl true, ρ1) => .ok (.bl true, ρ1)
    | .ok _ => .bad
    | .exc c => .exc c | .bad => .bad
  | .lst es, ρ => match evEs Φ es ρ with | .ok (ds, ρ1) => .ok (.lst ds, ρ1) | .exc c => .exc c | .bad => .bad
  | .tup es, ρ => match evEs Φ es ρ with | .ok (ds, ρ1) => .ok (.tup ds, ρ1) | .exc c => .exc c | .bad => .bad
  | .dic1 k v, ρ => match evE Φ k ρ with
    | .ok (.int i, ρ1) => match evE Φ v ρ1 with | .ok (d, ρ2) => .ok (.dic [(i, d)], ρ2) | .exc c => .exc c | .bad => .bad
    | .ok _ => .bad | .exc c => .exc c | .bad => .bad
  | .dic0, ρ => .ok (.dic [], ρ)
  | .dct0, ρ => .ok (.dct [], ρ)
  | .call f es, ρ => match evEs Φ es ρ with
    | .ok (ds, ρ1) => match (Φ f).run ds with
      | .ok (d, _) => .ok (d, ρ1)
      | .exc c => .exc c
      | .bad => .bad
    | .exc c => .exc c | .bad => .bad
  | .callM f i es, ρ => match gt ρ i with
   | some _ => match evEs Φ es ρ with
    | .ok (ds, ρ1) => match gt ρ1 i with
      | some d0 => match (Φ f).run (d0 :: ds) with
        | .ok (d, ms) => .ok (d, st ρ1 i (gt ms 0))
        | _ => .bad
      | none => .bad
    | .exc c => .exc c | .bad => .bad
   | none => .bad
  | .lc k a b c t test elt, ρ => match srcRes k (evE Φ a ρ) (evE Φ b) (evE Φ c) with
    | .ok (ds, ρ3) => if ds.length ≤ lim then match lcGo t.put (evE Φ test) (evE Φ elt) ds (wipeE ρ3 t.names) with
      | .ok rs => .ok (.lst rs, ρ3)
      | _ => .bad else .bad
    | .exc c => .exc c | .bad => .bad
  | .pop i, ρ => match gt ρ i with
    | some (.lst ds) => match ds.getLast? with | some d => .ok (d, st ρ i (some (.lst ds.dropLast))) | none => .bad
    | _ => .bad
  | .popAt i e, ρ => match gt ρ i with
   | some (.lst _) => match evE Φ e ρ with
    | .ok (.int k, ρ1) => if k ≤ 1000 ∧ -1000 ≤ k then match gt ρ1 i with
      | some (.lst ds) => match ixAt ds.length k with
        | some n => match ds[n]? with | some d => .ok (d, st ρ1 i (some (.lst (ds.eraseIdx n)))) | none => .bad
        | none => .bad
      | _ => .bad else .bad
    | .ok _ => .bad | .exc c => .exc c | .bad => .bad
   | _ => .bad
  | .key o k a b c js body, ρ => match srcRes k (evE Φ a ρ) (evE Φ b) (evE Φ c) with
    | .ok (ds, ρ3) => match keysGo (fun d => evE Φ body (some d :: js.map (gt ρ3))) ds with
      | some ks => match keyRun o ds ks with
        | some r => .ok (r, k.out ρ3)
        | none => .bad
      | none => .bad
    | .exc c => .exc c | .bad => .bad
  | .callN f i es, ρ => match evEs Φ es ρ with
    | .ok (ds, ρ1) => match gt ρ1 i with
      | some d0 => match (Φ f).run (ds ++ [d0]) with
        | .ok (d, ms) => .ok (d, st ρ1 i (gt ms ds.length))
        | _ => .bad
      | none => .bad
    | .exc c => .exc c | .bad => .bad
  | .callT f es, ρ => match evEs Φ es ρ with
    | .ok (ds, ρ1) => match (Φ f).run ds with
      | .ok (d, _) => .ok (d, ρ1)
      | _ => .bad
    | .exc c => .exc c | .bad => .bad
  | .idxV i e, ρ => match gt ρ i with
    | some _ => match evE Φ e ρ with
      | .ok (d1, ρ1) => match gt ρ1 i with
        | some ds => match Op2.run .subL ds d1 with
          | .ok x => if x.isSc = true then .ok (x, ρ1) else .bad
          | _ => .bad
        | none => .bad
      | .exc c => .exc c | .bad => .bad
    | none => .bad
  | .lcM a i elt, ρ => match srcRes .r1 (evE Φ a ρ) (fun ρ => .ok (.non, ρ)) (fun ρ => .ok (.non, ρ)) with
    | .ok (ds, ρ3) => if ds.length ≤ lim then match lcGoM i (evE Φ elt) ds (st ρ3 i none) with
      | some (rs, ρ4) => .ok (.lst rs, st ρ4 i none)
      | none => .bad else .bad
    | .exc c => .exc c | .bad => .bad
  | .filt i t test, ρ => match gt ρ i with
    | some (.lst ds) => if ds.length ≤ lim ∧ t < ρ.length then match flGo t (evE Φ test) ρ ds with
      | some rs => .ok (.lst rs, st ρ i none)
      | none => .bad else .bad
    | _ => .bad
  | .catD i j, ρ => match gt ρ i, gt ρ j with
    | some (.lst a), some (.lst b) => if a.length + b.length ≤ lim then .ok (.lst (a ++ b), st (st ρ i none) j none) else .bad
    | _, _ => .bad
  | .t1 o a, ρ => match evE Φ a ρ with
    | .ok (d, ρ1) => match o.run d with | some x => .ok (x, ρ1) | none => .bad
    | .exc c => .exc c | .bad => .bad
  | .t2 o a b, ρ => match evE Φ a ρ with
    | .ok (.str s, ρ1) => match evE Φ b ρ1 with
      | .ok (e, ρ2) => match o.run s e with | some x => .ok (x, ρ2) | none => .bad
      | .exc c => .exc c | .bad => .bad
    | .ok _ => .bad
    | .exc c => .exc c | .bad => .bad
  | .t3 a b c, ρ => match evE Φ a ρ with
    | .ok (.str s, ρ1) => match evE Φ b ρ1 with
      | .ok (.int i, ρ2) => match evE Φ c ρ2 with
        | .ok (.int j, ρ3) => if s.length ≤ lim then .ok (.str (mkS (cut (tlS s) (some i) (some j))), ρ3) else .bad
        | .ok _ => .bad
        | .exc c => .exc c | .bad => .bad
      | .ok _ => .bad
      | .exc c => .exc c | .bad => .bad
    | .ok _ => .bad
    | .exc c => .exc c | .bad => .bad
def evEs (Φ : Nat → FnSem) : IEs → Env → Res (List D × Env)
  | .nil, ρ => .ok ([], ρ)
  | .cons e es, ρ => match evE Φ e ρ with
    | .ok (d, ρ1) => match evEs Φ es ρ1 with | .ok (ds, ρ2) => .ok (d :: ds, ρ2) | .exc c => .exc c | .bad => .bad
    | .exc c => .exc c | .bad => .bad
end
/-- how a statement ends -/
inductive Out where
  | nx (ρ : Env) | rt (d : D) (ρ : Env) | exc (c : Nat) | bad
/-- all rows pass a test -/
def allT (f : Env → Res (D × Env)) (n t : Nat) (ds : List D) : Bool := ds.all fun e => match f (st (List.replicate n none) t (some e)) with | .ok (.bl false, _) => true | _ => false
def forGo (put : D → Env → Option Env) (body : Env → Out) : List D → Env → Out
  | [], ρ => .nx ρ
  | d :: ds, ρ => match put d ρ with
    | none => .bad
    | some ρ1 => match body ρ1 with
      | .nx ρ2 => forGo put body ds ρ2
      | o => o
def whlGo (c : Env → Res (D × Env)) (body : Env → Out) : Nat → Env → Out
  | 0, _ => .bad
  | n + 1, ρ => match c ρ with
    | .ok (.bl true, ρ1) => match body ρ1 with
      | .nx ρ2 => whlGo c body n ρ2
      | o => o
    | .ok (.bl false, ρ1) => .nx ρ1
    | .ok _ => .bad
    | .exc c => .exc c | .bad => .bad
def fuelW : Nat := 100000
/-- a look at a thing: ends where it is so -/
def chk (c : Env → Res (D × Env)) (d : D) : Env → Out := fun ρ => match c ρ with
  | .ok (.bl true, ρ1) => .rt d ρ1
  | .ok (.bl false, ρ1) => .nx ρ1
  | .ok _ => .bad
  | .exc c => .exc c | .bad => .bad
def setAt (ds : List D) (k : Int) (d : D) : Option (List D) := (ixAt ds.length k).map fun n => ds.set n d
mutual
def evS (Φ : Nat → FnSem) : IS → Env → Out
  | .asg t e, ρ => match evE Φ e ρ with
    | .ok (d, ρ1) => match t.put d ρ1 with | some ρ2 => .nx ρ2 | none => .bad
    | .exc c => .exc c | .bad => .bad
  | .aug i o e, ρ => match gt ρ i with
    | some x => match evE Φ e ρ with
      | .ok (y, ρ1) => match o.run x y with | .ok z => .nx (st ρ1 i (some z)) | .exc c => .exc c | .bad => .bad
      | .exc c => .exc c | .bad => .bad
    | none => .bad
  | .exp e, ρ => match evE Φ e ρ with | .ok (_, ρ1) => .nx ρ1 | .exc c => .exc c | .bad => .bad
  | .app i e, ρ => match gt ρ i with
   | some (.lst _) => match evE Φ e ρ with
    | .ok (d, ρ1) => match gt ρ1 i with
      | some (.lst ds) => if ds.length < lim then .nx (st ρ1 i (some (.lst (ds ++ [d])))) else .bad
      | _ => .bad
    | .exc c => .exc c | .bad => .bad
   | _ => .bad
  | .ins i a e, ρ => match gt ρ i with
   | some (.lst _) => match evE Φ a ρ with
    | .ok (.int k, ρ1) => match evE Φ e ρ1 with
      | .ok (d, ρ2) => match gt ρ2 i with
        | some (.lst ds) => if ds.length < lim ∧ 0 ≤ k ∧ k ≤ ds.length then .nx (st ρ2 i (some (.lst (ds.take k.toNat ++ d :: ds.drop k.toNat)))) else .bad
        | _ => .bad
      | .exc c => .exc c | .bad => .bad
    | .ok _ => .bad | .exc c => .exc c | .bad => .bad
   | _ => .bad
  | .clr i, ρ => match gt ρ i with | some (.lst _) => .nx (st ρ i (some (.lst []))) | _ => .bad
  | .seti i a e, ρ => match evE Φ e ρ with
    | .ok (d, ρ1) => match gt ρ1 i with
     | some _ => match evE Φ a ρ1 with
      | .ok (.int k, ρ2) => match gt ρ2 i with
        | some (.lst ds) => match setAt ds k d with | some r => .nx (st ρ2 i (some (.lst r))) | none => .bad
        | _ => .bad
      | .ok _ => .bad | .exc c => .exc c | .bad => .bad
     | none => .bad
    | .exc c => .exc c | .bad => .bad
  | .set2 i a b e, ρ => match evE Φ e ρ with
    | .ok (d, ρ1) => match gt ρ1 i with
     | some _ => match evE Φ a ρ1 with
      | .ok (.int k, ρ2) => match gt ρ2 i with
        | some (.lst ds) => match nth ds k with
          | some (.lst _) => match evE Φ b ρ2 with
            | .ok (.int l, ρ3) => match gt ρ3 i with
              | some (.lst ds) => match ixAt ds.length k with
                | some n => match ds[n]? with
                  | some (.lst es) => match ixAt es.length l with
                    | some m => .nx (st ρ3 i (some (.lst (ds.set n (.lst (es.set m d))))))
                    | none => .bad
                  | _ => .bad
                | none => .bad
              | _ => .bad
            | .ok _ => .bad | .exc c => .exc c | .bad => .bad
          | _ => .bad
        | _ => .bad
      | .ok _ => .bad | .exc c => .exc c | .bad => .bad
     | none => .bad
    | .exc c => .exc c | .bad => .bad
  | .augi i a o e, ρ => match gt ρ i with
   | some _ => match evE Φ a ρ with
    | .ok (.int k, ρ1) => match gt ρ1 i with
      | some (.lst ds) => match nth ds k with
        | some x => match evE Φ e ρ1 with
          | .ok (y, ρ2) => match o.run x y with
            | .ok z => match gt ρ2 i with
              | some (.lst ds) => match setAt ds k z with | some r => .nx (st ρ2 i (some (.lst r))) | none => .bad
              | _ => .bad
            | .exc c => .exc c | .bad => .bad
          | .exc c => .exc c | .bad => .bad
        | none => .bad
      | _ => .bad
    | .ok _ => .bad | .exc c => .exc c | .bad => .bad
   | none => .bad
  | .aug2 i k l o e, ρ => match gt ρ i with
   | some (.lst ds) => match nth ds k with
     | some (.lst es) => match nth es l with
       | some x => match evE Φ e ρ with
         | .ok (y, ρ1) => match o.run x y with
           | .ok z => match gt ρ1 i with
             | some (.lst ds) => match ixAt ds.length k with
               | some n => match ds[n]? with
                 | some (.lst es) => match ixAt es.length l with
                   | some m => .nx (st ρ1 i (some (.lst (ds.set n (.lst (es.set m z))))))
                   | none => .bad
                 | _ => .bad
               | none => .bad
             | _ => .bad
           | .exc c => .exc c | .bad => .bad
         | .exc c => .exc c | .bad => .bad
       | none => .bad
     | _ => .bad
   | _ => .bad
  | .setk i a e, ρ => match evE Φ e ρ with
    | .ok (d, ρ1) => match gt ρ1 i with
     | some _ => match evE Φ a ρ1 with
      | .ok (.int k, ρ2) => match gt ρ2 i with
        | some (.dic ks) => if ks.length < lim then .nx (st ρ2 i (some (.dic (put ks k d)))) else .bad
        | _ => .bad
      | .ok _ => .bad | .exc c => .exc c | .bad => .bad
     | none => .bad
    | .exc c => .exc c | .bad => .bad
  | .setp i a e, ρ => match evE Φ e ρ with
    | .ok (d, ρ1) => match gt ρ1 i with
     | some _ => match evE Φ a ρ1 with
      | .ok (.tup [.int j, .int k], ρ2) => match gt ρ2 i with
        | some (.dct ks) => if ks.length < lim then .nx (st ρ2 i (some (.dct (put ks (j, k) d)))) else .bad
        | _ => .bad
      | .ok _ => .bad | .exc c => .exc c | .bad => .bad
     | none => .bad
    | .exc c => .exc c | .bad => .bad
  | .ifs c a b, ρ => match evE Φ c ρ with
    | .ok (.bl true, ρ1) => evSs Φ a ρ1
    | .ok (.bl false, ρ1) => evSs Φ b ρ1
    | .ok _ => .bad
    | .exc c => .exc c | .bad => .bad
  | .whl c b, ρ => whlGo (evE Φ c) (evSs Φ b) fuelW ρ
  | .for k a b c t body, ρ => match srcRes k (evE Φ a ρ) (evE Φ b) (evE Φ c) with
    | .ok (ds, ρ3) => match forGo t.put (evSs Φ body) ds ρ3 with
      | .nx ρ4 => .nx (k.out ρ4)
      | .rt d ρ4 => if k.pure = true then .rt d ρ4 else .bad
      | o => o
    | .exc c => .exc c | .bad => .bad
  | .ret e, ρ => match evE Φ e ρ with | .ok (d, ρ1) => .rt d ρ1 | .exc c => .exc c | .bad => .bad
  | .retN, ρ => .rt .non ρ
  | .rai c, _ => .exc c
  | .dead, _ => .bad
  | .appA i t d, ρ => match gt ρ i with
    | some (.lst ds) => match appD d ds with
      | some ds' => if t < ρ.length then .nx (st (st ρ t none) i (some (.lst ds'))) else .bad
      | none => .bad
    | _ => .bad
  | .appT i t c d, ρ => match gt ρ i with
    | some (.lst ds) => match appD d ds with
      | some ds' => if t < ρ.length ∧ allT (evE Φ c) ρ.length t ds = true then .nx (st (st ρ t none) i (some (.lst ds'))) else .bad
      | none => .bad
    | _ => .bad
  | .tryC i j f es, ρ => match evEs Φ es ρ with
    | .ok (ds, ρ1) => match (Φ f).run ds with
      | .ok _ => .nx ρ1
      | .exc c => if c < 14 ∧ gt ρ1 j = none then .nx (st ρ1 i (some (.exn c))) else .bad
      | .bad => .bad
    | _ => .bad
  | .forC a t c d, ρ => match srcRes .lst (evE Φ a ρ) (evE Φ (.cst .non)) (evE Φ (.cst .non)) with
    | .ok (ds, ρ3) => if ds.all D.isSc = true then forGo t.put (chk (evE Φ c) d) ds ρ3 else .bad
    | .exc c => .exc c | .bad => .bad
def evSs (Φ : Nat → FnSem) : ISs → Env → Out
  | .nil, ρ => .nx ρ
  | .cons s r, ρ => match evS Φ s ρ with
    | .nx ρ1 => evSs Φ r ρ1
    | o => o
  | .frz i r, ρ => match evSs Φ r ρ with
    | .nx ρ1 => .nx (st ρ1 i none)
    | .rt d ρ1 => .rt d (st ρ1 i none)
    | o => o
end
def start (n : Nat) (ds : List D) : Env := ds.map some ++ List.replicate (n - ds.length) none
/-- a def's reckoning, from the defs that it calls -/
def semOf (Φ : Nat → FnSem) (d : IDef) : FnSem where
  np := d.np
  pk := kAt d.ks
  rk := d.rk
  run := fun ds => if ds.length = d.np then match evSs Φ d.body (start d.ns ds) with
    | .rt x ρ => .ok (x, if d.mut = true then [gt ρ 0] else d.mx ρ)
    | .nx ρ => .ok (.non, if d.mut = true then [gt ρ 0] else d.mx ρ)
    | .exc c => .exc c
    | .bad => .bad else .bad
def noSem : FnSem := ⟨0, fun _ => .sh, .sh, fun _ => .bad⟩
/-- the defs' reckonings, calls no deeper than n -/
def sems (defs : Nat → IDef) : Nat → Nat → FnSem
  | 0 => fun _ => noSem
  | n + 1 => fun f => semOf (sems defs n) (defs f)
/-! ### the static look -/
/-- a weaker kind -/
def Kind.le : Kind → Kind → Bool
  | .im, .im | .im, .sh | .im, .deep | .im, .top => true
  | .sh, .sh => true
  | .top, .top | .top, .sh => true
  | .deep, .deep | .deep, .top | .deep, .sh => true
  | .bt, .bt | .bo, .bo => true
  | _, _ => false
def Kind.borrowed : Kind → Bool
  | .bt | .bo => true
  | _ => false
/-- an item of such a thing -/
def Kind.kid : Kind → Kind
  | .bo => .bo
  | _ => .sh
/-- a new list of such items -/
def Kind.mk : Kind → Kind
  | .bo => .bo
  | _ => .top
def Op1.kd : Op1 → Kind → Kind
  | .listL, k | .revL, k | .sortP, k => k.mk
  | .listK, _ | .sortK, _ | .sortL, _ | .sortSet, _ | .rngL, _ => .deep
  | .scl, k => if ownK k then .deep else k
  | .opq, _ => .sh
  | _, _ => .im
def Op2.kd : Op2 → Kind → Kind → Kind
  | .cat, k, l => if k = .bo ∨ l = .bo then .bo else .top
  | .rep, k, _ => k.mk
  | .slcLo, k, _ | .slcHi, k, _ => k.mk
  | .subL, .deep, _ | .subT, .deep, _ => .deep
  | .subL, k, _ | .subT, k, _ | .subK, k, _ | .subP, k, _ => k.kid
  | _, _, _ => .im
structure Sig where
  np : Nat
  pk : Nat → Kind
  rk : Kind
def IDef.sig (d : IDef) : Sig := ⟨d.np, kAt d.ks, d.rk⟩
/-- the parameters from j on are shared -/
def okP (s : Sig) (j : Nat) : Bool := (List.range s.np).all fun i => decide (i < j) || s.pk i == .sh
def IE.isC : IE → Bool
  | .cst _ => true
  | _ => false
def Sk.dum : Sk → IE → IE → IE → Bool
  | .lst, _, b, c | .r1, _, b, c | .str, _, b, c => b.isC && c.isC
  | .r2, _, _, c => c.isC
  | .r3, _, _, _ => true
  | .dic _, a, b, c => a.isC && b.isC && c.isC
def Sk.src : Sk → Kind → Kind
  | .lst, k => k.kid
  | _, _ => .sh
def Sk.okS : Sk → Kind → Bool
  | .lst, .bt | .lst, .bo => false
  | _, _ => true
def setK (ks : Nat → Kind) (is : List Nat) (k : Kind) : Nat → Kind := fun i => if i ∈ is then k else ks i
def Sk.ks : Sk → (Nat → Kind) → Nat → Kind
  | .dic i, ks => setK ks [i] .sh
  | _, ks => ks
def Sk.okD : Sk → (Nat → Kind) → Tg → Bool
  | .dic i, ks, t => ks i == .top && !t.names.contains i
  | _, _, _ => true
def lcK : Kind → Option Kind
  | .im | .deep => some .deep
  | .bt | .bo => none
  | _ => some .top
def Sk.isR1 : Sk → Bool
  | .r1 => true
  | _ => false
def lendK : Kind → Kind
  | .top => .bt
  | .deep => .bo
  | k => k
/-- a lambda's names: its own one, those that it captured -/
def keyK (ks : Nat → Kind) (js : List Nat) (s : Kind) : Nat → Kind
  | 0 => s
  | i + 1 => match js[i]? with
    | some j => lendK (ks j)
    | none => .sh
mutual
/-- nothing that stood is changed -/
def pureE (sg : Nat → Sig) : IE → Bool
  | .var _ | .cst _ | .dic0 | .dct0 => true
  | .mv _ | .pop _ | .popAt _ _ => false
  | .op1 _ a | .not a => pureE sg a
  | .op2 _ a b | .mth _ a b | .and a b | .or a b | .dic1 a b => pureE sg a && pureE sg b
  | .slc a b c => pureE sg a && pureE sg b && pureE sg c
  | .lst es | .tup es => pureEs sg es
  | .call _ es => pureEs sg es
  | .callM _ _ _ => false
  | .callN _ _ _ => false
  | .callT _ _ => false
  | .lcM _ _ _ => false
  | .filt _ _ _ => false
  | .catD _ _ => false
  | .t1 _ a => pureE sg a
  | .t2 _ a b => pureE sg a && pureE sg b
  | .t3 a b c => pureE sg a && pureE sg b && pureE sg c
  | .idxV _ e => pureE sg e
  | .lc k a b c _ t e => k.pure && pureE sg a && pureE sg b && pureE sg c && pureE sg t && pureE sg e
  | .key _ k a b c _ e => k.pure && pureE sg a && pureE sg b && pureE sg c && pureE sg e
def pureEs (sg : Nat → Sig) : IEs → Bool
  | .nil => true
  | .cons e es => pureE sg e && pureEs sg es
end
def joinL : List Kind → Kind
  | [] => .deep
  | k :: r => match k, joinL r with
    | .bt, _ | .bo, _ | _, .bo => .bo
    | .im, j | .deep, j => j
    | _, _ => .top
def joinT (l : List Kind) : Kind := match joinL l with
  | .top => .sh
  | k => k
mutual
def kE (sg : Nat → Sig) (nb : Bool) (ks : Nat → Kind) : IE → Option Kind
  | .var i => some (match ks i with | .top => .bt | .deep => .bo | k => k)
  | .mv i => if ownK (ks i) then some (ks i) else none
  | .cst d => if d.isSc then some .im else none
  | .op1 o a => match kE sg nb ks a with
    | some k => if o.onK = true ∧ ¬ (k = .top ∨ k = .bt) then none else some (o.kd k)
    | none => none
  | .op2 o a b => match kE sg nb ks a, kE sg nb ks b with
    | some k, some l => if (k.borrowed && !pureE sg b) || o == .idx || o == .cnt || o == .cntB then none else some (o.kd k l)
    | _, _ => none
  | .mth o a b => match kE sg nb ks a, kE sg nb ks b with
    | some k, some _ => if (k.borrowed && !pureE sg b) || !(o == .idx || o == .cnt || o == .cntB) then none else some .im
    | _, _ => none
  | .slc a b c => match kE sg nb ks a, kE sg nb ks b, kE sg nb ks c with
    | some k, some l, some _ => if (l.borrowed && !pureE sg c) || k.borrowed && !(pureE sg b && pureE sg c) then none else some k.mk
    | _, _, _ => none
  | .not a => (kE sg nb ks a).map fun _ => .im
  | .and a b | .or a b => match kE sg nb ks a, kE sg nb ks b with
    | some _, some k => if k.le .sh then some .sh else none
    | _, _ => none
  | .lst es => match kEs sg nb ks es with
    | some l => if l.length ≤ 1000 then some (joinL l) else none
    | none => none
  | .tup es => match kEs sg nb ks es with
    | some l => if l.length ≤ 1000 then some (joinT l) else none
    | none => none
  | .dic1 a b => match kE sg nb ks a, kE sg nb ks b with
    | some .im, some k => if (nb && k.le .sh) = true then some .top else none
    | _, _ => none
  | .dic0 | .dct0 => some .top
  | .call f es => match kEs sg nb ks es with
    | some l => if l.length = (sg f).np ∧ okP (sg f) 0 = true ∧ (l.all (fun k => !k.borrowed) = true ∨ (sg f).rk = .im ∨ (sg f).rk = .deep) then some (sg f).rk else none
    | none => none
  | .callM f i es => match kEs sg nb ks es with
    | some l => if nb = true ∧ ownK (ks i) = true ∧ l.length + 1 = (sg f).np ∧ (sg f).pk 0 = ks i ∧ okP (sg f) 1 = true ∧ l.all (fun k => !k.borrowed) = true then some (sg f).rk else none
    | none => none
  | .idxV i e => match kE sg nb ks e with
    | some _ => some .im
    | none => none
  | .callT f es => match kEs sg nb ks es with
    | some l => match l.getLast? with
      | some k => if nb = true ∧ ownK k = true ∧ l.length = (sg f).np ∧ (sg f).pk (l.length - 1) = k ∧ (List.range (l.length - 1)).all (fun j => (sg f).pk j == .sh) = true ∧ l.dropLast.all (fun k => !k.borrowed) = true then some (sg f).rk else none
      | none => none
    | none => none
  | .lcM a i elt => match kE sg nb ks a, kE sg true ks elt with
    | some _, some .im => if nb = true ∧ ks i = .sh then some .deep else none
    | _, _ => none
  | .filt i t test => match kE sg false (setK ks [t] .bo) test with
    | some _ => if nb = true ∧ ks i = .deep ∧ pureE sg test = true then some .deep else none
    | none => none
  | .catD i j => if nb = true ∧ ks i = .deep ∧ ks j = .deep ∧ i ≠ j then some .deep else none
  | .t1 o a => match kE sg nb ks a with
    | some _ => some .im
    | none => none
  | .t2 o a b => match kE sg nb ks a, kE sg nb ks b with
    | some _, some _ => some o.kd
    | _, _ => none
  | .t3 a b c => match kE sg nb ks a, kE sg nb ks b, kE sg nb ks c with
    | some _, some _, some _ => some .im
    | _, _, _ => none
  | .callN f i es => match kEs sg nb ks es with
    | some l => if nb = true ∧ ownK (ks i) = true ∧ l.length + 1 = (sg f).np ∧ (sg f).pk l.length = ks i ∧ (List.range l.length).all (fun j => (sg f).pk j == .sh) = true ∧ l.all (fun k => !k.borrowed) = true then some (sg f).rk else none
    | none => none
  | .lc k a b c t test elt => match kE sg nb ks a, kE sg nb ks b, kE sg nb ks c with
    | some ka, some _, some _ =>
      if (k.dum a b c && k.okD ks t && (k.pure || nb) && pureE sg b && pureE sg c && pureE sg test && pureE sg elt) = true then
        match kE sg false (setK (k.ks ks) t.names (k.src ka)) test, kE sg false (setK (k.ks ks) t.names (k.src ka)) elt with
        | some _, some ke => if (k.pure || ke == .im || ke == .deep) = true then lcK ke else none
        | _, _ => none
      else none
    | _, _, _ => none
  | .pop i => if nb = false then none else match ks i with | .top => some .sh | .deep => some .deep | _ => none
  | .popAt i e => if nb = false then none else match ks i, kE sg nb ks e with | .top, some _ => some .sh | .deep, some _ => some .deep | _, _ => none
  | .key o k a b c js body => match kE sg nb ks a, kE sg nb ks b, kE sg nb ks c with
    | some ka, some _, some _ =>
      if (k.dum a b c && k.okD ks (.tup []) && (k.pure || nb) && pureE sg b && pureE sg c && pureE sg body && (decide (o < 2) || decide (o = 2) && k.isR1)) = true then
        match kE sg false (keyK (k.ks ks) js (k.src ka)) body with
        | some _ => some (if o = 2 then .deep else k.src ka)
        | none => none
      else none
    | _, _, _ => none
def kEs (sg : Nat → Sig) (nb : Bool) (ks : Nat → Kind) : IEs → Option (List Kind)
  | .nil => some []
  | .cons e es => match kE sg nb ks e, kEs sg nb ks es with
    | some k, some l => if k.borrowed && !pureEs sg es then none else some (k :: l)
    | _, _ => none
end
def kTg (ks : Nat → Kind) (pn : Nat → Bool) (k : Kind) : Tg → Bool
  | .nm i => k.le (ks i) && !pn i
  | .tup is | .lsp is => is.all fun i => (match k with | .deep => Kind.le .deep (ks i) | .sh | .top => ks i == .sh | _ => false) && !pn i
mutual
def kS (sg : Nat → Sig) (ks : Nat → Kind) (pn : Nat → Bool) (rk : Kind) : IS → Bool
  | .asg t e => match kE sg true ks e with | some k => kTg ks pn k t | none => false
  | .aug i o e => ks i == .sh && !pn i && (o == .addI || o == .subI) && (kE sg true ks e).isSome
  | .exp e => (kE sg true ks e).isSome
  | .app i e => match kE sg true ks e, ks i with
    | some k, .top => k.le .sh
    | some k, .deep => k.le .deep
    | _, _ => false
  | .ins i a e => match kE sg true ks a, kE sg true ks e, ks i with
    | some _, some k, .top => k.le .sh
    | some _, some k, .deep => k.le .deep
    | _, _, _ => false
  | .clr i => ownK (ks i)
  | .seti i a e => match kE sg true ks a, kE sg true ks e, ks i with
    | some _, some k, .top => k.le .sh
    | some _, some k, .deep => k.le .deep
    | _, _, _ => false
  | .set2 i a b e => match kE sg true ks a, kE sg true ks b, kE sg true ks e, ks i with
    | some _, some _, some k, .deep => k.le .deep && pureE sg a && pureE sg b
    | _, _, _, _ => false
  | .augi i a o e => match kE sg true ks a, kE sg true ks e, ks i with
    | some _, some _, .top | some _, some _, .deep => pureE sg e && (o == .addI || o == .subI)
    | _, _, _ => false
  | .aug2 i k l o e => match kE sg true ks e, ks i with
    | some _, .deep => pureE sg e && (o == .addI || o == .subI)
    | _, _ => false
  | .setk i a e | .setp i a e => match kE sg true ks a, kE sg true ks e, ks i with
    | some _, some k, .top => k.le .sh
    | _, _, _ => false
  | .ifs c a b => (kE sg true ks c).isSome && kSs sg ks pn rk a && kSs sg ks pn rk b
  | .whl c b => (kE sg true ks c).isSome && kSs sg ks pn rk b
  | .for k a b c t body => match kE sg true ks a, kE sg true ks b, kE sg true ks c with
    | some ka, some _, some _ => k.dum a b c && k.okD ks t && k.okS ka && t.names.all (fun i => ks i == .sh && !pn i) && (match k with | .dic i => !pn i | _ => true) && kSs sg (k.ks ks) pn rk body
    | _, _, _ => false
  | .ret e => match kE sg true ks e with | some k => k.le rk | none => false
  | .retN => true
  | .rai _ => true
  | .dead => true
  | .appA i t d => ks i == .deep && ks t == .sh && !pn t && d.isSc
  | .appT i t c d => ks i == .deep && ks t == .sh && !pn t && d.isSc && (kE sg true ks c).isSome
  | .tryC i j f es => match kEs sg true ks es with
    | some l => decide (l.length = (sg f).np ∧ okP (sg f) 0 = true ∧ (l.all (fun k => !k.borrowed) = true ∨ (sg f).rk = .im ∨ (sg f).rk = .deep)) && ks i == .sh && !pn i && !pn j && !(i == j)
    | none => false
  | .forC a t c d => match kE sg true ks a, kE sg true ks c with
    | some _, some _ => d.isSc && Kind.le .im rk && t.names.all (fun i => ks i == .sh && !pn i) && pureE sg a && pureE sg c
    | _, _ => false
def kSs (sg : Nat → Sig) (ks : Nat → Kind) (pn : Nat → Bool) (rk : Kind) : ISs → Bool
  | .nil => true
  | .cons s r => kS sg ks pn rk s && kSs sg ks pn rk r
  | .frz i r => ownK (ks i) && !pn i && kSs sg (setK ks [i] .sh) pn rk r
end
/-- a def's static look -/
def IDef.pn (d : IDef) (j : Nat) : Bool := j == 0 && d.mut || d.mj == some j
def IDef.ok (sg : Nat → Sig) (d : IDef) : Bool := (d.ks.all fun k => !k.borrowed) && decide (d.np ≤ d.ns) && kSs sg (kAt d.ks) d.pn d.rk d.body
end TW

/-! ## data, how the heap bears it -/
namespace TW
open PySem L2
def scV : D → Option V
  | .non => some .non | .bl b => some (.bl b) | .int i => some (.int i) | .str s => some (.str s) | _ => none
/-- the refusals' names, in the order of their numbers -/
def exN (c : Nat) : Str := (["TreeError", "NoTree", "NoPlace", "NoRoad", "NoSpot", "NoSite", "NoYard", "NoWorth", "NoGift", "NoText", "NoKind", "NoQuestion", "NoRow", "NoName"] : List Str).getD c ""
def exA (K : PySem.W.Frag) (c : Nat) : Addr := He.ga K (exN c)
/-- an exception of the class C, at a -/
def ExA (C a : Addr) : HO := .ext fun h => ∃ oe : Obj, h.get? a = some oe ∧ Zc (.ref C) none oe ∧ ∃ vs, oe.data = .fields vs
section
variable (K : PySem.W.Frag) (B : Hp)
mutual
def hold : D → V → Prop
  | .non, v => v = .non
  | .bl b, v => v = .bl b
  | .int i, v => v = .int i
  | .str s, v => v = .str s
  | .lst ds, v => ∃ p xs, v = .ref p ∧ B p = some (.lst xs) ∧ holds ds xs
  | .tup ds, v => ∃ p xs, v = .ref p ∧ B p = some (.tup xs) ∧ holds ds xs
  | .dic ks, v => ∃ p kvs, v = .ref p ∧ Rd B p (.dK kvs) ∧ holdK ks kvs
  | .dct ks, v => ∃ p kvs, v = .ref p ∧ B p = some (.dT kvs) ∧ holdT ks kvs
  | .scr ns, v => ∃ p, v = .ref p ∧ SqL K B p (ns.map V.int)
  | .any, _ => True
  | .exn c, v => ∃ a, v = .ref a ∧ B a = some (ExA (exA K c) a)
def holds : List D → List V → Prop
  | [], xs => xs = []
  | d :: ds, xs => ∃ x r, xs = x :: r ∧ hold d x ∧ holds ds r
def holdK : List (Int × D) → List (Key × V) → Prop
  | [], kvs => kvs = []
  | (i, d) :: ks, kvs => ∃ x r, kvs = (.inl i, x) :: r ∧ hold d x ∧ holdK ks r
def holdT : List ((Int × Int) × D) → List (List Key × V) → Prop
  | [], kvs => kvs = []
  | ((i, j), d) :: ks, kvs => ∃ x r, kvs = ([.inl i, .inl j], x) :: r ∧ hold d x ∧ holdT ks r
end
end
theorem hold_sc {K : PySem.W.Frag} {B : Hp} {d : D} {v : V} (h : scV d = some v) : hold K B d v := by
  cases d <;> simp only [scV, Option.some.injEq, reduceCtorEq] at h <;> simp only [hold] <;> exact h.symm
theorem sc_hold {K : PySem.W.Frag} {B : Hp} {d : D} {v w : V} (h : scV d = some v) (g : hold K B d w) : w = v := by
  cases d <;> simp only [scV, Option.some.injEq, reduceCtorEq] at h <;> simp only [hold] at g <;> rw [g, ← h]
/-- no table of code objects -/
def NoTab (o : HO) : Prop := ∀ ps, o ≠ .tbl ps
/-- an extension; a lock may have fallen, tables may have grown -/
def Ext (B B' : Hp) : Prop := ∀ a o, B a = some o → NoTab o → B' a = some o ∨ ∃ ob kvs, o = .frz ob (.dK kvs) ∧ B' a = some (.dK kvs)
theorem Ext.of {B B' : Hp} (h : ∀ a o, B a = some o → NoTab o → B' a = some o) : Ext B B' := fun a o e n => .inl (h a o e n)
theorem nt_lst {xs : List V} : NoTab (.lst xs) := fun _ z => by cases z
theorem nt_tup {xs : List V} : NoTab (.tup xs) := fun _ z => by cases z
theorem nt_dK {xs : List (Key × V)} : NoTab (.dK xs) := fun _ z => by cases z
theorem nt_dT {xs : List (List Key × V)} : NoTab (.dT xs) := fun _ z => by cases z
theorem nt_ext {φ : Heap → Prop} : NoTab (.ext φ) := fun _ z => by cases z
theorem nt_exn {C a : Addr} : NoTab (ExA C a) := fun _ z => by unfold ExA at z; cases z
theorem nt_frz {o : Obj} {u : HO} : NoTab (.frz o u) := fun _ z => by cases z
theorem Ext.rdK {B B' : Hp} (e : Ext B B') {p : Addr} {kvs : List (Key × V)} (h : Rd B p (.dK kvs)) : Rd B' p (.dK kvs) := by
  rcases h with h | ⟨o, h⟩
  · rcases e p _ h (by intro _ z; cases z) with q | ⟨_, _, q, _⟩
    · exact .inl q
    · cases q
  · rcases e p _ h (by intro _ z; cases z) with q | ⟨_, _, q, r⟩
    · exact .inr ⟨o, q⟩
    · cases q; exact .inl r
theorem Ext.rdT {B B' : Hp} (e : Ext B B') {p : Addr} {kvs : List (List Key × V)} (h : Rd B p (.dT kvs)) : Rd B' p (.dT kvs) := by
  rcases h with h | ⟨o, h⟩
  · rcases e p _ h (by intro _ z; cases z) with q | ⟨_, _, q, _⟩
    · exact .inl q
    · cases q
  · rcases e p _ h (by intro _ z; cases z) with q | ⟨_, _, q, r⟩
    · exact .inr ⟨o, q⟩
    · cases q
theorem Ext.sq {K : PySem.W.Frag} {B B' : Hp} (e : Ext B B') {p : Addr} {xs : List V} (h : SqL K B p xs) : SqL K B' p xs := by
  rcases h with (h | ⟨o, h⟩) | h
  · rcases e p _ h (by intro _ z; cases z) with q | ⟨_, _, q, _⟩
    · exact .inl (.inl q)
    · cases q
  · rcases e p _ h (by intro _ z; cases z) with q | ⟨_, _, q, r⟩
    · exact .inl (.inr ⟨o, q⟩)
    · cases q
  · exact .inr h
mutual
theorem hold_mono {K : PySem.W.Frag} {B B' : Hp} (e : Ext B B') : ∀ (d : D) (v : V), hold K B d v → hold K B' d v
  | .any, _, _ => by simp only [hold]
  | .non, _, h | .bl _, _, h | .int _, _, h | .str _, _, h => by simp only [hold] at h ⊢; exact h
  | .lst ds, v, h => by
    simp only [hold] at h ⊢
    obtain ⟨p, xs, e1, e2, e3⟩ := h
    rcases e p _ e2 (by intro _ z; cases z) with q | ⟨_, _, q, _⟩
    · exact ⟨p, xs, e1, q, holds_mono e ds xs e3⟩
    · cases q
  | .tup ds, v, h => by
    simp only [hold] at h ⊢
    obtain ⟨p, xs, e1, e2, e3⟩ := h
    rcases e p _ e2 (by intro _ z; cases z) with q | ⟨_, _, q, _⟩
    · exact ⟨p, xs, e1, q, holds_mono e ds xs e3⟩
    · cases q
  | .dic ks, v, h => by
    simp only [hold] at h ⊢
    obtain ⟨p, xs, e1, e2, e3⟩ := h
    exact ⟨p, xs, e1, e.rdK e2, holdK_mono e ks xs e3⟩
  | .dct ks, v, h => by
    simp only [hold] at h ⊢
    obtain ⟨p, xs, e1, e2, e3⟩ := h
    rcases e p _ e2 (by intro _ z; cases z) with q | ⟨_, _, q, _⟩
    · exact ⟨p, xs, e1, q, holdT_mono e ks xs e3⟩
    · cases q
  | .scr ns, v, h => by
    simp only [hold] at h ⊢
    obtain ⟨p, e1, e2⟩ := h
    exact ⟨p, e1, e.sq e2⟩
  | .exn c, v, h => by
    simp only [hold] at h ⊢
    obtain ⟨a, e1, e2⟩ := h
    rcases e a _ e2 nt_exn with q | ⟨_, _, q, _⟩
    · exact ⟨a, e1, q⟩
    · unfold ExA at q; cases q
theorem holds_mono {K : PySem.W.Frag} {B B' : Hp} (e : Ext B B') : ∀ (ds : List D) (xs : List V), holds K B ds xs → holds K B' ds xs
  | [], _, h => by simp only [holds] at h ⊢; exact h
  | d :: ds, _, h => by
    simp only [holds] at h ⊢
    obtain ⟨x, r, e1, e2, e3⟩ := h
    exact ⟨x, r, e1, hold_mono e d x e2, holds_mono e ds r e3⟩
theorem holdK_mono {K : PySem.W.Frag} {B B' : Hp} (e : Ext B B') : ∀ (ds : List (Int × D)) (xs : List (Key × V)), holdK K B ds xs → holdK K B' ds xs
  | [], _, h => by simp only [holdK] at h ⊢; exact h
  | (i, d) :: ds, _, h => by
    simp only [holdK] at h ⊢
    obtain ⟨x, r, e1, e2, e3⟩ := h
    exact ⟨x, r, e1, hold_mono e d x e2, holdK_mono e ds r e3⟩
theorem holdT_mono {K : PySem.W.Frag} {B B' : Hp} (e : Ext B B') : ∀ (ds : List ((Int × Int) × D)) (xs : List (List Key × V)), holdT K B ds xs → holdT K B' ds xs
  | [], _, h => by simp only [holdT] at h ⊢; exact h
  | ((i, j), d) :: ds, _, h => by
    simp only [holdT] at h ⊢
    obtain ⟨x, r, e1, e2, e3⟩ := h
    exact ⟨x, r, e1, hold_mono e d x e2, holdT_mono e ds r e3⟩
end
theorem holds_length {K : PySem.W.Frag} {B : Hp} : ∀ {ds : List D} {xs : List V}, holds K B ds xs → ds.length = xs.length
  | [], _, h => by simp only [holds] at h; subst h; rfl
  | d :: ds, _, h => by
    simp only [holds] at h
    obtain ⟨x, r, e1, _, e3⟩ := h
    subst e1
    simp only [List.length_cons, holds_length e3]
theorem holds_get {K : PySem.W.Frag} {B : Hp} : ∀ {ds : List D} {xs : List V} {i : Nat} {d : D}, holds K B ds xs → ds[i]? = some d → ∃ x, xs[i]? = some x ∧ hold K B d x
  | [], _, _, _, _, h => by simp at h
  | d :: ds, _, 0, d', h, e => by
    simp only [holds] at h
    obtain ⟨x, r, e1, e2, e3⟩ := h
    simp at e; subst e; subst e1
    exact ⟨x, rfl, e2⟩
  | d :: ds, _, i + 1, d', h, e => by
    simp only [holds] at h
    obtain ⟨x, r, e1, e2, e3⟩ := h
    subst e1
    obtain ⟨y, h1, h2⟩ := holds_get (i := i) e3 (by simpa using e)
    exact ⟨y, by simpa using h1, h2⟩
theorem holds_get' {K : PySem.W.Frag} {B : Hp} : ∀ {ds : List D} {xs : List V} {i : Nat} {x : V}, holds K B ds xs → xs[i]? = some x → ∃ d, ds[i]? = some d ∧ hold K B d x
  | [], xs, _, _, h, e => by simp only [holds] at h; subst h; simp at e
  | d :: ds, _, 0, d', h, e => by
    simp only [holds] at h
    obtain ⟨x, r, e1, e2, e3⟩ := h
    subst e1
    simp at e; subst e
    exact ⟨d, rfl, e2⟩
  | d :: ds, _, i + 1, d', h, e => by
    simp only [holds] at h
    obtain ⟨x, r, e1, e2, e3⟩ := h
    subst e1
    obtain ⟨y, h1, h2⟩ := holds_get' (i := i) e3 (by simpa using e)
    exact ⟨y, by simpa using h1, h2⟩
theorem holds_append {K : PySem.W.Frag} {B : Hp} : ∀ {ds es : List D} {xs ys : List V}, holds K B ds xs → holds K B es ys → holds K B (ds ++ es) (xs ++ ys)
  | [], _, _, _, h, g => by simp only [holds] at h; subst h; exact g
  | d :: ds, es, _, ys, h, g => by
    simp only [holds] at h
    obtain ⟨x, r, e1, e2, e3⟩ := h
    subst e1
    exact ⟨x, r ++ ys, rfl, e2, holds_append e3 g⟩
theorem holds_one {K : PySem.W.Frag} {B : Hp} {d : D} {x : V} (h : hold K B d x) : holds K B [d] [x] := ⟨x, [], rfl, h, rfl⟩
theorem holds_take {K : PySem.W.Frag} {B : Hp} : ∀ (n : Nat) {ds : List D} {xs : List V}, holds K B ds xs → holds K B (ds.take n) (xs.take n)
  | 0, _, _, _ => rfl
  | n + 1, [], _, h => by simp only [holds] at h; subst h; rfl
  | n + 1, d :: ds, _, h => by
    simp only [holds] at h
    obtain ⟨x, r, e1, e2, e3⟩ := h
    subst e1
    exact ⟨x, r.take n, rfl, e2, holds_take n e3⟩
theorem holds_drop {K : PySem.W.Frag} {B : Hp} : ∀ (n : Nat) {ds : List D} {xs : List V}, holds K B ds xs → holds K B (ds.drop n) (xs.drop n)
  | 0, _, _, h => h
  | n + 1, [], _, h => by simp only [holds] at h; subst h; rfl
  | n + 1, d :: ds, _, h => by
    simp only [holds] at h
    obtain ⟨x, r, e1, e2, e3⟩ := h
    subst e1
    exact holds_drop n e3
theorem holds_set {K : PySem.W.Frag} {B : Hp} {d : D} {x : V} (h0 : hold K B d x) : ∀ (i : Nat) {ds : List D} {xs : List V}, holds K B ds xs → holds K B (ds.set i d) (xs.set i x)
  | _, [], _, h => by simp only [holds] at h; subst h; rfl
  | 0, e :: ds, _, h => by
    simp only [holds] at h
    obtain ⟨y, r, e1, e2, e3⟩ := h
    subst e1
    exact ⟨x, r, rfl, h0, e3⟩
  | i + 1, e :: ds, _, h => by
    simp only [holds] at h
    obtain ⟨y, r, e1, e2, e3⟩ := h
    subst e1
    exact ⟨y, r.set i x, rfl, e2, holds_set h0 i e3⟩
theorem holds_reverse {K : PySem.W.Frag} {B : Hp} : ∀ {ds : List D} {xs : List V}, holds K B ds xs → holds K B ds.reverse xs.reverse
  | [], _, h => by simp only [holds] at h; subst h; rfl
  | d :: ds, _, h => by
    simp only [holds] at h
    obtain ⟨x, r, e1, e2, e3⟩ := h
    subst e1
    rw [List.reverse_cons, List.reverse_cons]
    exact holds_append (holds_reverse e3) (holds_one e2)
theorem holds_eraseIdx {K : PySem.W.Frag} {B : Hp} : ∀ (i : Nat) {ds : List D} {xs : List V}, holds K B ds xs → holds K B (ds.eraseIdx i) (xs.eraseIdx i)
  | _, [], _, h => by simp only [holds] at h; subst h; cases ‹Nat› <;> rfl
  | 0, e :: ds, _, h => by
    simp only [holds] at h
    obtain ⟨y, r, e1, e2, e3⟩ := h
    subst e1
    exact e3
  | i + 1, e :: ds, _, h => by
    simp only [holds] at h
    obtain ⟨y, r, e1, e2, e3⟩ := h
    subst e1
    exact ⟨y, r.eraseIdx i, rfl, e2, holds_eraseIdx i e3⟩
theorem holds_dropLast {K : PySem.W.Frag} {B : Hp} {ds : List D} {xs : List V} (h : holds K B ds xs) : holds K B ds.dropLast xs.dropLast := by
  rw [List.dropLast_eq_take, List.dropLast_eq_take, holds_length h]
  exact holds_take _ h
/-- ints -/
theorem holds_ints {K : PySem.W.Frag} {B : Hp} : ∀ (ns : List Int), holds K B (ns.map D.int) (ns.map V.int)
  | [] => rfl
  | n :: ns => ⟨.int n, ns.map V.int, rfl, rfl, holds_ints ns⟩
theorem ints_holds {K : PySem.W.Frag} {B : Hp} : ∀ {ns : List Int} {xs : List V}, holds K B (ns.map D.int) xs → xs = ns.map V.int
  | [], _, h => by simp only [List.map_nil, holds] at h; exact h
  | n :: ns, _, h => by
    simp only [List.map_cons, holds, hold] at h
    obtain ⟨x, r, e1, e2, e3⟩ := h
    subst e1; subst e2
    rw [ints_holds e3]; rfl
/-! ### what is its owner's alone -/
mutual
def own (H : Hp) : D → V → List Addr → Prop
  | .non, v, f => v = .non ∧ f = []
  | .bl b, v, f => v = .bl b ∧ f = []
  | .int b, v, f => v = .int b ∧ f = []
  | .str b, v, f => v = .str b ∧ f = []
  | .lst ds, v, f => ∃ p xs g, v = .ref p ∧ f = p :: g ∧ H p = some (.lst xs) ∧ p ∉ g ∧ owns H ds xs g
  | .tup ds, v, f => ∃ p xs g, v = .ref p ∧ f = p :: g ∧ H p = some (.tup xs) ∧ p ∉ g ∧ owns H ds xs g
  | .dic _, _, _ | .dct _, _, _ | .scr _, _, _ | .any, _, _ | .exn _, _, _ => False
def owns (H : Hp) : List D → List V → List Addr → Prop
  | [], xs, f => xs = [] ∧ f = []
  | d :: ds, xs, f => ∃ x r g1 g2, xs = x :: r ∧ f = g1 ++ g2 ∧ own H d x g1 ∧ owns H ds r g2 ∧ ∀ a ∈ g1, a ∉ g2
end
theorem own_sc {H : Hp} {d : D} {v : V} (h : scV d = some v) : own H d v [] := by
  cases d <;> simp only [scV, Option.some.injEq, reduceCtorEq] at h <;> exact ⟨h.symm, rfl⟩
/-- what is owned stands, and is no table -/
def Lay (o : HO) : Prop := (∃ xs, o = .lst xs) ∨ (∃ xs, o = .tup xs) ∨ (∃ xs, o = .dK xs) ∨ ∃ xs, o = .dT xs
theorem Lay.nt {o : HO} (h : Lay o) : NoTab o := fun ps z => by
  rcases h with ⟨_, e⟩ | ⟨_, e⟩ | ⟨_, e⟩ | ⟨_, e⟩ <;> (rw [e] at z; cases z)
mutual
theorem own_at {H : Hp} : ∀ (d : D) (v : V) (f : List Addr), own H d v f → ∀ a ∈ f, ∃ o, H a = some o ∧ Lay o
  | .non, _, _, h, _, m | .bl _, _, _, h, _, m | .int _, _, _, h, _, m | .str _, _, _, h, _, m => by
    simp only [own] at h; rw [h.2] at m; cases m
  | .lst ds, v, f, h, a, m => by
    simp only [own] at h
    obtain ⟨p, xs, g, _, e, e2, _, e4⟩ := h
    rw [e] at m
    rcases List.mem_cons.mp m with z | m
    · rw [z]; exact ⟨_, e2, .inl ⟨_, rfl⟩⟩
    · exact owns_at ds xs g e4 a m
  | .tup ds, v, f, h, a, m => by
    simp only [own] at h
    obtain ⟨p, xs, g, _, e, e2, _, e4⟩ := h
    rw [e] at m
    rcases List.mem_cons.mp m with z | m
    · rw [z]; exact ⟨_, e2, .inr (.inl ⟨_, rfl⟩)⟩
    · exact owns_at ds xs g e4 a m
  | .dic _, _, _, h, _, _ | .dct _, _, _, h, _, _ | .scr _, _, _, h, _, _ | .any, _, _, h, _, _ | .exn _, _, _, h, _, _ => by simp only [own] at h
theorem owns_at {H : Hp} : ∀ (ds : List D) (xs : List V) (f : List Addr), owns H ds xs f → ∀ a ∈ f, ∃ o, H a = some o ∧ Lay o
  | [], _, _, h, _, m => by simp only [owns] at h; rw [h.2] at m; cases m
  | d :: ds, _, f, h, a, m => by
    simp only [owns] at h
    obtain ⟨x, r, g1, g2, _, e, e2, e3, _⟩ := h
    rw [e] at m
    rcases List.mem_append.mp m with m | m
    · exact own_at d x g1 e2 a m
    · exact owns_at ds r g2 e3 a m
end
mutual
theorem own_keep {H H' : Hp} : ∀ (d : D) (v : V) (f : List Addr), own H d v f → (∀ a ∈ f, ∀ o, H a = some o → Lay o → H' a = some o) → own H' d v f
  | .non, _, _, h, _ | .bl _, _, _, h, _ | .int _, _, _, h, _ | .str _, _, _, h, _ => by simp only [own] at h ⊢; exact h
  | .lst ds, v, f, h, k => by
    simp only [own] at h ⊢
    obtain ⟨p, xs, g, e0, e, e2, e3, e4⟩ := h
    subst e
    exact ⟨p, xs, g, e0, rfl, k p List.mem_cons_self _ e2 (.inl ⟨_, rfl⟩), e3, owns_keep ds xs g e4 fun a m => k a (List.mem_cons_of_mem _ m)⟩
  | .tup ds, v, f, h, k => by
    simp only [own] at h ⊢
    obtain ⟨p, xs, g, e0, e, e2, e3, e4⟩ := h
    subst e
    exact ⟨p, xs, g, e0, rfl, k p List.mem_cons_self _ e2 (.inr (.inl ⟨_, rfl⟩)), e3, owns_keep ds xs g e4 fun a m => k a (List.mem_cons_of_mem _ m)⟩
  | .dic _, _, _, h, _ | .dct _, _, _, h, _ | .scr _, _, _, h, _ | .any, _, _, h, _ | .exn _, _, _, h, _ => by simp only [own] at h
theorem owns_keep {H H' : Hp} : ∀ (ds : List D) (xs : List V) (f : List Addr), owns H ds xs f → (∀ a ∈ f, ∀ o, H a = some o → Lay o → H' a = some o) → owns H' ds xs f
  | [], _, _, h, _ => by simp only [owns] at h ⊢; exact h
  | d :: ds, _, f, h, k => by
    simp only [owns] at h ⊢
    obtain ⟨x, r, g1, g2, e0, e, e2, e3, e4⟩ := h
    subst e
    exact ⟨x, r, g1, g2, e0, rfl, own_keep d x g1 e2 fun a m => k a (List.mem_append_left _ m), owns_keep ds r g2 e3 fun a m => k a (List.mem_append_right _ m), e4⟩
end
mutual
theorem own_hold {K : PySem.W.Frag} {H B : Hp} : ∀ (d : D) (v : V) (f : List Addr), own H d v f → (∀ a ∈ f, ∀ o, H a = some o → Lay o → B a = some o) → hold K B d v
  | .non, _, _, h, _ | .bl _, _, _, h, _ | .int _, _, _, h, _ | .str _, _, _, h, _ => by simp only [own] at h; simp only [hold]; exact h.1
  | .lst ds, v, f, h, k => by
    simp only [own] at h
    obtain ⟨p, xs, g, e0, e, e2, e3, e4⟩ := h
    subst e
    exact ⟨p, xs, e0, k p List.mem_cons_self _ e2 (.inl ⟨_, rfl⟩), owns_hold ds xs g e4 fun a m => k a (List.mem_cons_of_mem _ m)⟩
  | .tup ds, v, f, h, k => by
    simp only [own] at h
    obtain ⟨p, xs, g, e0, e, e2, e3, e4⟩ := h
    subst e
    exact ⟨p, xs, e0, k p List.mem_cons_self _ e2 (.inr (.inl ⟨_, rfl⟩)), owns_hold ds xs g e4 fun a m => k a (List.mem_cons_of_mem _ m)⟩
  | .dic _, _, _, h, _ | .dct _, _, _, h, _ | .scr _, _, _, h, _ | .any, _, _, h, _ | .exn _, _, _, h, _ => by simp only [own] at h
theorem owns_hold {K : PySem.W.Frag} {H B : Hp} : ∀ (ds : List D) (xs : List V) (f : List Addr), owns H ds xs f → (∀ a ∈ f, ∀ o, H a = some o → Lay o → B a = some o) → holds K B ds xs
  | [], _, _, h, _ => by simp only [owns] at h; exact h.1
  | d :: ds, _, f, h, k => by
    simp only [owns] at h
    obtain ⟨x, r, g1, g2, e0, e, e2, e3, e4⟩ := h
    subst e
    exact ⟨x, r, e0, own_hold d x g1 e2 fun a m => k a (List.mem_append_left _ m), owns_hold ds r g2 e3 fun a m => k a (List.mem_append_right _ m)⟩
end
theorem owns_length {H : Hp} : ∀ {ds : List D} {xs : List V} {f : List Addr}, owns H ds xs f → ds.length = xs.length
  | [], _, _, h => by simp only [owns] at h; rw [h.1]; rfl
  | d :: ds, _, _, h => by
    simp only [owns] at h
    obtain ⟨x, r, _, _, e1, _, _, e3, _⟩ := h
    subst e1
    simp only [List.length_cons, owns_length e3]
theorem owns_sc {H : Hp} : ∀ {ds : List D} {xs : List V}, (∀ d ∈ ds, d.isSc = true) → (K : PySem.W.Frag) → (B : Hp) → holds K B ds xs → owns H ds xs []
  | [], _, _, _, _, h => by simp only [holds] at h; exact ⟨h, rfl⟩
  | d :: ds, _, s, K, B, h => by
    simp only [holds] at h
    obtain ⟨x, r, e1, e2, e3⟩ := h
    have q : scV d = some x := by
      have := s d List.mem_cons_self
      cases d <;> simp only [D.isSc, Bool.false_eq_true] at this <;> simp only [hold] at e2 <;> simp only [scV, e2]
    exact ⟨x, r, [], [], e1, rfl, own_sc q, owns_sc (fun e m => s e (List.mem_cons_of_mem _ m)) K B e3, fun _ m => by cases m⟩
/-! ### how a value stands -/
/-- the thing itself in H, its items in B -/
def hold1 (K : PySem.W.Frag) (B H : Hp) : D → V → Prop
  | .lst ds, v => ∃ p xs, v = .ref p ∧ H p = some (.lst xs) ∧ holds K B ds xs
  | .tup ds, v => ∃ p xs, v = .ref p ∧ H p = some (.tup xs) ∧ holds K B ds xs
  | .dic ks, v => ∃ p kvs, v = .ref p ∧ Rd H p (.dK kvs) ∧ holdK K B ks kvs
  | .dct ks, v => ∃ p kvs, v = .ref p ∧ H p = some (.dT kvs) ∧ holdT K B ks kvs
  | .scr ns, v => ∃ p, v = .ref p ∧ SqL K H p (ns.map V.int)
  | .any, _ => True
  | .exn c, v => ∃ a, v = .ref a ∧ H a = some (ExA (exA K c) a)
  | d, v => scV d = some v
/-- a list or dict that is its owner's -/
def topAt (K : PySem.W.Frag) (B H : Hp) (p : Addr) : D → Prop
  | .lst ds => ∃ xs, H p = some (.lst xs) ∧ holds K B ds xs
  | .tup ds => ∃ xs, H p = some (.tup xs) ∧ holds K B ds xs
  | .dic ks => ∃ kvs, H p = some (.dK kvs) ∧ holdK K B ks kvs
  | .dct ks => ∃ kvs, H p = some (.dT kvs) ∧ holdT K B ks kvs
  | _ => False
def vrep (K : PySem.W.Frag) (k : Kind) (B H : Hp) (d : D) (v : V) (f : List Addr) : Prop := match k with
  | .im => scV d = some v ∧ f = []
  | .sh => hold K B d v ∧ f = []
  | .top => (scV d = some v ∧ f = []) ∨ ∃ p, v = .ref p ∧ f = [p] ∧ topAt K B H p d
  | .deep => own H d v f
  | .bt => (scV d = some v ∧ f = []) ∨ ∃ p, v = .ref p ∧ f = [] ∧ topAt K B H p d
  | .bo => hold K H d v ∧ f = []
/-- what B knows stands -/
def Sub (B H : Hp) : Prop := ∀ a o, B a = some o → H a = some o ∧ NoTab o
theorem Sub.ext {B H : Hp} (s : Sub B H) : Ext B H := .of fun a o e _ => (s a o e).1
theorem topAt_at {K : PySem.W.Frag} {B H : Hp} {p : Addr} {d : D} (h : topAt K B H p d) : ∃ o, H p = some o ∧ Lay o := by
  cases d <;> simp only [topAt] at h
  · obtain ⟨_, h, _⟩ := h; exact ⟨_, h, .inl ⟨_, rfl⟩⟩
  · obtain ⟨_, h, _⟩ := h; exact ⟨_, h, .inr (.inl ⟨_, rfl⟩)⟩
  · obtain ⟨_, h, _⟩ := h; exact ⟨_, h, .inr (.inr (.inl ⟨_, rfl⟩))⟩
  · obtain ⟨_, h, _⟩ := h; exact ⟨_, h, .inr (.inr (.inr ⟨_, rfl⟩))⟩
theorem vrep_at {K : PySem.W.Frag} {k : Kind} {B H : Hp} {d : D} {v : V} {f : List Addr} (h : vrep K k B H d v f) : ∀ a ∈ f, ∃ o, H a = some o ∧ Lay o := fun a m => by
  cases k <;> simp only [vrep] at h
  · rw [h.2] at m; cases m
  · rw [h.2] at m; cases m
  · rcases h with ⟨_, e⟩ | ⟨p, _, e, t⟩
    · rw [e] at m; cases m
    rw [e] at m
    obtain rfl := List.mem_singleton.mp m
    exact topAt_at t
  · exact own_at d v f h a m
  · rcases h with ⟨_, e⟩ | ⟨p, _, e, t⟩ <;> (rw [e] at m; cases m)
  · rw [h.2] at m; cases m
theorem topAt_keep {K : PySem.W.Frag} {B B' H H' : Hp} {p : Addr} {d : D} (h : topAt K B H p d) (e : Ext B B') (k : ∀ o, H p = some o → Lay o → H' p = some o) : topAt K B' H' p d := by
  cases d <;> simp only [topAt] at h ⊢
  · obtain ⟨xs, h, g⟩ := h; exact ⟨xs, k _ h (.inl ⟨_, rfl⟩), holds_mono e _ _ g⟩
  · obtain ⟨xs, h, g⟩ := h; exact ⟨xs, k _ h (.inr (.inl ⟨_, rfl⟩)), holds_mono e _ _ g⟩
  · obtain ⟨xs, h, g⟩ := h; exact ⟨xs, k _ h (.inr (.inr (.inl ⟨_, rfl⟩))), holdK_mono e _ _ g⟩
  · obtain ⟨xs, h, g⟩ := h; exact ⟨xs, k _ h (.inr (.inr (.inr ⟨_, rfl⟩))), holdT_mono e _ _ g⟩
/-- what changes between two states: P, what may change; P', what is owned behind it -/
structure Step (B H : Hp) (P : Addr → Prop) (B' H' : Hp) (P' : Addr → Prop) : Prop where
  ex : ∀ a o, B a = some o → B' a = some o
  up : ∀ a o, H a = some o → ¬ P a → NoTab o → H' a = some o
  th : ∀ a, H a ≠ none → H' a ≠ none
  new : ∀ a, P' a → P a ∨ H a = none
  newB : ∀ a, B' a ≠ none → B a ≠ none ∨ P a ∨ H a = none
/-- nothing that stood is changed -/
def Up (H H' : Hp) : Prop := ∀ a o, H a = some o → NoTab o → H' a = some o
theorem Up.refl (H : Hp) : Up H H := fun _ _ h _ => h
theorem Up.trans {H H1 H2 : Hp} (a : Up H H1) (b : Up H1 H2) : Up H H2 := fun c o e n => b c o (a c o e n) n
theorem Up.ext {H H' : Hp} (u : Up H H') : Ext H H' := .of u
theorem Step.refl {B H : Hp} {P : Addr → Prop} : Step B H P B H P := ⟨fun _ _ h => h, fun _ _ h _ _ => h, fun _ h => h, fun _ h => .inl h, fun _ h => .inl h⟩
theorem Step.trans {B H B1 H1 B2 H2 : Hp} {P P1 P2 : Addr → Prop} (s : Step B H P B1 H1 P1) (t : Step B1 H1 P1 B2 H2 P2) : Step B H P B2 H2 P2 where
  ex := fun a o e => t.ex a o (s.ex a o e)
  up := fun a o e n z => t.up a o (s.up a o e n z) (fun q => (s.new a q).elim n fun r => by rw [e] at r; cases r) z
  th := fun a h => t.th a (s.th a h)
  new := fun a h => (t.new a h).elim (s.new a) fun r => .inr (by
    cases q : H a with
    | none => rfl
    | some o => exact absurd r (s.th a (by rw [q]; simp)))
  newB := fun a h => by
    rcases t.newB a h with q | q | q
    · exact s.newB a q
    · exact .inr (s.new a q)
    · refine .inr (.inr ?_)
      cases r : H a with
      | none => rfl
      | some o => exact absurd q (s.th a (by rw [r]; simp))
theorem Step.less {B H B1 H1 : Hp} {P P1 P2 : Addr → Prop} (s : Step B H P B1 H1 P1) (h : ∀ a, P2 a → P1 a) : Step B H P B1 H1 P2 := ⟨s.ex, s.up, s.th, fun a q => s.new a (h a q), s.newB⟩
theorem Step.more {B H B1 H1 : Hp} {P P1 P0 : Addr → Prop} (s : Step B H P B1 H1 P1) (h : ∀ a, P a → P0 a) : Step B H P0 B1 H1 P1 :=
  ⟨s.ex, fun a o e n z => s.up a o e (fun q => n (h a q)) z, s.th, fun a q => (s.new a q).imp (h a) id, fun a q => (s.newB a q).imp id fun r => r.imp (h a) id⟩
/-- a thing that is not touched -/
theorem vrep_step {K : PySem.W.Frag} {k : Kind} {B H B' H' : Hp} {d : D} {v : V} {f : List Addr} {P P' : Addr → Prop} (h : vrep K k B H d v f) (s : Step B H P B' H' P') (hf : ∀ a ∈ f, ¬ P a)
    (hb : k.borrowed = true → Up H H') : vrep K k B' H' d v f := by
  have e : Ext B B' := .of fun a o q _ => s.ex a o q
  cases k <;> simp only [vrep] at h ⊢
  · exact h
  · exact ⟨hold_mono e _ _ h.1, h.2⟩
  · rcases h with h | ⟨p, e1, e2, t⟩
    · exact .inl h
    exact .inr ⟨p, e1, e2, topAt_keep t e fun o q l => s.up p o q (hf p (by rw [e2]; exact List.mem_singleton.mpr rfl)) l.nt⟩
  · exact own_keep d v f h fun a m o q l => s.up a o q (hf a m) l.nt
  · rcases h with h | ⟨p, e1, e2, t⟩
    · exact .inl h
    exact .inr ⟨p, e1, e2, topAt_keep t e fun o q l => hb rfl p o q l.nt⟩
  · exact ⟨hold_mono (hb rfl).ext _ _ h.1, h.2⟩
theorem hold_1 {K : PySem.W.Frag} {B H : Hp} {d : D} {v : V} (s : Sub B H) (h : hold K B d v) : hold1 K B H d v := by
  cases d <;> simp only [hold] at h <;> simp only [hold1, scV]
  case non | bl | int | str => rw [h]
  case lst => obtain ⟨p, xs, e1, e2, e3⟩ := h; exact ⟨p, xs, e1, (s _ _ e2).1, e3⟩
  case tup => obtain ⟨p, xs, e1, e2, e3⟩ := h; exact ⟨p, xs, e1, (s _ _ e2).1, e3⟩
  case dic => obtain ⟨p, xs, e1, e2, e3⟩ := h; exact ⟨p, xs, e1, s.ext.rdK e2, e3⟩
  case dct => obtain ⟨p, xs, e1, e2, e3⟩ := h; exact ⟨p, xs, e1, (s _ _ e2).1, e3⟩
  case scr => obtain ⟨p, e1, e2⟩ := h; exact ⟨p, e1, s.ext.sq e2⟩
  case exn => obtain ⟨p, e1, e2⟩ := h; exact ⟨p, e1, (s _ _ e2).1⟩
theorem topAt_1 {K : PySem.W.Frag} {B H : Hp} {d : D} {p : Addr} (h : topAt K B H p d) : hold1 K B H d (.ref p) := by
  cases d <;> simp only [topAt] at h <;> simp only [hold1]
  case lst => obtain ⟨xs, e2, e3⟩ := h; exact ⟨p, xs, rfl, e2, e3⟩
  case tup => obtain ⟨xs, e2, e3⟩ := h; exact ⟨p, xs, rfl, e2, e3⟩
  case dic => obtain ⟨xs, e2, e3⟩ := h; exact ⟨p, xs, rfl, .inl e2, e3⟩
  case dct => obtain ⟨xs, e2, e3⟩ := h; exact ⟨p, xs, rfl, e2, e3⟩
theorem sc_1 {K : PySem.W.Frag} {B H : Hp} {d : D} {v : V} (h : scV d = some v) : hold1 K B H d v := by
  cases d <;> simp only [scV, reduceCtorEq] at h <;> simpa only [hold1, scV] using h
/-- the heap, but for f and the tables -/
noncomputable def vis (H : Hp) (f : Addr → Prop) : Hp := fun a => by
  classical exact if f a then none else match H a with
  | some (.tbl _) => none
  | o => o
theorem vis_some {H : Hp} {f : Addr → Prop} {a : Addr} {o : HO} (h : vis H f a = some o) : ¬ f a ∧ H a = some o ∧ NoTab o := by
  unfold vis at h
  split at h
  · cases h
  · rename_i nf
    refine ⟨nf, ?_⟩
    split at h
    · cases h
    · rename_i hn
      refine ⟨h, fun ps z => ?_⟩
      subst z
      exact hn ps h
theorem vis_of {H : Hp} {f : Addr → Prop} {a : Addr} {o : HO} (h : H a = some o) (n : NoTab o) (nf : ¬ f a) : vis H f a = some o := by
  unfold vis
  rw [if_neg nf, h]
  split
  · rename_i ps z; cases z; exact absurd rfl (n ps)
  · rfl
theorem vis_sub {H : Hp} {f : Addr → Prop} : Sub (vis H f) H := fun _ _ h => (vis_some h).2
theorem vis_none {H : Hp} {f : Addr → Prop} {a : Addr} (h : H a = none) : vis H f a = none := by
  cases e : vis H f a with
  | none => rfl
  | some o => rw [(vis_some e).2.1] at h; cases h
theorem vis_ext {H : Hp} : Ext H (vis H fun _ => False) := .of fun _ _ e n => vis_of e n (fun z => z)
end TW

/-! ## max, min of a tuple of whole numbers -/
namespace TW
open PySem PySem.Spec PyProof.Rows L2
section
variable {P : Program} {w : World} {A : Around} {E : Value → Shared → Prop} {s : Shared} {t : Addr} {xs : Array (Int × Tok)} {Q : Value → Shared → Prop}
theorem tup_in {c : Addr} (ht : t < s.heap.objs.size) {o : Obj} (hc : c ∈ [s.heap.objs.size, t]) : c < (s.heap.push o).objs.size := by
  rw [Heap.size_push]
  rcases List.mem_cons.mp hc with rfl | hc
  · exact Nat.lt_succ_self _
  · rw [List.mem_singleton.mp hc]; exact Nat.lt_succ_of_lt ht
theorem tup_old {h' : Heap} {o : Obj} (hk : ∀ b u, b ∉ [s.heap.objs.size] → (s.heap.push o).get? b = some u → h'.get? b = some u) : ∀ b u, s.heap.get? b = some u → h'.get? b = some u := fun b u e =>
  hk b u (fun m => Nat.ne_of_lt (Heap.lt_size e) (List.mem_singleton.mp m)) (Heap.get?_push_of_some _ e)
theorem max_tupI (hd : A.handled = none) (ht : s.heap.IsTuple t (intItems xs)) (ne : 0 < xs.size)
    (h : ∀ v h' tk, (intItems xs)[argBest (fun i j => decide (numAt xs i > numAt xs j)) (xs.size - 1)]? = some v → (∀ b o, s.heap.get? b = some o → h'.get? b = some o) → Q v { s with heap := h', toks := tk }) :
    wpAny (model P w) A (call (.builtin "max") [.ref t]) Q E s := by
  have lt : t < s.heap.objs.size := by obtain ⟨o, e, _⟩ := ht; exact Heap.lt_size e
  refine call_max_walk (wpAny_pyIter_tuple ht ?_)
  exact ⟨_, [_, t], [_], _, _, _, _, rfl, Walks.tuple (A := A.in1) hd _ t (Nat.ne_of_lt lt) (intItems xs), ⟨⟨_, Heap.get?_push_size _ rfl, rfl, rfl⟩, ht.push _⟩, fun c hc => tup_in lt hc, by simpa [intItems] using ne, CmpOf.ints_gt (numAt xs) (fun _ _ => intItems_at), fun v h' tk hP hk => h v h' tk (by simpa [intItems] using hP) (tup_old hk)⟩
theorem min_tupI (hd : A.handled = none) (ht : s.heap.IsTuple t (intItems xs)) (ne : 0 < xs.size)
    (h : ∀ v h' tk, (intItems xs)[argBest (fun i j => decide (numAt xs i < numAt xs j)) (xs.size - 1)]? = some v → (∀ b o, s.heap.get? b = some o → h'.get? b = some o) → Q v { s with heap := h', toks := tk }) :
    wpAny (model P w) A (call (.builtin "min") [.ref t]) Q E s := by
  have lt : t < s.heap.objs.size := by obtain ⟨o, e, _⟩ := ht; exact Heap.lt_size e
  refine call_min_walk (wpAny_pyIter_tuple ht ?_)
  exact ⟨_, [_, t], [_], _, _, _, _, rfl, Walks.tuple (A := A.in1) hd _ t (Nat.ne_of_lt lt) (intItems xs), ⟨⟨_, Heap.get?_push_size _ rfl, rfl, rfl⟩, ht.push _⟩, fun c hc => tup_in lt hc, by simpa [intItems] using ne, CmpOf.ints_lt (numAt xs) (fun _ _ => intItems_at), fun v h' tk hP hk => h v h' tk (by simpa [intItems] using hP) (tup_old hk)⟩
variable {its : List Value} {ns : List Int}
theorem max_tupR (hd : A.handled = none) (hl : s.heap.IsTuple t its.toArray) (hi : IntsAre its ns) (hne : 0 < ns.length)
    (h : ∀ h' tk M t', (∀ b o, s.heap.get? b = some o → h'.get? b = some o) → M ∈ ns → (∀ a, a ∈ ns → a ≤ M) → Q (.int M t') { s with heap := h', toks := tk }) : wpAny (model P w) A (call (.builtin "max") [.ref t]) Q E s := by
  obtain ⟨ys, e⟩ := hi.allInts.items
  have hn : numsOf (intItems ys).toList = ns := by rw [← e]; exact hi.numsOf
  rw [nums_intItems] at hn
  subst hn
  rw [e] at hl
  have sz : 0 < ys.size := by simpa using hne
  refine max_tupI hd hl sz fun v h' tk hv hk => ?_
  obtain ⟨u, rfl⟩ := intItems_at hv
  obtain ⟨g1, g2⟩ := argBest_gt (numAt ys) (ys.size - 1)
  refine h h' tk _ u hk ?_ fun a ha => ?_
  · rw [numAt_eq]; exact PySem.getD_mem (by rw [List.length_map, Array.length_toList]; omega)
  · obtain ⟨j, hj, rfl⟩ := mem_getD ha
    rw [List.length_map, Array.length_toList] at hj
    rw [← numAt_eq]; exact g2 j (by omega)
theorem min_tupR (hd : A.handled = none) (hl : s.heap.IsTuple t its.toArray) (hi : IntsAre its ns) (hne : 0 < ns.length)
    (h : ∀ h' tk M t', (∀ b o, s.heap.get? b = some o → h'.get? b = some o) → M ∈ ns → (∀ a, a ∈ ns → M ≤ a) → Q (.int M t') { s with heap := h', toks := tk }) : wpAny (model P w) A (call (.builtin "min") [.ref t]) Q E s := by
  obtain ⟨ys, e⟩ := hi.allInts.items
  have hn : numsOf (intItems ys).toList = ns := by rw [← e]; exact hi.numsOf
  rw [nums_intItems] at hn
  subst hn
  rw [e] at hl
  have sz : 0 < ys.size := by simpa using hne
  refine min_tupI hd hl sz fun v h' tk hv hk => ?_
  obtain ⟨u, rfl⟩ := intItems_at hv
  obtain ⟨g1, g2⟩ := argBest_lt (numAt ys) (ys.size - 1)
  refine h h' tk _ u hk ?_ fun a ha => ?_
  · rw [numAt_eq]; exact PySem.getD_mem (by rw [List.length_map, Array.length_toList]; omega)
  · obtain ⟨j, hj, rfl⟩ := mem_getD ha
    rw [List.length_map, Array.length_toList] at hj
    rw [← numAt_eq]; exact g2 j (by omega)
end
section
variable {X : Cx}
def rMaxT (K : PySem.W.Frag) : List V → Hp → VK → Prop := fun vs H Q => ∃ (p : Addr) (ns : List Int), vs = [V.ref p] ∧ SqT K H p (ns.map V.int) ∧ 0 < ns.length ∧ ∀ m, m ∈ ns → (∀ y, y ∈ ns → y ≤ m) → Q (.int m) H
def rMinT (K : PySem.W.Frag) : List V → Hp → VK → Prop := fun vs H Q => ∃ (p : Addr) (ns : List Int), vs = [V.ref p] ∧ SqT K H p (ns.map V.int) ∧ 0 < ns.length ∧ ∀ m, m ∈ ns → (∀ y, y ∈ ns → m ≤ y) → Q (.int m) H
theorem cr_maxT (hc : X.calm = true) : CallR X (.builtin "max") (rMaxT X.K) := by
  intro pins s σ H vs us Q I r h
  obtain ⟨p, ns, rfl, hs, hne, q⟩ := h
  obtain ⟨its, rv, ht, _⟩ := I.tuple hs
  rw [Vals.ref1 r]
  exact max_tupR (I.ok.hd hc) ht rv.ints hne fun h' tk m t' hk g1 g2 => ⟨.int _, H, I.kept hk, ⟨_, rfl⟩, q m g1 g2⟩
theorem cr_minT (hc : X.calm = true) : CallR X (.builtin "min") (rMinT X.K) := by
  intro pins s σ H vs us Q I r h
  obtain ⟨p, ns, rfl, hs, hne, q⟩ := h
  obtain ⟨its, rv, ht, _⟩ := I.tuple hs
  rw [Vals.ref1 r]
  exact min_tupR (I.ok.hd hc) ht rv.ints hne fun h' tk m t' hk g1 g2 => ⟨.int _, H, I.kept hk, ⟨_, rfl⟩, q m g1 g2⟩
end
end TW

/-! ## the operations' readings -/
namespace TW
open PySem L2
/-- what a law's defs lean on -/
structure Ctx where
  K : PySem.W.Frag
  T : List NdefX.NTab
  Φ : Nat → FnSem
/-- the refusals' classes -/
abbrev Ctx.cls (C : Ctx) (c : Nat) : Addr := exA C.K c
def CMulX (i j : Int) : Prop := IntMulOk i j
theorem mulOk_ok {i j : Int} (h : mulOk i j = true) : CMulX i j := by
  have b : ∀ x : Int, Builtin.Int.intBits x ≤ x.natAbs.log2 + 1 := fun x => by
    unfold Builtin.Int.intBits
    split <;> omega
  have h1 := b i
  have h2 := b j
  have h3 : i.natAbs.log2 + j.natAbs.log2 < 50000000 := of_decide_eq_true h
  have e : bitsLine = 134217728 := by decide
  unfold CMulX IntMulOk
  intro z
  rw [Bool.and_eq_true] at z
  have z2 := z.2
  unfold Builtin.Int.intTooBig at z2
  have z3 := of_decide_eq_true z2
  rw [e] at z3
  omega
theorem op_mulX {X : Cx} : OpR X (binaryOp .Mult) (rI CMulX fun i j => .int (i * j)) := opI fun _ _ _ _ _ _ _ hc q => PyProof.Rows.mul_int q hc
/-- len of anything -/
def rLenA (K : PySem.W.Frag) : List V → Hp → VK → Prop := fun xs H Q =>
  (∃ p ys, xs = [.ref p] ∧ (SqL K H p ys ∨ SqT K H p ys) ∧ Q (.int ys.length) H) ∨ (∃ z, xs = [.str z] ∧ z.length ≤ sizeLine ∧ Q (.int z.length) H) ∨ ∃ a kvs, xs = [V.ref a] ∧ Rd H a (.dK kvs) ∧ Q (.int kvs.length) H
theorem call_lenR {X : Cx} : CallR X (.builtin "len") (fun xs H Q => ∃ a kvs, xs = [V.ref a] ∧ Rd H a (.dK kvs) ∧ Q (.int kvs.length) H) := by
  intro pins s σ H xs us Q I r h
  obtain ⟨a, kvs, rfl, ha, q⟩ := h
  obtain ⟨u, rfl, ru⟩ := vals1 r
  cases ru
  exact d_len I ha fun t s' I' => ⟨.int kvs.length, H, I', ⟨t, rfl⟩, q⟩
theorem call_lenA {X : Cx} : CallR X (.builtin "len") (rLenA X.K) := call_len_seq.or (call_len_str.or call_lenR)
/-- sorted(set(xs)), len(set(xs)) of ints, len(set(bs)) of truths -/
def rSortSet (K : PySem.W.Frag) : V → Hp → VK → Prop := fun x H Q => ∃ (a : Addr) (ns : List Int), x = .ref a ∧ SqL K H a (ns.map V.int) ∧ ns.length < 4000 ∧ (dedup ns).length < 4000 ∧ ∀ p, H p = none → Q (.ref p) (upd H p (.lst ((isort (dedup ns)).map V.int)))
def rLenSet (K : PySem.W.Frag) : V → Hp → VK → Prop := fun x H Q => ∃ (a : Addr) (ns : List Int), x = .ref a ∧ SqL K H a (ns.map V.int) ∧ ns.length < 4000 ∧ Q (.int (dedup ns).length) H
def rLenSetB (K : PySem.W.Frag) : V → Hp → VK → Prop := fun x H Q => ∃ (a : Addr) (bs : List Bool), x = .ref a ∧ SqL K H a (bs.map V.bl) ∧ Q (.int (bit (bs.contains true) + bit (bs.contains false))) H
/-- isinstance(x, T) -/
def isT (K : PySem.W.Frag) (T : String) : V → Hp → VK → Prop := fun x H Q => ∃ t, TyX K H x (.type t) ∧ t ∈ ["NoneType", "bool", "int", "str", "list", "tuple", "dict"] ∧ Q (.bl (t == T || (t == "bool" && T == "int"))) H
/-- xs.count(True) -/
def rCntB (K : PySem.W.Frag) : V → List V → Hp → VK → Prop := fun x xs H Q => ∃ (p : Addr) (ns : List Bool) (k : Bool), x = .ref p ∧ xs = [.bl k] ∧ SqL K H p (ns.map V.bl) ∧ Q (.int (ns.count k : Nat)) H
/-- isinstance(x, (..)) of a refusal that was caught, of None; a tuple may be laid -/
def rIsX (K : PySem.W.Frag) (cs : List Nat) : V → Hp → VK → Prop := fun x H Q => ∃ b, ((∃ a c, x = .ref a ∧ c < 14 ∧ H a = some (ExA (exA K c) a) ∧ b = cs.any fun j => isSub c j) ∨ (x = .non ∧ b = false)) ∧ Q (.bl b) H ∧ ∀ q xs, H q = none → Q (.bl b) (upd H q (.tup xs))
def rMaxD (K : PySem.W.Frag) : R2 := fun x y H Q => ∃ (a : Addr) (ns : List Int) (d : Int), x = .ref a ∧ y = .int d ∧ SqL K H a (ns.map V.int) ∧ Q (.int (match ns with | [] => d | m :: r => maxI m r)) H
def rMinD (K : PySem.W.Frag) : R2 := fun x y H Q => ∃ (a : Addr) (ns : List Int) (d : Int), x = .ref a ∧ y = .int d ∧ SqL K H a (ns.map V.int) ∧ Q (.int (match ns with | [] => d | m :: r => minI m r)) H
def r1 (K : PySem.W.Frag) : Op1 → V → Hp → VK → Prop
  | .len, x, H, Q => rLenA K [x] H Q
  | .neg, x, H, Q => rU (fun i => .int (-i)) x H Q
  | .toInt, x, H, Q => (∃ i, [x] = [V.int i] ∧ Q (.int i) H) ∨ ∃ k, [x] = [V.bl k] ∧ Q (.int (if k then 1 else 0)) H
  | .abs, x, H, Q => ∃ i, [x] = [V.int i] ∧ Q (.int (if i < 0 then -i else i)) H
  | .sumL, x, H, Q => rSum K [x] H Q
  | .maxL, x, H, Q => rMax K [x] H Q ∨ rMaxT K [x] H Q
  | .minL, x, H, Q => rMin K [x] H Q ∨ rMinT K [x] H Q
  | .sortL, x, H, Q => rSortedI K [x] H Q
  | .sortP, x, H, Q => rSortedPO K [x] H Q
  | .sortSet, x, H, Q => rSortSet K x H Q
  | .lenSet, x, H, Q => rLenSet K x H Q
  | .lenSetB, x, H, Q => rLenSetB K x H Q
  | .allL, x, H, Q => rAll K [x] H Q
  | .anyL, x, H, Q => rAny K [x] H Q
  | .listL, x, H, Q => ∃ p ys, [x] = [V.ref p] ∧ (SqL K H p ys ∨ SqT K H p ys) ∧ ∀ l, H l = none → Q (.ref l) (upd H l (.lst ys))
  | .listK, x, H, Q => rListD [x] H Q
  | .sortK, x, H, Q => ∃ (a : Addr) (kvs : List (Key × V)) (ks : List Int), [x] = [V.ref a] ∧ Rd H a (.dK kvs) ∧ kvs.map (·.1) = ks.map Sum.inl ∧ ks.length < 64 ∧ ∀ (ys : List Int) (p : Addr), ys.Perm ks → ys.Pairwise (· ≤ ·) → H p = none → Q (.ref p) (upd H p (.lst (ys.map V.int)))
  | .revL, x, H, Q => ∃ a xs, x = V.ref a ∧ SqL K H a xs ∧ ∀ p, H p = none → Q (.ref p) (upd H p (.lst xs.reverse))
  | .isN, x, H, Q => Q (.bl (decide (x = .non))) H
  | .notN, x, H, Q => Q (.bl (!decide (x = .non))) H
  | .sc, x, H, Q => Q x H
  | .scl, x, H, Q => Q x H
  | .opq, x, H, Q => Q x H
  | .rngL, x, H, Q => ∃ n, x = V.int n ∧ RgOk 0 n ∧ ∀ q, H q = none → Q (.ref q) (upd H q (.lst (rgV 0 n)))
  | .isInt, x, H, Q => isT K "int" x H Q
  | .isBool, x, H, Q => isT K "bool" x H Q
  | .isList, x, H, Q => isT K "list" x H Q
  | .isStr, x, H, Q => isT K "str" x H Q
  | .isTup, x, H, Q => isT K "tuple" x H Q
  | .isX cs, x, H, Q => rIsX K cs x H Q
def r2 (K : PySem.W.Frag) : Op2 → R2
  | .addI => rI0 fun i j => .int (i + j)
  | .subI => rI0 fun i j => .int (i - j)
  | .mulI => rI CMulX fun i j => .int (i * j)
  | .fdiv => rI CDivW fun i j => .int (i / j)
  | .mod => rI (fun _ j => 0 < j) fun i j => .int (i % j)
  | .pow => rI CPow fun i j => .int (i ^ j.toNat)
  | .cat => rCat
  | .rep => rRep
  | .addS => fun x y H Q => ∃ i j, x = .str i ∧ y = .str j ∧ i.length + j.length ≤ sizeLine ∧ Q (.str (i ++ j)) H
  | .lt => rI0 fun i j => .bl (decide (i < j))
  | .le => rI0 fun i j => .bl (decide (i ≤ j))
  | .gt => rI0 fun i j => .bl (decide (j < i))
  | .ge => rI0 fun i j => .bl (decide (j ≤ i))
  | .eqI => rEq
  | .neI => rNe
  | .eqD => rEqD K
  | .neD => rNeD K
  | .inL | .inT => rIn K false
  | .ninL | .ninT => rIn K true
  | .inD => rInD K
  | .ninD => rNotInD K
  | .inK => fun y x H Q => ∃ a o, x = .ref a ∧ DGet H a y o ∧ Q (.bl o.isSome) H
  | .ninK => fun y x H Q => ∃ a o, x = .ref a ∧ DGet H a y o ∧ Q (.bl (!o.isSome)) H
  | .max2 => fun x y H Q => ∃ i j, [x, y] = [V.int i, V.int j] ∧ Q (.int (if j > i then j else i)) H
  | .min2 => fun x y H Q => ∃ i j, [x, y] = [V.int i, V.int j] ∧ Q (.int (if j < i then j else i)) H
  | .maxD => rMaxD K
  | .minD => rMinD K
  | .subL => rIxL K
  | .subT => rIxT K
  | .subK | .subP => fun x y H Q => ∃ a v, x = .ref a ∧ DGet H a y (some v) ∧ Q v H
  | .subS => rIxS
  | .slcLo => fun x y H Q => ∃ i, y = .int i ∧ rSlL K x (some i) none H Q
  | .slcHi => fun x y H Q => ∃ i, y = .int i ∧ rSlL K x none (some i) H Q
  | .idx => fun x y H Q => rIndex K x [y] H Q
  | .cnt => fun x y H Q => rCntI K x [y] H Q
  | .cntB => fun x y H Q => rCntB K x [y] H Q
/-! texts -/
def rT1 : T1 → V → Hp → VK → Prop
  | .strI, x, H, Q => ∃ i, [x] = [V.int i] ∧ i.natAbs.log2 < 1920 ∧ Q (.str (toString i)) H
  | .intS, x, H, Q => ∃ a n, [x] = [V.str a] ∧ PySem.intText? a = some n ∧ a.length ≤ 640 ∧ Q (.int n) H
  | .upper, x, H, Q => (∃ a, x = .str a) ∧ ∃ a, x = .str a ∧ ([] : List V) = [] ∧ a.length ≤ 5592405 ∧ Q (.str (Txt.upper a)) H
def rT2 (K : PySem.W.Frag) : T2 → R2
  | .inS => fun x y H Q => ∃ (c : Nat) (z : Str), x = .str ⟨#[c]⟩ ∧ y = .str z ∧ Q (.bl (decide (c ∈ z.cps.toList))) H
  | .ninS => fun x y H Q => ∃ (c : Nat) (z : Str), x = .str ⟨#[c]⟩ ∧ y = .str z ∧ Q (.bl (!decide (c ∈ z.cps.toList))) H
  | .starts => fun x y H Q => ∃ a b, x = .str a ∧ [y] = [.str b] ∧ Q (.bl (Txt.startswith a b)) H
  | .split => fun x y H Q => ∃ a b, x = .str a ∧ [y] = [.str b] ∧ (b.length == 0) = false ∧ a.length + 2 ≤ sizeLine ∧ rNewStrs (Txt.split a b) H Q
  | .join => fun x y H Q => ∃ a p, ∃ ys : List Str, x = .str a ∧ [y] = [.ref p] ∧ (SqL K H p (ys.map V.str) ∨ SqT K H p (ys.map V.str)) ∧ (ys.map (·.length)).sum + ys.length * a.length ≤ 16777216 ∧ Q (.str (Txt.join a ys)) H
  | .lo => fun x y H Q => ∃ i, y = .int i ∧ rSlS x (some i) none H Q
  | .hi => fun x y H Q => ∃ i, y = .int i ∧ rSlS x none (some i) H Q
def andIf (b : Bool) (p q : Prop) : Prop := match b with
  | true => p ∧ q
  | false => q
/-! ### small facts -/
theorem ints_some : ∀ {ds : List D} {ns : List Int}, ints? ds = some ns → ds = ns.map D.int
  | [], ns, h => by simp only [ints?, Option.some.injEq] at h; subst h; rfl
  | d :: r, ns, h => by
    cases d <;> simp only [ints?, reduceCtorEq, Option.map_eq_some_iff] at h
    obtain ⟨m, h1, rfl⟩ := h
    rw [ints_some h1]; rfl
theorem bools_some : ∀ {ds : List D} {ns : List Bool}, bools? ds = some ns → ds = ns.map D.bl
  | [], ns, h => by simp only [bools?, Option.some.injEq] at h; subst h; rfl
  | d :: r, ns, h => by
    cases d <;> simp only [bools?, reduceCtorEq, Option.map_eq_some_iff] at h
    obtain ⟨m, h1, rfl⟩ := h
    rw [bools_some h1]; rfl
theorem bools_holds {K : PySem.W.Frag} {B : Hp} : ∀ {ns : List Bool} {xs : List V}, holds K B (ns.map D.bl) xs → xs = ns.map V.bl
  | [], _, h => by simp only [List.map_nil, holds] at h; exact h
  | n :: ns, _, h => by
    simp only [List.map_cons, holds, hold] at h
    obtain ⟨x, r, e1, e2, e3⟩ := h
    subst e1; subst e2
    rw [bools_holds e3]; rfl
theorem maxI_spec : ∀ (r : List Int) (m : Int), maxI m r ∈ m :: r ∧ ∀ y ∈ m :: r, y ≤ maxI m r
  | [], m => ⟨List.mem_cons_self, fun y h => by simp only [List.mem_singleton] at h; rw [h]; exact Int.le_refl _⟩
  | x :: r, m => by
    simp only [maxI]
    obtain ⟨h1, h2⟩ := maxI_spec r (if m < x then x else m)
    have hm : (if m < x then x else m) = m ∨ (if m < x then x else m) = x := by split <;> simp
    refine ⟨?_, fun y hy => ?_⟩
    · rcases List.mem_cons.mp h1 with e | e
      · rcases hm with q | q <;> rw [e, q] <;> simp
      · exact List.mem_cons_of_mem _ (List.mem_cons_of_mem _ e)
    · have g := h2 (if m < x then x else m) List.mem_cons_self
      rcases List.mem_cons.mp hy with e | e
      · subst e; revert g; split <;> intro g <;> omega
      · rcases List.mem_cons.mp e with e | e
        · subst e; revert g; split <;> intro g <;> omega
        · exact h2 y (List.mem_cons_of_mem _ e)
theorem minI_spec : ∀ (r : List Int) (m : Int), minI m r ∈ m :: r ∧ ∀ y ∈ m :: r, minI m r ≤ y
  | [], m => ⟨List.mem_cons_self, fun y h => by simp only [List.mem_singleton] at h; rw [h]; exact Int.le_refl _⟩
  | x :: r, m => by
    simp only [minI]
    obtain ⟨h1, h2⟩ := minI_spec r (if x < m then x else m)
    have hm : (if x < m then x else m) = m ∨ (if x < m then x else m) = x := by split <;> simp
    refine ⟨?_, fun y hy => ?_⟩
    · rcases List.mem_cons.mp h1 with e | e
      · rcases hm with q | q <;> rw [e, q] <;> simp
      · exact List.mem_cons_of_mem _ (List.mem_cons_of_mem _ e)
    · have g := h2 (if x < m then x else m) List.mem_cons_self
      rcases List.mem_cons.mp hy with e | e
      · subst e; revert g; split <;> intro g <;> omega
      · rcases List.mem_cons.mp e with e | e
        · subst e; revert g; split <;> intro g <;> omega
        · exact h2 y (List.mem_cons_of_mem _ e)
theorem ins_perm (x : Int) : ∀ l : List Int, (ins x l).Perm (x :: l)
  | [] => .refl _
  | y :: r => by
    unfold ins
    split
    · exact .refl _
    · exact ((ins_perm x r).cons y).trans (.swap x y r)
theorem isort_perm : ∀ l : List Int, (isort l).Perm l
  | [] => .refl _
  | x :: r => (ins_perm x _).trans ((isort_perm r).cons x)
theorem ins_sorted (x : Int) : ∀ {l : List Int}, l.Pairwise (· ≤ ·) → (ins x l).Pairwise (· ≤ ·)
  | [], _ => by simp [ins]
  | y :: r, h => by
    rw [List.pairwise_cons] at h
    unfold ins
    split
    · rename_i c
      rw [List.pairwise_cons]
      refine ⟨fun z hz => ?_, List.pairwise_cons.mpr h⟩
      rcases List.mem_cons.mp hz with e | e
      · rw [e]; exact c
      · exact Int.le_trans c (h.1 z e)
    · rename_i c
      rw [List.pairwise_cons]
      refine ⟨fun z hz => ?_, ins_sorted x h.2⟩
      rcases List.mem_cons.mp ((ins_perm x r).mem_iff.mp hz) with e | e
      · rw [e]; omega
      · exact h.1 z e
theorem isort_sorted : ∀ l : List Int, (isort l).Pairwise (· ≤ ·)
  | [] => List.Pairwise.nil
  | x :: r => ins_sorted x (isort_sorted r)
theorem sorted_eq : ∀ {l m : List Int}, l.Perm m → l.Pairwise (· ≤ ·) → m.Pairwise (· ≤ ·) → l = m
  | [], m, p, _, _ => p.nil_eq
  | x :: l, [], p, _, _ => p.eq_nil
  | x :: l, y :: m, p, h, g => by
    rw [List.pairwise_cons] at h g
    have e : x = y := by
      have h1 : x ≤ y := by
        rcases List.mem_cons.mp (p.mem_iff.mpr (List.mem_cons_self (a := y) (l := m))) with e | e
        · rw [e]; exact Int.le_refl _
        · exact h.1 y e
      have h2 : y ≤ x := by
        rcases List.mem_cons.mp (p.mem_iff.mp (List.mem_cons_self (a := x) (l := l))) with e | e
        · rw [e]; exact Int.le_refl _
        · exact g.1 x e
      omega
    subst e
    rw [sorted_eq (p.cons_inv) h.2 g.2]
theorem isort_of {l m : List Int} (p : m.Perm l) (h : m.Pairwise (· ≤ ·)) : m = isort l := sorted_eq (p.trans (isort_perm l).symm) h (isort_sorted l)
theorem ixAt_eq (n : Nat) (i : Int) : ixAt n i = ixN n i := rfl
theorem nth_eq {α : Type} (xs : List α) (i : Int) : nth xs i = atI xs i := rfl
theorem clip_le (n d : Nat) (hd : d ≤ n) (o : Option Int) : clip n d o = HT.sIx n d o := by
  cases o with
  | none => rfl
  | some i =>
    unfold clip HT.sIx
    first
    | rfl
    | (split <;> rename_i h <;> simp only [h, if_true, if_false, ite_true, ite_false] <;> omega)
    | (split <;> omega)
end TW

/-! ## each operation's reading holds where it is reckoned -/
namespace TW
open PySem L2
inductive Cl where
  | sc | new | fresh | kid | same | up
  deriving DecidableEq
def Op1.cl : Op1 → Cl
  | .listL | .revL | .sortP => .new
  | .listK | .sortK | .sortL | .sortSet | .rngL => .fresh
  | .sc | .scl | .opq => .same
  | .isX _ => .up
  | _ => .sc
def Op2.cl : Op2 → Cl
  | .cat | .rep | .slcLo | .slcHi => .new
  | .subL | .subT | .subK | .subP => .kid
  | _ => .sc
theorem szl {n : Nat} (h : n ≤ lim) : n ≤ sizeLine := Nat.le_trans h (by decide)
theorem okA_some {d x : D} {b : Bool} (h : okA d b = .ok x) : d ≠ .any ∧ x = .bl b := by
  cases d <;> simp only [okA, okB, Res.ok.injEq, reduceCtorEq] at h <;> exact ⟨by simp, h.symm⟩
theorem dec_none {d : D} {v : V} {K : PySem.W.Frag} {B H : Hp} (hn : d ≠ .any) (h : hold1 K B H d v) : decide (v = .non) = d.isNon := by
  cases d <;> simp only [hold1, scV, Option.some.injEq] at h
  case any => exact absurd rfl hn
  case non | bl | int | str => subst h; rfl
  case lst | tup | dic | dct => obtain ⟨p, _, rfl, _⟩ := h; rfl
  case exn => obtain ⟨p, rfl, _⟩ := h; rfl
  case scr => obtain ⟨p, rfl, _⟩ := h; rfl
theorem scr_ty {K : PySem.W.Frag} {H : Hp} {p : Addr} {xs : List V} (h : SqL K H p xs) : TyX K H (.ref p) (.type "list") := by
  rcases h with (h | ⟨o, h⟩) | ⟨o, its, n, h, c, _⟩
  · exact .base (.lst h)
  · exact .base (.frz h)
  · exact .kList h c
def tyD : D → String
  | .non => "NoneType" | .bl _ => "bool" | .int _ => "int" | .str _ => "str" | .lst _ => "list" | .tup _ => "tuple" | .dic _ => "dict" | .dct _ => "dict" | .scr _ => "list" | .any => "" | .exn _ => ""
theorem okT_some {d x : D} {b : Bool} (h : okT d b = .ok x) : d ≠ .any ∧ (∀ c, d ≠ .exn c) ∧ x = .bl b := by
  cases d <;> simp only [okT, okB, Res.ok.injEq, reduceCtorEq] at h <;> exact ⟨by simp, by simp, h.symm⟩
theorem ty_of {K : PySem.W.Frag} {B H : Hp} {d : D} {v : V} (hn : d ≠ .any) (hx : ∀ c, d ≠ .exn c) (h : hold1 K B H d v) : TyX K H v (.type (tyD d)) := by
  cases d <;> simp only [hold1, scV, Option.some.injEq] at h
  case any => exact absurd rfl hn
  case exn => exact absurd rfl (hx _)
  case non => subst h; exact .base .non
  case bl => subst h; exact .base (.bl _)
  case int => subst h; exact .base (.int _)
  case str => subst h; exact .base (.str _)
  case lst => obtain ⟨p, _, rfl, e, _⟩ := h; exact .base (.lst e)
  case tup => obtain ⟨p, _, rfl, e, _⟩ := h; exact .base (.tup e)
  case dic =>
    obtain ⟨p, _, rfl, e, _⟩ := h
    rcases e with e | ⟨o, e⟩
    · exact .base (.dK e)
    · exact .fDict e
  case dct => obtain ⟨p, _, rfl, e, _⟩ := h; exact .base (.dT e)
  case scr => obtain ⟨p, rfl, e⟩ := h; exact scr_ty e
theorem bool_bit (b : Bool) : (if b then (1 : Int) else 0) = bit b := rfl
/-- the list that a value is -/
theorem lst_at {K : PySem.W.Frag} {B H : Hp} {ds : List D} {v : V} (h : hold1 K B H (.lst ds) v) : ∃ p xs, v = .ref p ∧ H p = some (.lst xs) ∧ holds K B ds xs := h
theorem lst_ints {K : PySem.W.Frag} {B H : Hp} {ds : List D} {ns : List Int} {v : V} (h : hold1 K B H (.lst ds) v) (e : ints? ds = some ns) : ∃ p, v = .ref p ∧ SqL K H p (ns.map V.int) := by
  obtain ⟨p, xs, rfl, e2, e3⟩ := h
  rw [ints_some e] at e3
  rw [ints_holds e3] at e2
  exact ⟨p, rfl, .of e2⟩
theorem tup_ints {K : PySem.W.Frag} {B H : Hp} {ds : List D} {ns : List Int} {v : V} (h : hold1 K B H (.tup ds) v) (e : ints? ds = some ns) : ∃ p, v = .ref p ∧ SqT K H p (ns.map V.int) := by
  obtain ⟨p, xs, rfl, e2, e3⟩ := h
  rw [ints_some e] at e3
  rw [ints_holds e3] at e2
  exact ⟨p, rfl, .inl (.inl e2)⟩
theorem lst_bools {K : PySem.W.Frag} {B H : Hp} {ds : List D} {ns : List Bool} {v : V} (h : hold1 K B H (.lst ds) v) (e : bools? ds = some ns) : ∃ p, v = .ref p ∧ SqL K H p (ns.map V.bl) := by
  obtain ⟨p, xs, rfl, e2, e3⟩ := h
  rw [bools_some e] at e3
  rw [bools_holds e3] at e2
  exact ⟨p, rfl, .of e2⟩
theorem holdK_length {K : PySem.W.Frag} {B : Hp} : ∀ {ks : List (Int × D)} {kvs : List (Key × V)}, holdK K B ks kvs → ks.length = kvs.length
  | [], _, h => by simp only [holdK] at h; subst h; rfl
  | (i, d) :: ks, _, h => by
    simp only [holdK] at h
    obtain ⟨x, r, rfl, _, e3⟩ := h
    simp only [List.length_cons, holdK_length e3]
theorem max_eq {ns : List Int} {m x : Int} {r : List Int} (hm : x ∈ m :: r) (h : ∀ y ∈ m :: r, y ≤ x) : x = maxI m r := by
  obtain ⟨h1, h2⟩ := maxI_spec r m
  have := h2 x hm
  have := h _ h1
  omega
theorem min_eq {ns : List Int} {m x : Int} {r : List Int} (hm : x ∈ m :: r) (h : ∀ y ∈ m :: r, x ≤ y) : x = minI m r := by
  obtain ⟨h1, h2⟩ := minI_spec r m
  have := h2 x hm
  have := h _ h1
  omega
section
variable {K : PySem.W.Frag} {B H : Hp}
theorem op1_sc {o : Op1} {d x : D} {v : V} (hc : o.cl = .sc) (hr : o.run d = .ok x) (h : hold1 K B H d v) : ∃ w, scV x = some w ∧ ∀ Q : VK, Q w H → r1 K o v H Q := by
  cases o <;> simp only [Op1.cl, reduceCtorEq] at hc
  case len =>
    cases d <;> simp only [Op1.run, reduceCtorEq, okI, Res.ok.injEq] at hr
    case lst ds =>
      subst hr
      obtain ⟨p, xs, rfl, e2, e3⟩ := h
      exact ⟨_, rfl, fun Q q => .inl ⟨p, xs, rfl, .inl (.of e2), by rw [← holds_length e3]; exact q⟩⟩
    case tup ds =>
      subst hr
      obtain ⟨p, xs, rfl, e2, e3⟩ := h
      exact ⟨_, rfl, fun Q q => .inl ⟨p, xs, rfl, .inr (.of e2), by rw [← holds_length e3]; exact q⟩⟩
    case dic ks =>
      subst hr
      obtain ⟨p, kvs, rfl, e2, e3⟩ := h
      exact ⟨_, rfl, fun Q q => .inr (.inr ⟨p, kvs, rfl, e2, by rw [← holdK_length e3]; exact q⟩)⟩
    case scr ns =>
      subst hr
      obtain ⟨p, rfl, e2⟩ := h
      exact ⟨_, rfl, fun Q q => .inl ⟨p, _, rfl, .inl e2, by rw [List.length_map]; exact q⟩⟩
    case str s =>
      split at hr
      · rename_i hl
        injection hr with hr
        subst hr
        simp only [hold1, scV, Option.some.injEq] at h
        subst h
        exact ⟨_, rfl, fun Q q => .inr (.inl ⟨s, rfl, szl hl, q⟩)⟩
      · cases hr
  case neg =>
    cases d <;> simp only [Op1.run, reduceCtorEq, okI, Res.ok.injEq] at hr
    subst hr
    simp only [hold1, scV, Option.some.injEq] at h
    exact ⟨_, rfl, fun Q q => ⟨_, h.symm, q⟩⟩
  case toInt =>
    cases d <;> simp only [Op1.run, reduceCtorEq, okI, Res.ok.injEq] at hr
    case bl b =>
      subst hr
      simp only [hold1, scV, Option.some.injEq] at h
      subst h
      exact ⟨_, rfl, fun Q q => .inr ⟨b, rfl, q⟩⟩
    case int i =>
      subst hr
      simp only [hold1, scV, Option.some.injEq] at h
      subst h
      exact ⟨_, rfl, fun Q q => .inl ⟨i, rfl, q⟩⟩
  case abs =>
    cases d <;> simp only [Op1.run, reduceCtorEq, okI, Res.ok.injEq] at hr
    subst hr
    simp only [hold1, scV, Option.some.injEq] at h
    subst h
    exact ⟨_, rfl, fun Q q => ⟨_, rfl, q⟩⟩
  case sumL =>
    cases d <;> simp only [Op1.run, reduceCtorEq] at hr
    split at hr <;> simp only [reduceCtorEq, okI, Res.ok.injEq] at hr
    rename_i ns e
    subst hr
    obtain ⟨p, rfl, e2⟩ := lst_ints h e
    exact ⟨_, rfl, fun Q q => ⟨p, ns, rfl, e2, q⟩⟩
  case maxL =>
    cases d <;> simp only [Op1.run, reduceCtorEq] at hr
    · split at hr <;> simp only [reduceCtorEq, okI, Res.ok.injEq] at hr
      rename_i m r e
      subst hr
      obtain ⟨p, rfl, e2⟩ := lst_ints h e
      exact ⟨_, rfl, fun Q q => .inl ⟨p, m :: r, rfl, e2, Nat.succ_pos _, fun x hx hy => by rw [max_eq (ns := []) hx hy]; exact q⟩⟩
    · split at hr <;> simp only [reduceCtorEq, okI, Res.ok.injEq] at hr
      rename_i m r e
      subst hr
      obtain ⟨p, rfl, e2⟩ := tup_ints h e
      exact ⟨_, rfl, fun Q q => .inr ⟨p, m :: r, rfl, e2, Nat.succ_pos _, fun x hx hy => by rw [max_eq (ns := []) hx hy]; exact q⟩⟩
  case minL =>
    cases d <;> simp only [Op1.run, reduceCtorEq] at hr
    · split at hr <;> simp only [reduceCtorEq, okI, Res.ok.injEq] at hr
      rename_i m r e
      subst hr
      obtain ⟨p, rfl, e2⟩ := lst_ints h e
      exact ⟨_, rfl, fun Q q => .inl ⟨p, m :: r, rfl, e2, Nat.succ_pos _, fun x hx hy => by rw [min_eq (ns := []) hx hy]; exact q⟩⟩
    · split at hr <;> simp only [reduceCtorEq, okI, Res.ok.injEq] at hr
      rename_i m r e
      subst hr
      obtain ⟨p, rfl, e2⟩ := tup_ints h e
      exact ⟨_, rfl, fun Q q => .inr ⟨p, m :: r, rfl, e2, Nat.succ_pos _, fun x hx hy => by rw [min_eq (ns := []) hx hy]; exact q⟩⟩
  case lenSet =>
    cases d <;> simp only [Op1.run, reduceCtorEq] at hr
    split at hr <;> try (simp only [reduceCtorEq] at hr)
    rename_i ns e
    split at hr <;> simp only [reduceCtorEq, okI, Res.ok.injEq] at hr
    rename_i hl
    subst hr
    obtain ⟨p, rfl, e2⟩ := lst_ints h e
    exact ⟨_, rfl, fun Q q => ⟨p, ns, rfl, e2, hl, q⟩⟩
  case lenSetB =>
    cases d <;> simp only [Op1.run, reduceCtorEq] at hr
    split at hr <;> simp only [reduceCtorEq, okI, Res.ok.injEq] at hr
    rename_i ns e
    subst hr
    obtain ⟨p, rfl, e2⟩ := lst_bools h e
    exact ⟨_, rfl, fun Q q => ⟨p, ns, rfl, e2, q⟩⟩
  case allL =>
    cases d <;> simp only [Op1.run, reduceCtorEq] at hr
    split at hr <;> simp only [reduceCtorEq, okB, Res.ok.injEq] at hr
    rename_i ns e
    subst hr
    obtain ⟨p, rfl, e2⟩ := lst_bools h e
    exact ⟨_, rfl, fun Q q => ⟨p, ns, rfl, e2, q⟩⟩
  case anyL =>
    cases d <;> simp only [Op1.run, reduceCtorEq] at hr
    split at hr <;> simp only [reduceCtorEq, okB, Res.ok.injEq] at hr
    rename_i ns e
    subst hr
    obtain ⟨p, rfl, e2⟩ := lst_bools h e
    exact ⟨_, rfl, fun Q q => ⟨p, ns, rfl, e2, q⟩⟩
  case isN =>
    simp only [Op1.run] at hr
    obtain ⟨hn, rfl⟩ := okA_some hr
    refine ⟨_, rfl, fun Q q => ?_⟩
    show Q (.bl (decide (v = .non))) H
    rw [dec_none hn h]; exact q
  case notN =>
    simp only [Op1.run] at hr
    obtain ⟨hn, rfl⟩ := okA_some hr
    refine ⟨_, rfl, fun Q q => ?_⟩
    show Q (.bl (!decide (v = .non))) H
    rw [dec_none hn h]; exact q
  all_goals
    simp only [Op1.run] at hr
    obtain ⟨hn, hx, rfl⟩ := okT_some hr
    have ht := ty_of hn hx h
    refine ⟨_, rfl, fun Q q => ⟨tyD d, ht, by cases d <;> first | exact absurd rfl hn | exact absurd rfl (hx _) | simp [tyD], ?_⟩⟩
    cases d <;> first | exact absurd rfl hn | exact absurd rfl (hx _) | exact q
theorem pLe_total (a b : Int × Int) : pLe a b = true ∨ pLe b a = true := by
  unfold pLe
  simp only [decide_eq_true_eq]
  omega
theorem pLe_anti {a b : Int × Int} (h : pLe a b = true) (g : pLe b a = true) : a = b := by
  unfold pLe at h g
  simp only [decide_eq_true_eq] at h g
  obtain ⟨a1, a2⟩ := a
  obtain ⟨b1, b2⟩ := b
  simp only at h g
  have e1 : a1 = b1 := by omega
  have e2 : a2 = b2 := by omega
  rw [e1, e2]
theorem pLe_trans {a b c : Int × Int} (h : pLe a b = true) (g : pLe b c = true) : pLe a c = true := by
  unfold pLe at h g ⊢
  simp only [decide_eq_true_eq] at h g ⊢
  omega
theorem pins_perm (x : Int × Int) : ∀ l : List (Int × Int), (pins x l).Perm (x :: l)
  | [] => List.Perm.refl _
  | y :: l => by
    unfold pins
    split
    · exact List.Perm.refl _
    · exact (List.Perm.cons y (pins_perm x l)).trans (List.Perm.swap x y l)
theorem psort_perm : ∀ l : List (Int × Int), (psort l).Perm l
  | [] => List.Perm.refl _
  | x :: l => (pins_perm x _).trans (List.Perm.cons x (psort_perm l))
theorem pins_sorted (x : Int × Int) : ∀ {l : List (Int × Int)}, (l.Pairwise fun a b => pLe a b = true) → (pins x l).Pairwise fun a b => pLe a b = true
  | [], _ => List.pairwise_singleton _ _
  | y :: l, h => by
    unfold pins
    rw [List.pairwise_cons] at h
    split
    · rename_i c
      exact List.pairwise_cons.mpr ⟨fun z m => by
        rcases List.mem_cons.mp m with rfl | m
        · exact c
        · exact pLe_trans c (h.1 z m), List.pairwise_cons.mpr h⟩
    · rename_i c
      exact List.pairwise_cons.mpr ⟨fun z m => by
        rcases List.mem_cons.mp ((pins_perm x l).mem_iff.mp m) with rfl | m
        · exact (pLe_total z y).resolve_left c
        · exact h.1 z m, pins_sorted x h.2⟩
theorem psort_sorted : ∀ l : List (Int × Int), (psort l).Pairwise fun a b => pLe a b = true
  | [] => List.Pairwise.nil
  | x :: l => pins_sorted x (psort_sorted l)
theorem psort_uniq : ∀ {l m : List (Int × Int)}, l.Perm m → (l.Pairwise fun a b => pLe a b = true) → (m.Pairwise fun a b => pLe a b = true) → l = m
  | [], m, p, _, _ => p.symm.eq_nil.symm
  | x :: l, [], p, _, _ => absurd p.length_eq (by simp)
  | x :: l, y :: m, p, h, g => by
    rw [List.pairwise_cons] at h g
    have e : x = y := by
      rcases List.mem_cons.mp (p.mem_iff.mp (List.mem_cons_self (a := x) (l := l))) with e | mx
      · exact e
      rcases List.mem_cons.mp (p.mem_iff.mpr (List.mem_cons_self (a := y) (l := m))) with e | my
      · exact e.symm
      exact pLe_anti (h.1 y my) (g.1 x mx)
    subst e
    rw [psort_uniq p.cons_inv h.2 g.2]
/-- which pair a value is -/
def kP (B : Hp) : V → Int × Int
  | .ref t => match B t with
    | some (.tup [.int i, .int j]) => (i, j)
    | _ => (0, 0)
  | _ => (0, 0)
theorem pairs_at : ∀ {ds : List D} {ps : List (Int × Int)} {xs : List V}, pairs? ds = some ps → holds K B ds xs → xs.map (kP B) = ps ∧ ∀ x ∈ xs, ∃ t, x = V.ref t ∧ B t = some (.tup [.int (kP B x).1, .int (kP B x).2])
  | [], ps, xs, h, g => by
    simp only [pairs?, Option.some.injEq] at h
    simp only [holds] at g
    subst h; subst g
    exact ⟨rfl, fun x m => by cases m⟩
  | d :: r, ps, xs, h, g => by
    simp only [holds] at g
    obtain ⟨x, xr, rfl, g1, g2⟩ := g
    unfold pairs? at h
    split at h <;> try (simp only [reduceCtorEq] at h)
    · rename_i e; cases e
    · rename_i i j r' e
      cases e
      rw [Option.map_eq_some_iff] at h
      obtain ⟨qs, h1, rfl⟩ := h
      obtain ⟨i1, i2⟩ := pairs_at h1 g2
      simp only [hold] at g1
      obtain ⟨t, ys, rfl, b1, b2⟩ := g1
      simp only [holds] at b2
      obtain ⟨y1, yr, rfl, rfl, y2, yr2, rfl, rfl, rfl⟩ := b2
      have e : kP B (V.ref t) = (i, j) := by simp only [kP, b1]
      refine ⟨by rw [List.map_cons, e, i1], fun z m => ?_⟩
      rcases List.mem_cons.mp m with rfl | m
      · exact ⟨t, rfl, by rw [e]; exact b1⟩
      · exact i2 z m
theorem pairs_hold : ∀ {ys : List V}, (∀ x ∈ ys, ∃ t, x = V.ref t ∧ B t = some (.tup [.int (kP B x).1, .int (kP B x).2])) → holds K B ((ys.map (kP B)).map prD) ys
  | [], _ => rfl
  | y :: ys, h => by
    obtain ⟨t, e, b⟩ := h y (List.mem_cons_self ..)
    refine ⟨y, ys, rfl, ⟨t, _, e, b, ⟨_, _, rfl, rfl, _, _, rfl, rfl, rfl⟩⟩, pairs_hold fun x m => h x (List.mem_cons_of_mem _ m)⟩
theorem new_lst {o : Op1} {d x : D} {v : V} (hc : o.cl = .new) (hr : o.run d = .ok x) (h : hold1 K B H d v) (sb : ∀ a u, B a = some u → H a = some u) : ∃ ds, x = .lst ds ∧ ∀ Q : VK, (∀ xs p, holds K B ds xs → H p = none → Q (.ref p) (upd H p (.lst xs))) → r1 K o v H Q := by
  cases o <;> simp only [Op1.cl, reduceCtorEq] at hc
  case listL =>
    cases d <;> simp only [Op1.run, reduceCtorEq, Res.ok.injEq] at hr <;> subst hr
    case lst ds =>
      obtain ⟨p, xs, rfl, e2, e3⟩ := h
      exact ⟨ds, rfl, fun Q q => ⟨p, xs, rfl, .inl (.of e2), fun l hl => q xs l e3 hl⟩⟩
    case tup ds =>
      obtain ⟨p, xs, rfl, e2, e3⟩ := h
      exact ⟨ds, rfl, fun Q q => ⟨p, xs, rfl, .inr (.of e2), fun l hl => q xs l e3 hl⟩⟩
  case sortP =>
    cases d <;> simp only [Op1.run, reduceCtorEq] at hr
    split at hr <;> simp only [reduceCtorEq, Res.ok.injEq] at hr
    rename_i ps e
    subst hr
    obtain ⟨p, xs, rfl, e2, e3⟩ := h
    obtain ⟨k1, k2⟩ := pairs_at e e3
    refine ⟨_, rfl, fun Q q => ⟨p, xs, kP B, rfl, .of e2, fun y m => ?_, fun ys a hs hst ha => ?_⟩⟩
    · obtain ⟨t, y1, y2⟩ := k2 y m
      exact ⟨t, y1, sb t _ y2⟩
    · have e4 : ys.map (kP B) = psort ps := by
        refine psort_uniq ?_ ?_ (psort_sorted ps)
        · exact (hst.perm.map (kP B)).trans (by rw [k1]; exact (psort_perm ps).symm)
        · rw [List.pairwise_map]
          refine hs.imp fun {u w} z => ?_
          have z := SrtO.lexB_no.mp z
          unfold pLe
          simp only [decide_eq_true_eq]
          omega
      have := pairs_hold (K := K) (B := B) (ys := ys) fun y m => k2 y (hst.perm.mem_iff.mp m)
      rw [e4] at this
      exact q ys a this ha
  case revL =>
    cases d <;> simp only [Op1.run, reduceCtorEq, Res.ok.injEq] at hr <;> subst hr
    case lst ds =>
      obtain ⟨p, xs, rfl, e2, e3⟩ := h
      exact ⟨ds.reverse, rfl, fun Q q => ⟨p, xs, rfl, .of e2, fun l hl => q xs.reverse l (holds_reverse e3) hl⟩⟩
theorem rng_map (n : Int) : ((rng 0 n 1).map D.int) = (List.range n.toNat).map fun i => D.int (0 + (i : Nat)) := by
  unfold rng
  rw [if_pos (by decide), List.map_map]
  have e : ((n - 0 + 1 - 1) / 1).toNat = n.toNat := by rw [Int.ediv_one]; congr 1; omega
  rw [e]
  exact List.map_congr_left fun i _ => by simp
theorem holdK_keys : ∀ {ks : List (Int × D)} {kvs : List (Key × V)}, holdK K B ks kvs → (kvs.map fun kv => L2.kV kv.1) = (ks.map fun k => V.int k.1)
  | [], _, h => by simp only [holdK] at h; subst h; rfl
  | (i, d) :: ks, _, h => by
    simp only [holdK] at h
    obtain ⟨x, r, rfl, _, e3⟩ := h
    simp only [List.map_cons, holdK_keys e3]; rfl
theorem holdK_fst : ∀ {ks : List (Int × D)} {kvs : List (Key × V)}, holdK K B ks kvs → kvs.map (·.1) = ks.map fun k => Sum.inl k.1
  | [], _, h => by simp only [holdK] at h; subst h; rfl
  | (i, d) :: ks, _, h => by
    simp only [holdK] at h
    obtain ⟨x, r, rfl, _, e3⟩ := h
    simp only [List.map_cons, holdK_fst e3]
/-- a new list of scalars -/
theorem fresh_lst {o : Op1} {d x : D} {v : V} (hc : o.cl = .fresh) (hr : o.run d = .ok x) (h : hold1 K B H d v) (hd : o.onK = true → ∀ ks, d = .dic ks → ∃ p kvs, v = .ref p ∧ H p = some (.dK kvs) ∧ holdK K B ks kvs) :
    ∃ ns : List Int, x = .lst (ns.map D.int) ∧ ∀ Q : VK, (∀ p, H p = none → Q (.ref p) (upd H p (.lst (ns.map V.int)))) → r1 K o v H Q := by
  cases o <;> simp only [Op1.cl, reduceCtorEq] at hc
  case sortL =>
    cases d <;> simp only [Op1.run, reduceCtorEq] at hr
    split at hr <;> simp only [reduceCtorEq, Res.ok.injEq] at hr
    rename_i ns e
    subst hr
    obtain ⟨p, rfl, e2⟩ := lst_ints h e
    exact ⟨isort ns, rfl, fun Q q => ⟨p, ns, rfl, e2, fun ns' a hp hs ha => by rw [isort_of hp hs]; exact q a ha⟩⟩
  case sortSet =>
    cases d <;> simp only [Op1.run, reduceCtorEq] at hr
    split at hr <;> try (simp only [reduceCtorEq] at hr)
    rename_i ns e
    split at hr <;> simp only [reduceCtorEq, Res.ok.injEq] at hr
    rename_i hl
    subst hr
    obtain ⟨p, rfl, e2⟩ := lst_ints h e
    exact ⟨isort (dedup ns), rfl, fun Q q => ⟨p, ns, rfl, e2, hl.1, hl.2, q⟩⟩
  case listK =>
    cases d <;> simp only [Op1.run, reduceCtorEq, Res.ok.injEq] at hr
    rename_i ks
    subst hr
    obtain ⟨p, kvs, rfl, e2, e3⟩ := hd rfl ks rfl
    refine ⟨ks.map (·.1), by rw [List.map_map]; rfl, fun Q q => ⟨p, kvs, rfl, e2, fun a ha => ?_⟩⟩
    rw [holdK_keys e3]
    have := q a ha
    rw [List.map_map] at this
    exact this
  case sortK =>
    cases d <;> simp only [Op1.run, reduceCtorEq] at hr
    split at hr <;> simp only [reduceCtorEq, Res.ok.injEq] at hr
    rename_i ks hl
    subst hr
    obtain ⟨p, kvs, rfl, e2, e3⟩ := hd rfl ks rfl
    refine ⟨isort (ks.map (·.1)), rfl, fun Q q => ⟨p, kvs, ks.map (·.1), rfl, .inl e2, ?_, by simpa using hl, fun ys a hp hs ha => by rw [isort_of hp hs]; exact q a ha⟩⟩
    rw [List.map_map]; exact holdK_fst e3
  case rngL =>
    cases d <;> simp only [Op1.run, reduceCtorEq] at hr
    split at hr <;> simp only [reduceCtorEq, Res.ok.injEq] at hr
    rename_i n hn
    subst hr
    simp only [hold1, scV, Option.some.injEq] at h
    subst h
    have hb : -4611686018427387904 ≤ n := hn.2
    have hl : n ≤ ((100000 : Nat) : Int) := hn.1
    refine ⟨rng 0 n 1, rfl, fun Q q => ⟨n, rfl, ⟨by decide, by decide, by omega, by omega, by omega⟩, fun a ha => ?_⟩⟩
    have := q a ha
    have e : rgV 0 n = (rng 0 n 1).map V.int := by
      unfold rng rgV
      rw [if_pos (by decide), List.map_map]
      have e : ((n - 0 + 1 - 1) / 1).toNat = (n - 0).toNat := by rw [Int.ediv_one]; congr 1; omega
      rw [e]
      exact List.map_congr_left fun i _ => by simp
    rw [e]; exact this
/-! ### two operands -/
theorem hold_self {d : D} {v : V} (h : hold K H d v) : hold1 K H H d v := by
  cases d <;> simp only [hold] at h <;> simp only [hold1, scV]
  case non | bl | int | str => rw [h]
  all_goals exact h
mutual
def toPy : D → PyData
  | .non => .none | .bl b => .bool b | .int i => .int i | .str s => .str s
  | .lst ds => .list (toPys ds) | .tup ds => .tuple (toPys ds)
  | .dic _ | .dct _ | .scr _ | .any | .exn _ => .none
def toPys : List D → List PyData
  | [] => []
  | d :: r => toPy d :: toPys r
end
mutual
theorem dp_of : ∀ (n : Nat) (d : D) (v : V), d.eqable n = true → hold K H d v → Dp K H v (toPy d)
  | _, .non, _, _, h => by simp only [hold] at h; subst h; exact .non
  | _, .bl _, _, _, h => by simp only [hold] at h; subst h; exact .bl _
  | _, .int _, _, _, h => by simp only [hold] at h; subst h; exact .int _
  | _, .str _, _, _, h => by simp only [hold] at h; subst h; exact .str _
  | n + 1, .lst ds, _, e, h => by
    simp only [hold] at h
    obtain ⟨p, xs, rfl, e2, e3⟩ := h
    exact .lst (.of e2) (dps_of n ds xs (by simpa only [D.eqable] using e) e3)
  | n + 1, .tup ds, _, e, h => by
    simp only [hold] at h
    obtain ⟨p, xs, rfl, e2, e3⟩ := h
    exact .tup (.of e2) (dps_of n ds xs (by simpa only [D.eqable] using e) e3)
  | 0, .lst _, _, e, _ | 0, .tup _, _, e, _ | 0, .dic _, _, e, _ | 0, .dct _, _, e, _ | 0, .scr _, _, e, _ | 0, .any, _, e, _ | 0, .exn _, _, e, _ => by simp [D.eqable] at e
  | n + 1, .dic _, _, e, _ | n + 1, .dct _, _, e, _ | n + 1, .scr _, _, e, _ | n + 1, .any, _, e, _ | n + 1, .exn _, _, e, _ => by simp [D.eqable] at e
theorem dps_of : ∀ (n : Nat) (ds : List D) (xs : List V), D.eqables n ds = true → holds K H ds xs → DpAll K H xs (toPys ds)
  | _, [], _, _, h => by simp only [holds] at h; subst h; exact .nil
  | n, d :: ds, _, e, h => by
    simp only [holds] at h
    obtain ⟨x, r, rfl, e2, e3⟩ := h
    have e' : d.eqable n = true ∧ D.eqables n ds = true := by simpa only [D.eqables, Bool.and_eq_true] using e
    exact .cons (dp_of n d x e'.1 e2) (dps_of n ds r e'.2 e3)
end
mutual
theorem beq_eqv : ∀ (n : Nat) (a b : D), a.eqable n = true → b.eqable n = true → PyData.eqv (toPy a) (toPy b) = D.beq a b
  | n, .lst a, .lst b, h, g => by
    cases n with
    | zero => simp [D.eqable] at h
    | succ n => simp only [toPy, PyData.eqv, D.beq]; exact beq_eqvs n a b (by simpa only [D.eqable] using h) (by simpa only [D.eqable] using g)
  | n, .tup a, .tup b, h, g => by
    cases n with
    | zero => simp [D.eqable] at h
    | succ n => simp only [toPy, PyData.eqv, D.beq]; exact beq_eqvs n a b (by simpa only [D.eqable] using h) (by simpa only [D.eqable] using g)
  | n, .dic _, _, h, _ | n, .dct _, _, h, _ | n, .scr _, _, h, _ | n, .any, _, h, _ | n, .exn _, _, h, _ => by cases n <;> simp [D.eqable] at h
  | n, .non, .dic _, _, g | n, .non, .dct _, _, g | n, .non, .scr _, _, g | n, .non, .any, _, g | n, .non, .exn _, _, g => by cases n <;> simp [D.eqable] at g
  | n, .bl _, .dic _, _, g | n, .bl _, .dct _, _, g | n, .bl _, .scr _, _, g | n, .bl _, .any, _, g | n, .bl _, .exn _, _, g => by cases n <;> simp [D.eqable] at g
  | n, .int _, .dic _, _, g | n, .int _, .dct _, _, g | n, .int _, .scr _, _, g | n, .int _, .any, _, g | n, .int _, .exn _, _, g => by cases n <;> simp [D.eqable] at g
  | n, .str _, .dic _, _, g | n, .str _, .dct _, _, g | n, .str _, .scr _, _, g | n, .str _, .any, _, g | n, .str _, .exn _, _, g => by cases n <;> simp [D.eqable] at g
  | n, .lst _, .dic _, _, g | n, .lst _, .dct _, _, g | n, .lst _, .scr _, _, g | n, .lst _, .any, _, g | n, .lst _, .exn _, _, g => by cases n <;> simp [D.eqable] at g
  | n, .tup _, .dic _, _, g | n, .tup _, .dct _, _, g | n, .tup _, .scr _, _, g | n, .tup _, .any, _, g | n, .tup _, .exn _, _, g => by cases n <;> simp [D.eqable] at g
  | _, .non, .non, _, _ | _, .non, .bl _, _, _ | _, .non, .int _, _, _ | _, .non, .str _, _, _ | _, .non, .lst _, _, _ | _, .non, .tup _, _, _ => by simp only [toPy, PyData.eqv, D.beq]
  | _, .bl _, .non, _, _ | _, .bl _, .bl _, _, _ | _, .bl _, .int _, _, _ | _, .bl _, .str _, _, _ | _, .bl _, .lst _, _, _ | _, .bl _, .tup _, _, _ => by simp only [toPy, PyData.eqv, D.beq, bit]
  | _, .int _, .non, _, _ | _, .int _, .bl _, _, _ | _, .int _, .int _, _, _ | _, .int _, .str _, _, _ | _, .int _, .lst _, _, _ | _, .int _, .tup _, _, _ => by simp only [toPy, PyData.eqv, D.beq, bit]
  | _, .str _, .non, _, _ | _, .str _, .bl _, _, _ | _, .str _, .int _, _, _ | _, .str _, .str _, _, _ | _, .str _, .lst _, _, _ | _, .str _, .tup _, _, _ => by simp only [toPy, PyData.eqv, D.beq]
  | _, .lst _, .non, _, _ | _, .lst _, .bl _, _, _ | _, .lst _, .int _, _, _ | _, .lst _, .str _, _, _ | _, .lst _, .tup _, _, _ => by simp only [toPy, PyData.eqv, D.beq]
  | _, .tup _, .non, _, _ | _, .tup _, .bl _, _, _ | _, .tup _, .int _, _, _ | _, .tup _, .str _, _, _ | _, .tup _, .lst _, _, _ => by simp only [toPy, PyData.eqv, D.beq]
theorem beq_eqvs : ∀ (n : Nat) (a b : List D), D.eqables n a = true → D.eqables n b = true → PyData.eqvAll (toPys a) (toPys b) = D.beqs a b
  | _, [], [], _, _ | _, [], _ :: _, _, _ | _, _ :: _, [], _, _ => by simp only [toPys, PyData.eqvAll, D.beqs]
  | n, x :: a, y :: b, h, g => by
    have h' : x.eqable n = true ∧ D.eqables n a = true := by simpa only [D.eqables, Bool.and_eq_true] using h
    have g' : y.eqable n = true ∧ D.eqables n b = true := by simpa only [D.eqables, Bool.and_eq_true] using g
    simp only [toPys, PyData.eqvAll, D.beqs, beq_eqv n x y h'.1 g'.1, beq_eqvs n a b h'.2 g'.2]
end
mutual
theorem lay_of : ∀ (n : Nat) (d : D), d.eqable n = true → (toPy d).canLay0 = true ∧ (toPy d).depth ≤ n + 1
  | n, .non, _ | n, .bl _, _ | n, .int _, _ => by simp [toPy, PyData.canLay0, PyData.depth]
  | n, .str x, h => by
    have h' : PyData.strOk x = true := by cases n <;> simpa only [D.eqable, PyData.strOk] using h
    simp [toPy, PyData.canLay0, PyData.depth, h']
  | n + 1, .lst ds, h => by
    have := lays_of n ds (by simpa only [D.eqable] using h)
    simp only [toPy, PyData.canLay0, PyData.depth]; exact ⟨this.1, by omega⟩
  | n + 1, .tup ds, h => by
    have := lays_of n ds (by simpa only [D.eqable] using h)
    simp only [toPy, PyData.canLay0, PyData.depth]; exact ⟨this.1, by omega⟩
  | 0, .lst _, e | 0, .tup _, e | 0, .dic _, e | 0, .dct _, e | 0, .scr _, e | 0, .any, e | 0, .exn _, e => by simp [D.eqable] at e
  | n + 1, .dic _, e | n + 1, .dct _, e | n + 1, .scr _, e | n + 1, .any, e | n + 1, .exn _, e => by simp [D.eqable] at e
theorem lays_of : ∀ (n : Nat) (ds : List D), D.eqables n ds = true → PyData.canLayAll0 (toPys ds) = true ∧ PyData.depthAll (toPys ds) ≤ n + 1
  | n, [], _ => by simp [toPys, PyData.canLayAll0, PyData.depthAll]
  | n, d :: ds, h => by
    have h' : d.eqable n = true ∧ D.eqables n ds = true := by simpa only [D.eqables, Bool.and_eq_true] using h
    obtain ⟨a1, a2⟩ := lay_of n d h'.1
    obtain ⟨b1, b2⟩ := lays_of n ds h'.2
    simp only [toPys, PyData.canLayAll0, PyData.depthAll, a1, b1, Bool.and_self, true_and]
    omega
end
theorem shaped_of {n : Nat} {d : D} (h : d.eqable n = true) (hn : n ≤ 40) : SeqAt.shaped (toPy d) = true := by
  obtain ⟨h1, h2⟩ := lay_of n d h
  unfold SeqAt.shaped
  rw [h1, Bool.true_and]
  exact decide_eq_true (by omega)
/-- a scalar's own -/
theorem sc_of {d : D} {v : V} (h : hold K H d v) (s : d.isSc = true) : scV d = some v := by
  cases d <;> simp only [D.isSc, Bool.false_eq_true] at s <;> simp only [hold] at h <;> simp only [scV, h]
theorem flat_of {d : D} {v : V} (h : hold K H d v) (s : d.isSc = true) : flatV v = true := by
  cases d <;> simp only [D.isSc, Bool.false_eq_true] at s <;> simp only [hold] at h <;> subst h <;> rfl
theorem flats_of : ∀ {ds : List D} {xs : List V}, holds K H ds xs → ds.all D.isSc = true → xs.all flatV = true
  | [], _, h, _ => by simp only [holds] at h; subst h; rfl
  | d :: ds, _, h, s => by
    simp only [holds] at h
    obtain ⟨x, r, rfl, h1, h2⟩ := h
    rw [List.all_cons, Bool.and_eq_true] at s
    rw [List.all_cons, flat_of h1 s.1, flats_of h2 s.2]; rfl
theorem eqS_sc : ∀ {a b : D} {c : Bool}, eqS a b = some c → a.isSc = true ∧ b.isSc = true := fun {a b c} h => by
  cases a <;> cases b <;> simp only [eqS, reduceCtorEq] at h <;> exact ⟨rfl, rfl⟩
theorem eqS_ok {a b : D} {x y : V} {c : Bool} (h : eqS a b = some c) (hx : hold K H a x) (hy : hold K H b y) : scal x y = true ∧ decide (x = y) = c ∧ eqV x y = c := by
  cases a <;> cases b <;> simp only [eqS, reduceCtorEq, Option.some.injEq] at h <;> simp only [hold] at hx hy <;> subst hx <;> subst hy <;> subst h <;> refine ⟨rfl, ?_, ?_⟩ <;> first
    | rfl
    | (simp only [eqV])
    | exact dec_int
    | exact dec_bl
    | (rw [Bool.eq_iff_iff]; simp)
theorem inF_ok {x : D} {v : V} (hx : hold K H x v) : ∀ {ds : List D} {xs : List V} {c : Bool}, inF x ds = some c → holds K H ds xs → x.isSc = true ∧ xs.all flatV = true ∧ inV v xs = c
  | [], _, c, h, g => by
    simp only [inF] at h
    split at h <;> simp only [reduceCtorEq, Option.some.injEq] at h
    rename_i hs
    subst h
    simp only [holds] at g; subst g
    exact ⟨hs, rfl, rfl⟩
  | d :: ds, _, c, h, g => by
    simp only [holds] at g
    obtain ⟨y, r, rfl, g1, g2⟩ := g
    simp only [inF] at h
    split at h
    · rename_i a b ea eb
      simp only [Option.some.injEq] at h
      obtain ⟨i1, i2, i3⟩ := inF_ok hx eb g2
      obtain ⟨s1, s2⟩ := eqS_sc ea
      obtain ⟨_, _, q⟩ := eqS_ok ea g1 hx
      refine ⟨s2, ?_, ?_⟩
      · rw [List.all_cons, i2, flat_of g1 s1]; rfl
      · unfold inV at i3 ⊢
        rw [List.any_cons, i3, q]; exact h
    · cases h
theorem inF_nil_sc {x : D} {v : V} (hx : hold K H x v) {p : Addr} {neg : Bool} {Q : VK} {c : Bool} {ds : List D} {xs : List V} (h : inF x ds = some c) (g : holds K H ds xs) (hp : SqL K H p xs ∨ SqT K H p xs) (q : Q (.bl (if neg then !c else c)) H) :
    rIn K neg v (.ref p) H Q := by
  obtain ⟨hs, i2, i3⟩ := inF_ok hx h g
  exact ⟨p, xs, rfl, hp, flat_of hx hs, i2, by rw [i3]; exact q⟩
theorem idxF_ok {x : D} {v : V} (hx : hold K H x v) : ∀ {ds : List D} {xs : List V} {n : Nat}, idxF x ds = some n → holds K H ds xs → ∃ z, xs[n]? = some z ∧ eqV z v = true ∧ ∀ (m : Nat) (z' : V), m < n → xs[m]? = some z' → eqV z' v = false
  | [], _, _, h, _ => by simp [idxF] at h
  | d :: ds, _, n, h, g => by
    simp only [holds] at g
    obtain ⟨y, r, rfl, g1, g2⟩ := g
    simp only [idxF] at h
    split at h
    · rename_i e
      simp only [Option.some.injEq] at h; subst h
      exact ⟨y, rfl, (eqS_ok e g1 hx).2.2, fun m _ hm => absurd hm (Nat.not_lt_zero _)⟩
    · rename_i e
      rw [Option.map_eq_some_iff] at h
      obtain ⟨k, hk, rfl⟩ := h
      obtain ⟨z, z1, z2, z3⟩ := idxF_ok hx hk g2
      refine ⟨z, by simpa using z1, z2, fun m z' hm hz => ?_⟩
      cases m with
      | zero => simp at hz; subst hz; exact (eqS_ok e g1 hx).2.2
      | succ m => exact z3 m z' (by omega) (by simpa using hz)
    · cases h
theorem look_ok : ∀ {ks : List (Int × D)} {kvs : List (Key × V)} {i : Int}, holdK K B ks kvs → (∀ d, look ks i = some d → ∃ v, valV kvs (Sum.inl i) = some v ∧ hold K B d v) ∧ (look ks i = none → valV kvs (Sum.inl i) = none)
  | [], _, i, h => by
    simp only [holdK] at h; subst h
    exact ⟨fun d e => by simp [look] at e, fun _ => rfl⟩
  | (j, e) :: ks, _, i, h => by
    simp only [holdK] at h
    obtain ⟨x, r, rfl, h1, h2⟩ := h
    obtain ⟨a, b⟩ := look_ok (i := i) h2
    by_cases c : j = i
    · subst c
      refine ⟨fun d hd => ?_, fun hd => ?_⟩
      · simp only [look, if_true, Option.some.injEq] at hd; subst hd
        exact ⟨x, valV_pos rfl, h1⟩
      · simp [look] at hd
    · have c' : ¬ (Sum.inl j : Key) = Sum.inl i := fun z => c (Sum.inl.inj z)
      refine ⟨fun d hd => ?_, fun hd => ?_⟩
      · simp only [look, c, if_false] at hd
        rw [valV_neg (p := (Sum.inl j, x)) c']; exact a d hd
      · simp only [look, c, if_false] at hd
        rw [valV_neg (p := (Sum.inl j, x)) c']; exact b hd
theorem lookT_ok : ∀ {ks : List ((Int × Int) × D)} {kvs : List (List Key × V)} {i j : Int}, holdT K B ks kvs → (∀ d, look ks (i, j) = some d → ∃ v, valV kvs [.inl i, .inl j] = some v ∧ hold K B d v) ∧ (look ks (i, j) = none → valV kvs [.inl i, .inl j] = none)
  | [], _, i, j, h => by
    simp only [holdT] at h; subst h
    exact ⟨fun d e => by simp [look] at e, fun _ => rfl⟩
  | ((a, b), e) :: ks, _, i, j, h => by
    simp only [holdT] at h
    obtain ⟨x, r, rfl, h1, h2⟩ := h
    obtain ⟨f, g⟩ := lookT_ok (i := i) (j := j) h2
    by_cases c : (a, b) = (i, j)
    · cases c
      refine ⟨fun d hd => ?_, fun hd => ?_⟩
      · simp only [look, if_true, Option.some.injEq] at hd; subst hd
        exact ⟨x, valV_pos rfl, h1⟩
      · simp [look] at hd
    · have c' : ¬ ([.inl a, .inl b] : List Key) = [.inl i, .inl j] := fun z => c (by simp only [List.cons.injEq, Sum.inl.injEq, and_true] at z; rw [z.1, z.2])
      refine ⟨fun d hd => ?_, fun hd => ?_⟩
      · simp only [look, c, if_false] at hd
        rw [valV_neg (p := (([Sum.inl a, Sum.inl b] : List Key), x)) c']; exact f d hd
      · simp only [look, c, if_false] at hd
        rw [valV_neg (p := (([Sum.inl a, Sum.inl b] : List Key), x)) c']; exact g hd
theorem ints_h {ns : List Int} {p : Addr} {xs : List V} (h : H p = some (.lst xs)) (g : holds K H (ns.map D.int) xs) : SqL K H p (ns.map V.int) := by
  rw [ints_holds g] at h; exact .of h
theorem int_h {i : Int} {v : V} (h : hold K H (.int i) v) : v = .int i := by simpa only [hold] using h
theorem pairT_h {i j : Int} {v : V} (h : hold K H (.tup [.int i, .int j]) v) : ∃ b, v = .ref b ∧ H b = some (.tup ([Sum.inl i, Sum.inl j].map L2.kV)) := by
  simp only [hold, holds] at h
  obtain ⟨p, xs, rfl, e, x, r, rfl, rfl, y, r', rfl, rfl, rfl⟩ := h
  exact ⟨p, rfl, e⟩
theorem op2_sc {o : Op2} {a b x : D} {v u : V} (hc : o.cl = .sc) (hr : o.run a b = .ok x) (h : hold K H a v) (g : hold K H b u) : ∃ w, scV x = some w ∧ ∀ Q : VK, Q w H → r2 K o v u H Q := by
  cases o <;> simp only [Op2.cl, reduceCtorEq] at hc
  case addI | subI | lt | le | gt | ge =>
    cases a <;> cases b <;> simp only [Op2.run, reduceCtorEq, okI, okB, Res.ok.injEq] at hr
    subst hr
    exact ⟨_, rfl, fun Q q => ⟨_, _, int_h h, int_h g, q⟩⟩
  case mulI =>
    cases a <;> cases b <;> simp only [Op2.run, reduceCtorEq] at hr
    split at hr <;> simp only [reduceCtorEq, okI, Res.ok.injEq] at hr
    rename_i c
    subst hr
    exact ⟨_, rfl, fun Q q => ⟨_, _, int_h h, int_h g, mulOk_ok c, q⟩⟩
  case fdiv =>
    cases a <;> cases b <;> simp only [Op2.run, reduceCtorEq] at hr
    split at hr <;> simp only [reduceCtorEq, okI, Res.ok.injEq] at hr
    rename_i c
    subst hr
    exact ⟨_, rfl, fun Q q => ⟨_, _, int_h h, int_h g, c, q⟩⟩
  case mod =>
    cases a <;> cases b <;> simp only [Op2.run, reduceCtorEq] at hr
    split at hr <;> simp only [reduceCtorEq, okI, Res.ok.injEq] at hr
    rename_i c
    subst hr
    exact ⟨_, rfl, fun Q q => ⟨_, _, int_h h, int_h g, c, q⟩⟩
  case pow =>
    cases a <;> cases b <;> simp only [Op2.run, reduceCtorEq] at hr
    split at hr <;> simp only [reduceCtorEq, okI, Res.ok.injEq] at hr
    rename_i c
    subst hr
    refine ⟨_, rfl, fun Q q => ⟨_, _, int_h h, int_h g, ⟨c.1, ?_, ?_⟩, q⟩⟩
    · have := c.2.1; omega
    · have := c.2.2; omega
  case addS =>
    cases a <;> cases b <;> simp only [Op2.run, reduceCtorEq] at hr
    split at hr <;> simp only [reduceCtorEq, Res.ok.injEq] at hr
    rename_i c
    subst hr
    simp only [hold] at h g
    exact ⟨_, rfl, fun Q q => ⟨_, _, h, g, szl c, q⟩⟩
  case eqI =>
    simp only [Op2.run] at hr
    split at hr <;> simp only [reduceCtorEq, okB, Res.ok.injEq] at hr
    rename_i c e
    subst hr
    obtain ⟨e1, e2, _⟩ := eqS_ok e h g
    exact ⟨_, rfl, fun Q q => ⟨e1, by rw [e2]; exact q⟩⟩
  case neI =>
    simp only [Op2.run] at hr
    split at hr <;> simp only [reduceCtorEq, okB, Res.ok.injEq] at hr
    rename_i c e
    subst hr
    obtain ⟨e1, e2, _⟩ := eqS_ok e h g
    exact ⟨_, rfl, fun Q q => ⟨e1, by rw [e2]; exact q⟩⟩
  case eqD | neD =>
    simp only [Op2.run] at hr
    split at hr <;> simp only [reduceCtorEq, okB, Res.ok.injEq] at hr
    rename_i c
    rw [Bool.and_eq_true] at c
    subst hr
    refine ⟨_, rfl, fun Q q => ⟨toPy a, toPy b, dp_of 20 a v c.1 h, dp_of 20 b u c.2 g, shaped_of c.1 (by decide), shaped_of c.2 (by decide), ?_⟩⟩
    rw [beq_eqv 20 a b c.1 c.2]; exact q
  case inL | ninL =>
    cases b <;> simp only [Op2.run, reduceCtorEq] at hr
    rename_i ds
    split at hr <;> simp only [reduceCtorEq, okB, Res.ok.injEq] at hr
    rename_i c e
    subst hr
    simp only [hold] at g
    obtain ⟨p, xs, rfl, g1, g2⟩ := g
    exact ⟨_, rfl, fun Q q => inF_nil_sc h e g2 (.inl (.of g1)) q⟩
  case inT | ninT =>
    cases b <;> simp only [Op2.run, reduceCtorEq] at hr
    rename_i ds
    split at hr <;> simp only [reduceCtorEq, okB, Res.ok.injEq] at hr
    rename_i c e
    subst hr
    simp only [hold] at g
    obtain ⟨p, xs, rfl, g1, g2⟩ := g
    exact ⟨_, rfl, fun Q q => inF_nil_sc h e g2 (.inr (.of g1)) q⟩
  case inD | ninD =>
    cases b <;> simp only [Op2.run, reduceCtorEq] at hr
    rename_i ds
    split at hr <;> simp only [reduceCtorEq, okB, Res.ok.injEq] at hr
    rename_i c
    rw [Bool.and_eq_true] at c
    subst hr
    have c3 : (D.lst ds).eqable 21 = true := by simpa only [D.eqable] using c.2
    have e : ∀ l : List D, D.eqables 20 l = true → ((toPys l).any fun z => PyData.eqv z (toPy a)) = l.any fun y => D.beq y a := by
      intro l
      induction l with
      | nil => intro _; rfl
      | cons y l ih =>
        intro hl
        have hl' : y.eqable 20 = true ∧ D.eqables 20 l = true := by simpa only [D.eqables, Bool.and_eq_true] using hl
        rw [toPys, List.any_cons, List.any_cons, ih hl'.2, beq_eqv 20 y a hl'.1 c.1]
    refine ⟨_, rfl, fun Q q => ⟨toPy a, toPys ds, dp_of 20 a v c.1 h, dp_of 21 (.lst ds) u c3 g, shaped_of c.1 (by decide), shaped_of (n := 21) (d := .lst ds) c3 (by decide), ?_⟩⟩
    rw [e ds c.2]; exact q
  case inK =>
    cases a <;> cases b <;> simp only [Op2.run, reduceCtorEq, okB, Res.ok.injEq] at hr
    case int.dic i ks =>
      subst hr
      simp only [hold] at g
      obtain ⟨p, kvs, rfl, g1, g2⟩ := g
      have h := int_h h
      subst h
      refine ⟨_, rfl, fun Q q => ⟨p, valV kvs (.inl i), rfl, .inl ⟨kvs, .inl i, g1, rfl, rfl⟩, ?_⟩⟩
      obtain ⟨l1, l2⟩ := look_ok (i := i) g2
      cases e : look ks i with
      | none => rw [l2 e]; rw [e] at q; exact q
      | some d => obtain ⟨w, e2, _⟩ := l1 d e; rw [e2]; rw [e] at q; exact q
    case tup.dct ts ks =>
      match ts, hr, h with
      | [.int i, .int j], hr, h =>
        simp only [Op2.run, okB, Res.ok.injEq] at hr
        subst hr
        simp only [hold] at g
        obtain ⟨p, kvs, rfl, g1, g2⟩ := g
        obtain ⟨q0, rfl, e0⟩ := pairT_h h
        refine ⟨_, rfl, fun Q q => ⟨p, valV kvs [.inl i, .inl j], rfl, .inr ⟨kvs, [.inl i, .inl j], q0, .inl g1, rfl, e0, rfl⟩, ?_⟩⟩
        obtain ⟨l1, l2⟩ := lookT_ok (i := i) (j := j) g2
        cases e : look ks (i, j) with
        | none => rw [l2 e]; rw [e] at q; exact q
        | some d => obtain ⟨w, e2, _⟩ := l1 d e; rw [e2]; rw [e] at q; exact q
  case ninK =>
    cases a <;> cases b <;> simp only [Op2.run, reduceCtorEq, okB, Res.ok.injEq] at hr
    case int.dic i ks =>
      subst hr
      simp only [hold] at g
      obtain ⟨p, kvs, rfl, g1, g2⟩ := g
      have h := int_h h
      subst h
      refine ⟨_, rfl, fun Q q => ⟨p, valV kvs (.inl i), rfl, .inl ⟨kvs, .inl i, g1, rfl, rfl⟩, ?_⟩⟩
      obtain ⟨l1, l2⟩ := look_ok (i := i) g2
      cases e : look ks i with
      | none => rw [l2 e]; rw [e] at q; exact q
      | some d => obtain ⟨w, e2, _⟩ := l1 d e; rw [e2]; rw [e] at q; exact q
  case max2 | min2 =>
    cases a <;> cases b <;> simp only [Op2.run, reduceCtorEq, okI, Res.ok.injEq] at hr
    subst hr
    have h := int_h h
    have g := int_h g
    subst h; subst g
    exact ⟨_, rfl, fun Q q => ⟨_, _, rfl, q⟩⟩
  case maxD | minD =>
    cases a <;> cases b <;> simp only [Op2.run, reduceCtorEq] at hr
    rename_i ds k
    have g := int_h g
    subst g
    simp only [hold] at h
    obtain ⟨p, xs, rfl, h1, h2⟩ := h
    split at hr <;> simp only [reduceCtorEq, okI, Res.ok.injEq] at hr
    · rename_i m r e
      subst hr
      rw [ints_some e] at h2
      exact ⟨_, rfl, fun Q q => ⟨p, m :: r, k, rfl, rfl, ints_h h1 h2, q⟩⟩
    · rename_i e
      subst hr
      rw [ints_some e] at h2
      exact ⟨_, rfl, fun Q q => ⟨p, [], k, rfl, rfl, ints_h (ns := []) h1 h2, q⟩⟩
  case subS =>
    cases a <;> cases b <;> simp only [Op2.run, reduceCtorEq] at hr
    rename_i s i
    split at hr <;> try (simp only [reduceCtorEq] at hr)
    rename_i hl
    split at hr <;> simp only [reduceCtorEq, Res.ok.injEq] at hr
    rename_i c e
    subst hr
    have g := int_h g
    subst g
    simp only [hold] at h
    subst h
    exact ⟨_, rfl, fun Q q => ⟨s, i, c, rfl, rfl, szl hl, e, q⟩⟩
  case idx =>
    cases a <;> simp only [Op2.run, reduceCtorEq] at hr
    rename_i ds
    split at hr <;> try (simp only [reduceCtorEq] at hr)
    rename_i c
    rw [Bool.and_eq_true] at c
    split at hr <;> simp only [reduceCtorEq, okI, Res.ok.injEq] at hr
    rename_i n e
    subst hr
    simp only [hold] at h
    obtain ⟨p, xs, rfl, h1, h2⟩ := h
    obtain ⟨z, z1, z2, z3⟩ := idxF_ok g e h2
    exact ⟨_, rfl, fun Q q => ⟨p, xs, u, n, z, rfl, rfl, .of h1, flat_of g c.1, flats_of h2 c.2, z1, z2, z3, q⟩⟩
  case cnt =>
    cases a <;> cases b <;> simp only [Op2.run, reduceCtorEq] at hr
    split at hr <;> simp only [reduceCtorEq, okI, Res.ok.injEq] at hr
    rename_i ns e
    subst hr
    have g := int_h g
    subst g
    simp only [hold] at h
    obtain ⟨p, xs, rfl, h1, h2⟩ := h
    rw [ints_some e] at h2
    exact ⟨_, rfl, fun Q q => ⟨p, ns, _, rfl, rfl, ints_h h1 h2, q⟩⟩
  case cntB =>
    cases a <;> cases b <;> simp only [Op2.run, reduceCtorEq] at hr
    split at hr <;> simp only [reduceCtorEq, okI, Res.ok.injEq] at hr
    rename_i ns e
    subst hr
    simp only [hold] at g
    subst g
    simp only [hold] at h
    obtain ⟨p, xs, rfl, h1, h2⟩ := h
    rw [bools_some e] at h2
    rw [bools_holds h2] at h1
    exact ⟨_, rfl, fun Q q => ⟨p, ns, _, rfl, rfl, .of h1, q⟩⟩
end
end TW

namespace TW
open PySem L2
theorem holds_cut {K : PySem.W.Frag} {B : Hp} {ds : List D} {xs : List V} (h : holds K B ds xs) (lo hi : Option Int) : holds K B (cut ds lo hi) (cutV xs lo hi) := by
  unfold cut cutV
  rw [holds_length h]
  exact holds_take _ (holds_drop _ h)
theorem cut_map {α β : Type} (f : α → β) (xs : List α) (lo hi : Option Int) : (cut xs lo hi).map f = cut (xs.map f) lo hi := by
  unfold cut
  rw [List.map_take, List.map_drop, List.length_map]
theorem cut_V (ns : List Int) (lo hi : Option Int) : cutV (ns.map V.int) lo hi = (cut ns lo hi).map V.int := by
  rw [cut_map]; rfl
theorem holds_rep {K : PySem.W.Frag} {B : Hp} {ds : List D} {xs : List V} (h : holds K B ds xs) : ∀ n : Nat, holds K B (rep ds n) (List.replicate n xs).flatten
  | 0 => rfl
  | n + 1 => by
    unfold rep
    rw [List.replicate_succ, List.replicate_succ, List.flatten_cons, List.flatten_cons]
    exact holds_append h (holds_rep h n)
section
variable {K : PySem.W.Frag} {B H : Hp}
theorem int_1 {i : Int} {v : V} (h : hold1 K B H (.int i) v) : v = .int i := by
  simp only [hold1, scV, Option.some.injEq] at h; exact h.symm
theorem op2_new {o : Op2} {a b x : D} {v u : V} (hc : o.cl = .new) (hr : o.run a b = .ok x) (h : hold1 K B H a v) (g : hold1 K B H b u) :
    ∃ ds xs, x = .lst ds ∧ holds K B ds xs ∧ ∀ Q : VK, (∀ p, H p = none → Q (.ref p) (upd H p (.lst xs))) → r2 K o v u H Q := by
  cases o <;> simp only [Op2.cl, reduceCtorEq] at hc
  case cat =>
    cases a <;> cases b <;> simp only [Op2.run, reduceCtorEq] at hr
    rename_i as bs
    split at hr <;> simp only [reduceCtorEq, Res.ok.injEq] at hr
    rename_i c
    subst hr
    obtain ⟨p, xs, rfl, h1, h2⟩ := h
    obtain ⟨q, ys, rfl, g1, g2⟩ := g
    exact ⟨_, _, rfl, holds_append h2 g2, fun Q z => ⟨p, q, xs, ys, rfl, rfl, h1, g1, by rw [← holds_length h2, ← holds_length g2]; exact szl c, z⟩⟩
  case rep =>
    cases a <;> cases b <;> simp only [Op2.run, reduceCtorEq] at hr
    rename_i as k
    split at hr <;> simp only [reduceCtorEq, Res.ok.injEq] at hr
    rename_i c
    subst hr
    obtain ⟨p, xs, rfl, h1, h2⟩ := h
    have g := int_1 g
    subst g
    have c1 : k ≤ ((100000 : Nat) : Int) := c.1
    exact ⟨_, _, rfl, holds_rep h2 _, fun Q z => ⟨p, k, xs, rfl, rfl, h1, by omega, by omega, by rw [← holds_length h2]; exact szl c.2.2, z⟩⟩
  case slcLo =>
    cases a <;> cases b <;> simp only [Op2.run, reduceCtorEq, Res.ok.injEq] at hr
    case lst.int ds i =>
      subst hr
      obtain ⟨p, xs, rfl, h1, h2⟩ := h
      exact ⟨_, _, rfl, holds_cut h2 _ _, fun Q z => ⟨i, int_1 g, p, xs, rfl, .of h1, z⟩⟩
    case scr.int ds i =>
      subst hr
      obtain ⟨p, rfl, h1⟩ := h
      exact ⟨_, _, rfl, holds_ints _, fun Q z => ⟨i, int_1 g, p, _, rfl, h1, by rw [cut_V]; exact z⟩⟩
  case slcHi =>
    cases a <;> cases b <;> simp only [Op2.run, reduceCtorEq, Res.ok.injEq] at hr
    case lst.int ds i =>
      subst hr
      obtain ⟨p, xs, rfl, h1, h2⟩ := h
      exact ⟨_, _, rfl, holds_cut h2 _ _, fun Q z => ⟨i, int_1 g, p, xs, rfl, .of h1, z⟩⟩
    case scr.int ds i =>
      subst hr
      obtain ⟨p, rfl, h1⟩ := h
      exact ⟨_, _, rfl, holds_ints _, fun Q z => ⟨i, int_1 g, p, _, rfl, h1, by rw [cut_V]; exact z⟩⟩
theorem slc3_new {a b c x : D} {v u w : V} (hr : slc3 a b c = .ok x) (h : hold1 K B H a v) (g : hold1 K B H b u) (k : hold1 K B H c w) :
    ∃ ds xs i j, x = .lst ds ∧ holds K B ds xs ∧ u = .int i ∧ w = .int j ∧ ∀ Q : VK, (∀ p, H p = none → Q (.ref p) (upd H p (.lst xs))) → rSlL K v (some i) (some j) H Q := by
  cases a <;> cases b <;> cases c <;> simp only [slc3, reduceCtorEq, Res.ok.injEq] at hr
  case lst.int.int ds i j =>
    subst hr
    obtain ⟨p, xs, rfl, h1, h2⟩ := h
    exact ⟨_, _, i, j, rfl, holds_cut h2 _ _, int_1 g, int_1 k, fun Q z => ⟨p, xs, rfl, .of h1, z⟩⟩
  case scr.int.int ds i j =>
    subst hr
    obtain ⟨p, rfl, h1⟩ := h
    exact ⟨_, _, i, j, rfl, holds_ints _, int_1 g, int_1 k, fun Q z => ⟨p, _, rfl, h1, by rw [cut_V]; exact z⟩⟩
theorem nth_holds {ds : List D} {xs : List V} {i : Int} {d : D} (h : holds K B ds xs) (e : nth ds i = some d) : ∃ w, atI xs i = some w ∧ hold K B d w := by
  rw [nth_eq] at e
  unfold atI at e ⊢
  rw [← holds_length h]
  rw [Option.bind_eq_some_iff] at e
  obtain ⟨j, e1, e2⟩ := e
  obtain ⟨w, w1, w2⟩ := holds_get h e2
  exact ⟨w, by rw [Option.bind_eq_some_iff]; exact ⟨j, e1, w1⟩, w2⟩
theorem nth_ints {ns : List Int} {i k : Int} (e : nth ns i = some k) : atI (ns.map V.int) i = some (V.int k) := by
  rw [nth_eq] at e
  unfold atI at e ⊢
  rw [Option.bind_eq_some_iff] at e ⊢
  obtain ⟨j, e1, e2⟩ := e
  exact ⟨j, by rw [List.length_map]; exact e1, by rw [List.getElem?_map, e2]; rfl⟩
theorem op2_kid {o : Op2} {a b x : D} {v u : V} (hc : o.cl = .kid) (hr : o.run a b = .ok x) (h : hold1 K B H a v) (g : hold1 K B H b u) :
    ∃ w, hold K B x w ∧ ∀ Q : VK, Q w H → r2 K o v u H Q := by
  cases o <;> simp only [Op2.cl, reduceCtorEq] at hc
  case subL =>
    cases a <;> cases b <;> simp only [Op2.run, reduceCtorEq] at hr
    case lst.int ds i =>
      split at hr <;> simp only [reduceCtorEq, Res.ok.injEq] at hr
      rename_i d e
      subst hr
      obtain ⟨p, xs, rfl, h1, h2⟩ := h
      obtain ⟨w, w1, w2⟩ := nth_holds h2 e
      exact ⟨w, w2, fun Q q => ⟨p, xs, i, w, rfl, int_1 g, .of h1, w1, q⟩⟩
    case scr.int ds i =>
      split at hr <;> simp only [reduceCtorEq, okI, Res.ok.injEq] at hr
      rename_i d e
      subst hr
      obtain ⟨p, rfl, h1⟩ := h
      exact ⟨.int d, rfl, fun Q q => ⟨p, _, i, _, rfl, int_1 g, h1, nth_ints e, q⟩⟩
  case subT =>
    cases a <;> cases b <;> simp only [Op2.run, reduceCtorEq] at hr
    case tup.int ds i =>
      split at hr <;> simp only [reduceCtorEq, Res.ok.injEq] at hr
      rename_i d e
      subst hr
      obtain ⟨p, xs, rfl, h1, h2⟩ := h
      obtain ⟨w, w1, w2⟩ := nth_holds h2 e
      exact ⟨w, w2, fun Q q => ⟨p, xs, i, w, rfl, int_1 g, .of h1, w1, q⟩⟩
  case subK =>
    cases a <;> cases b <;> simp only [Op2.run, reduceCtorEq] at hr
    case dic.int ks i =>
      split at hr <;> simp only [reduceCtorEq, Res.ok.injEq] at hr
      rename_i d e
      subst hr
      obtain ⟨p, kvs, rfl, h1, h2⟩ := h
      have g := int_1 g
      subst g
      obtain ⟨w, w1, w2⟩ := (look_ok h2).1 d e
      exact ⟨w, w2, fun Q q => ⟨p, w, rfl, .inl ⟨kvs, .inl i, h1, rfl, w1.symm⟩, q⟩⟩
  case subP =>
    cases a <;> cases b <;> simp only [Op2.run, reduceCtorEq] at hr
    case dct.tup ks ts =>
      match ts, hr, g with
      | [.int i, .int j], hr, g =>
        simp only [Op2.run] at hr
        split at hr <;> simp only [reduceCtorEq, Res.ok.injEq] at hr
        rename_i d e
        subst hr
        obtain ⟨p, kvs, rfl, h1, h2⟩ := h
        simp only [hold1, holds, hold] at g
        obtain ⟨b, xs, rfl, e0, x, r, rfl, rfl, y, r', rfl, rfl, rfl⟩ := g
        obtain ⟨w, w1, w2⟩ := (lookT_ok h2).1 d e
        exact ⟨w, w2, fun Q q => ⟨p, w, rfl, .inr ⟨kvs, [.inl i, .inl j], b, .inl h1, rfl, e0, w1.symm⟩, q⟩⟩
end
end TW

/-! ## the state that a reckoning stands for -/
namespace TW
open PySem L2
theorem nomem {α : Type} {p : α → Prop} : ∀ a ∈ ([] : List α), p a := fun _ m => by cases m
def FP (F : Nat → List Addr) (a : Addr) : Prop := ∃ i, a ∈ F i
def Nil (_ : Addr) : Prop := False
structure Sta (C : Ctx) (ks : Nat → Kind) (pin : Nat → Option V) (B H : Hp) (σ : L2.St) (ρ : Env) (F : Nat → List Addr) : Prop where
  len : ρ.length ≤ σ.length
  sub : Sub B H
  tab : NdefX.TabsN C.T H
  rep : ∀ i d, gt ρ i = some d → ∃ v, σ[i]? = some (some v) ∧ vrep C.K (ks i) B H d v (F i)
  nf : ∀ i, gt ρ i = none → F i = []
  dj : ∀ i j a, a ∈ F i → a ∈ F j → i = j
  nB : ∀ i a, a ∈ F i → B a = none
  pin : ∀ j v, pin j = some v → σ[j]? = some (some v)
structure Has (C : Ctx) (B H : Hp) (F : Nat → List Addr) (k : Kind) (d : D) (v : V) (f : List Addr) : Prop where
  rep : vrep C.K k B H d v f
  dj : ∀ a ∈ f, ¬ FP F a
  nB : ∀ a ∈ f, B a = none
def Post (C : Ctx) (ks : Nat → Kind) (pin : Nat → Option V) (σ : L2.St) (B H : Hp) (F : Nat → List Addr) (ρ' : Env) (k : Kind) (d : D) (pu : Bool) (Q : VK) : Prop :=
  ∀ v B' H' F' f, Step B H (FP F) B' H' (fun a => FP F' a ∨ a ∈ f) → Sta C ks pin B' H' σ ρ' F' → Has C B' H' F' k d v f → (pu = true → Up H H' ∧ F' = F) → Q v H'
section
variable {C : Ctx} {ks : Nat → Kind} {pin : Nat → Option V} {B H B' H' : Hp} {σ : L2.St} {ρ : Env} {F : Nat → List Addr} {k : Kind} {d : D} {v : V} {f : List Addr} {P P' : Addr → Prop}
theorem Sta.at (s : Sta C ks pin B H σ ρ F) {i : Nat} {a : Addr} (m : a ∈ F i) : ∃ o, H a = some o ∧ Lay o := by
  cases e : gt ρ i with
  | none => rw [s.nf i e] at m; cases m
  | some d =>
    obtain ⟨v, _, h⟩ := s.rep i d e
    exact vrep_at h a m
theorem Sta.atF (s : Sta C ks pin B H σ ρ F) {a : Addr} (m : FP F a) : ∃ o, H a = some o ∧ Lay o := let ⟨_, h⟩ := m; s.at h
theorem tabs_up {T : List NdefX.NTab} (t : NdefX.TabsN T H) (u : ∀ b o, H b = some o → H' b = some o) : NdefX.TabsN T H' := t.ext u
/-- nothing of the frame is touched -/
theorem Sta.step (s : Sta C ks pin B H σ ρ F) (t : Step B H Nil B' H' P') (sub : Sub B' H') (tab : NdefX.TabsN C.T H') : Sta C ks pin B' H' σ ρ F where
  len := s.len
  sub := sub
  tab := tab
  rep := fun i d e => let ⟨v, h1, h2⟩ := s.rep i d e; ⟨v, h1, vrep_step h2 t (fun _ _ z => z) fun _ a o q n => t.up a o q (fun z => z) n⟩
  nf := s.nf
  dj := s.dj
  nB := fun i a m => by
    cases e : B' a with
    | none => rfl
    | some o =>
      obtain ⟨o', ho, _⟩ := s.at m
      rcases t.newB a (by rw [e]; simp) with q | q | q
      · exact absurd (s.nB i a m) q
      · exact False.elim q
      · rw [ho] at q; cases q
  pin := s.pin
theorem Has.at (h : Has C B H F k d v f) : ∀ a ∈ f, ∃ o, H a = some o ∧ Lay o := vrep_at h.rep
/-- a thing that waits while something else is reckoned -/
theorem Has.step {F' : Nat → List Addr} {g : List Addr} (h : Has C B H F k d v f) (t : Step B H (FP F) B' H' (fun a => FP F' a ∨ a ∈ g)) (hb : k.borrowed = true → Up H H') : Has C B' H' F' k d v f ∧ ∀ a ∈ f, a ∉ g := by
  have nf : ∀ a ∈ f, ¬ (FP F' a ∨ a ∈ g) := fun a m z => by
    rcases t.new a z with q | q
    · exact h.dj a m q
    · obtain ⟨o, ho, _⟩ := h.at a m
      rw [ho] at q; cases q
  refine ⟨⟨vrep_step h.rep t h.dj hb, fun a m z => nf a m (.inl z), fun a m => ?_⟩, fun a m z => nf a m (.inr z)⟩
  cases e : B' a with
  | none => rfl
  | some o =>
    obtain ⟨o', ho, _⟩ := h.at a m
    rcases t.newB a (by rw [e]; simp) with q | q | q
    · exact absurd (h.nB a m) q
    · exact absurd q (h.dj a m)
    · rw [ho] at q; cases q
theorem topAt_hold {K : PySem.W.Frag} {p : Addr} (s : Sub B H) (t : topAt K B H p d) : hold K H d (.ref p) := by
  cases d <;> simp only [topAt] at t <;> simp only [hold]
  · obtain ⟨xs, t1, t2⟩ := t; exact ⟨p, xs, rfl, t1, holds_mono s.ext _ _ t2⟩
  · obtain ⟨xs, t1, t2⟩ := t; exact ⟨p, xs, rfl, t1, holds_mono s.ext _ _ t2⟩
  · obtain ⟨xs, t1, t2⟩ := t; exact ⟨p, xs, rfl, .inl t1, holdK_mono s.ext _ _ t2⟩
  · obtain ⟨xs, t1, t2⟩ := t; exact ⟨p, xs, rfl, t1, holdT_mono s.ext _ _ t2⟩
/-- the whole is readable -/
theorem vrep_hold (s : Sub B H) (h : vrep C.K k B H d v f) : hold C.K H d v := by
  cases k <;> simp only [vrep] at h
  · exact hold_sc h.1
  · exact hold_mono s.ext _ _ h.1
  · rcases h with h | ⟨p, rfl, _, t⟩
    · exact hold_sc h.1
    exact topAt_hold s t
  · exact own_hold d v f h fun _ _ _ e _ => e
  · rcases h with h | ⟨p, rfl, _, t⟩
    · exact hold_sc h.1
    exact topAt_hold s t
  · exact h.1
theorem vis_hold (h : hold C.K H d v) : hold C.K (vis H Nil) d v := hold_mono (.of fun _ _ e n => vis_of e n fun z => z) d v h
/-- B and the things at f -/
noncomputable def join (B H : Hp) (f : List Addr) : Hp := fun a => by classical exact if a ∈ f then H a else B a
theorem join_in {a : Addr} (m : a ∈ f) : join B H f a = H a := by unfold join; rw [if_pos m]
theorem join_out {a : Addr} (m : a ∉ f) : join B H f a = B a := by unfold join; rw [if_neg m]
theorem join_ext (n : ∀ a ∈ f, B a = none) : ∀ a o, B a = some o → join B H f a = some o := fun a o e => by
  by_cases m : a ∈ f
  · rw [n a m] at e; cases e
  · rw [join_out m]; exact e
theorem join_sub (s : Sub B H) (t : ∀ a ∈ f, ∃ o, H a = some o ∧ Lay o) : Sub (join B H f) H := fun a o e => by
  by_cases m : a ∈ f
  · rw [join_in m] at e
    obtain ⟨o', h1, h2⟩ := t a m
    rw [e] at h1; cases h1
    exact ⟨e, h2.nt⟩
  · rw [join_out m] at e; exact s a o e
theorem vrep_B (h : vrep C.K k B H d v f) (e : ∀ a o, B a = some o → B' a = some o) : vrep C.K k B' H d v f := by
  have e' : Ext B B' := .of fun a o q _ => e a o q
  cases k <;> simp only [vrep] at h ⊢
  · exact h
  · exact ⟨hold_mono e' _ _ h.1, h.2⟩
  · rcases h with h | ⟨p, e1, e2, t⟩
    · exact .inl h
    exact .inr ⟨p, e1, e2, topAt_keep t e' fun _ q _ => q⟩
  · exact h
  · rcases h with h | ⟨p, e1, e2, t⟩
    · exact .inl h
    exact .inr ⟨p, e1, e2, topAt_keep t e' fun _ q _ => q⟩
  · exact h
/-- what was one's own is laid open -/
theorem Sta.absorb (s : Sta C ks pin B H σ ρ F) (h : ∀ a ∈ f, ∃ o, H a = some o ∧ Lay o) (dj : ∀ a ∈ f, ¬ FP F a) (nB : ∀ a ∈ f, B a = none) : Sta C ks pin (join B H f) H σ ρ F where
  len := s.len
  sub := join_sub s.sub h
  tab := s.tab
  rep := fun i d e => by
    obtain ⟨v, h1, h2⟩ := s.rep i d e
    exact ⟨v, h1, vrep_B h2 (join_ext nB)⟩
  nf := s.nf
  dj := s.dj
  nB := fun i a m => by
    have nf : a ∉ f := fun z => dj a z ⟨i, m⟩
    rw [join_out nf]; exact s.nB i a m
  pin := s.pin
/-- the thing at p in B too -/
theorem topAt_in {K : PySem.W.Frag} {p : Addr} {B0 : Hp} (t : topAt K B H p d) (e : ∀ a o, B a = some o → B0 a = some o) (hp : ∀ o, H p = some o → B0 p = some o) : hold K B0 d (.ref p) := by
  have e' : Ext B B0 := .of fun a o q _ => e a o q
  cases d <;> simp only [topAt] at t <;> simp only [hold]
  · obtain ⟨xs, t1, t2⟩ := t; exact ⟨p, xs, rfl, hp _ t1, holds_mono e' _ _ t2⟩
  · obtain ⟨xs, t1, t2⟩ := t; exact ⟨p, xs, rfl, hp _ t1, holds_mono e' _ _ t2⟩
  · obtain ⟨xs, t1, t2⟩ := t; exact ⟨p, xs, rfl, .inl (hp _ t1), holdK_mono e' _ _ t2⟩
  · obtain ⟨xs, t1, t2⟩ := t; exact ⟨p, xs, rfl, hp _ t1, holdT_mono e' _ _ t2⟩
/-- laid open -/
theorem Has.open_ (h : Has C B H F k d v f) (l : k.le .sh = true) : hold C.K (join B H f) d v := by
  have r := h.rep
  cases k <;> simp only [Kind.le, Bool.false_eq_true] at l <;> simp only [vrep] at r
  · exact hold_sc r.1
  · rw [r.2]; exact hold_mono (.of fun a o e _ => by rw [join_out (by simp)]; exact e) _ _ r.1
  · rcases r with r | ⟨p, rfl, ef, t⟩
    · exact hold_sc r.1
    · subst ef
      exact topAt_in t (join_ext h.nB) fun o e => by rw [join_in (List.mem_singleton.mpr rfl)]; exact e
  · exact own_hold d v f r fun a m o e _ => by rw [join_in m]; exact e
theorem Step.join {B0 H0 : Hp} {P : Addr → Prop} {F' : Nat → List Addr} {g : List Addr} (t : Step B0 H0 P B H (fun a => FP F' a ∨ a ∈ f)) (n : ∀ a ∈ f, B a = none) (sub : ∀ a ∈ g, a ∈ f) : Step B0 H0 P (join B H g) H (FP F') where
  ex := fun a o e => join_ext (fun a m => n a (sub a m)) a o (t.ex a o e)
  up := t.up
  th := t.th
  new := fun a h => t.new a (.inl h)
  newB := fun a h => by
    by_cases m : a ∈ g
    · exact .inr (t.new a (.inr (sub a m)))
    · rw [join_out m] at h; exact t.newB a h
theorem vrep_deep_top (h : own H d v f) (sub : Sub B H) : ∃ g p', (∀ a ∈ g, a ∈ f) ∧ (f = [] ∧ g = [] ∧ scV d = some v ∨ f = p' :: g ∧ p' ∉ g ∧ v = .ref p' ∧ topAt C.K (join B H g) H p' d) := by
  cases d <;> simp only [own] at h
  case lst ds =>
    obtain ⟨p, xs, g, e1, e2, e3, e4, e5⟩ := h
    subst e2
    exact ⟨g, p, fun a m => List.mem_cons_of_mem _ m, .inr ⟨rfl, e4, e1, xs, e3, owns_hold ds xs g e5 fun a m o e _ => by rw [join_in m]; exact e⟩⟩
  case tup ds =>
    obtain ⟨p, xs, g, e1, e2, e3, e4, e5⟩ := h
    subst e2
    exact ⟨g, p, fun a m => List.mem_cons_of_mem _ m, .inr ⟨rfl, e4, e1, xs, e3, owns_hold ds xs g e5 fun a m o e _ => by rw [join_in m]; exact e⟩⟩
  all_goals
    obtain ⟨e1, e2⟩ := h
    subst e2
    exact ⟨[], 0, fun _ m => m, .inl ⟨rfl, rfl, by rw [e1]; rfl⟩⟩
/-- one may ask less -/
theorem Post.le {ρ' : Env} {pu : Bool} {Q : VK} {k' : Kind} (h : Post C ks pin σ B H F ρ' k' d pu Q) (l : k.le k' = true) : Post C ks pin σ B H F ρ' k d pu Q := by
  intro v B' H' F' f st sta has hp
  have r := has.rep
  by_cases e : k = k'
  · subst e; exact h v B' H' F' f st sta has hp
  cases k <;> cases k' <;> simp only [Kind.le, Bool.false_eq_true] at l <;> try (exact absurd rfl e)
  case im.sh =>
    simp only [vrep] at r
    exact h v B' H' F' f st sta ⟨⟨hold_sc r.1, r.2⟩, has.dj, has.nB⟩ hp
  case im.deep =>
    simp only [vrep] at r
    obtain ⟨r1, rfl⟩ := r
    exact h v B' H' F' [] st sta ⟨own_sc r1, has.dj, has.nB⟩ hp
  case im.top =>
    simp only [vrep] at r
    exact h v B' H' F' f st sta ⟨.inl r, has.dj, has.nB⟩ hp
  case top.sh =>
    exact h v (join B' H' f) H' F' [] ((st.join has.nB fun _ m => m).less fun a z => z.elim id fun m => by cases m) (sta.absorb has.at has.dj has.nB)
      ⟨⟨has.open_ rfl, rfl⟩, nomem, nomem⟩ hp
  case deep.sh =>
    exact h v (join B' H' f) H' F' [] ((st.join has.nB fun _ m => m).less fun a z => z.elim id fun m => by cases m) (sta.absorb has.at has.dj has.nB)
      ⟨⟨has.open_ rfl, rfl⟩, nomem, nomem⟩ hp
  case deep.top =>
    obtain ⟨g, p, hg, q⟩ := vrep_deep_top (C := C) (B := B') (show own H' d v f from r) sta.sub
    have st2 := st.join (g := g) has.nB hg
    have sta2 := sta.absorb (f := g) (fun a m => has.at a (hg a m)) (fun a m => has.dj a (hg a m)) fun a m => has.nB a (hg a m)
    rcases q with ⟨e1, e2, e3⟩ | ⟨e1, e2, e3, e4⟩
    · subst e1
      exact h v _ H' F' [] (st2.less fun a z => z.elim id fun m => by cases m) sta2 ⟨.inl ⟨e3, rfl⟩, nomem, nomem⟩ hp
    · have mp : p ∈ f := by rw [e1]; exact List.mem_cons_self
      refine h v (TW.join B' H' g) H' F' [p] ⟨st2.ex, st2.up, st2.th, fun a z => ?_, st2.newB⟩ sta2 ⟨.inr ⟨p, e3, rfl, e4⟩, fun a m => ?_, fun a m => ?_⟩ hp
      · rcases z with z | z
        · exact st.new a (.inl z)
        · rw [List.mem_singleton.mp z]; exact st.new p (.inr mp)
      · rw [List.mem_singleton.mp m]; exact has.dj p mp
      · rw [List.mem_singleton.mp m, join_out e2]; exact has.nB p mp
/-- nothing done -/
theorem Step.id {B H : Hp} {P : Addr → Prop} {f : List Addr} (h : f = []) : Step B H P B H (fun a => P a ∨ a ∈ f) := ⟨fun _ _ e => e, fun _ _ e _ _ => e, fun _ e => e, fun a z => z.elim Or.inl (fun m => by rw [h] at m; cases m), fun _ e => .inl e⟩
end
end TW

/-! ## min, max, sorted by a lambda -/
namespace TW
open PySem PySem.Spec PyProof.Rows L2 LamX NdefX
/-- the context, one call deeper -/
def inn (X : Cx) : Cx := { X with A := X.A.in1 }
section
variable {X : Cx} {pins : List (Addr × Obj)} {σ : L2.St} {H : Hp} {s : Shared}
theorem inn_ok (ok : X.Ok) : (inn X).Ok := ⟨ok.mod, ok.kind, ok.glob, ok.blt, ok.above, ok.inj, ok.has, ok.cab, ok.hd, ok.frames, ok.stk, ok.exf, ok.bs, ok.bsz, ok.noex, ok.exfs, ok.funs, ok.frf⟩
theorem inn_to (I : Inv X pins σ H s) : Inv (inn X) pins σ H s := ⟨inn_ok I.ok, I.os, I.bare, I.base, I.loc, I.cell, I.free, I.freeC, I.pin, I.hok, I.len⟩
theorem inn_of (ok : X.Ok) (I : Inv (inn X) pins σ H s) : Inv X pins σ H s := ⟨ok, I.os, I.bare, I.base, I.loc, I.cell, I.free, I.freeC, I.pin, I.hok, I.len⟩
/-- a def's function object, made by a lambda -/
def lamF (q : Str) (params : Arguments) (scope : Scope) (cl : List (Str × Addr)) (c : Addr) : NF := ⟨"<lambda>", q, params, [], scope, cl, c⟩
/-- the lambda is called by something built in -/
theorem lam_run {k : Nat} {f c' : Addr} {a : Str} {fr : List Str} {ws : List (Option V)} {q : Str} {params : Arguments} {body : Expr} {scope : Scope} {cl : List (Str × Addr)} {pm ctv : Value} {tb : TE} {A' : Around} {x : V} {u : Value} {Q : VK} {Ex : Value → Shared → Prop}
    (I : Inv X pins σ H s) (hf : s.heap.get? f = some (PySem.W.kla_obj "<lambda>" q params body scope cl pm c' ctv)) (hc : H c' = some (CodeO c' q)) (S : NScope (a :: fr) [a] fr scope) (C : CellsAt cl fr ws s.heap H)
    (hbind : ∀ u, bindArgs (PySem.W.kla_fn "<lambda>" q params body scope cl pm (.ref c') ctv) ⟨[u], []⟩ = pure [(a, u)]) (hA : A'.frames = X.A.frames) (hr : Room (k + 1) A')
    (hbody : ∀ (A : Around) (outer : List PySem.Env) (s : Shared) (H : Hp), Room k (A.deeper (envF (lamF q params scope cl c') f s.heap.objs.size)) → PE (ncx (L2.CX X.prog X.w) X.prog X.w X.K X.mg X.base (a :: fr) (lamF q params scope cl c') f A outer s H fun _ _ _ => False) body tb)
    (rx : RelV x u) (ht : tb (startF (a :: fr) [x] ws) H Q) : wpAny (model X.prog X.w) A' (call (.ref f) [u]) (EP X pins σ Q) Ex s := by
  obtain ⟨⟨oc, vs, t, hoc, hdc, hvc⟩, _, _⟩ := I.hok c' _ hc
  have e0' := I.env0
  have e0 : Env0 X.prog X.w X.K X.mg X.base A' X.stack s H := ⟨hA.trans e0'.frames, e0'.mod, e0'.bs, e0'.bsz, e0'.funs, e0'.frf, e0'.hok, e0'.bare⟩
  have lim : s.heap.NoLimit := e0.mod.nolimit.keeps fun b o e => (e0.bs b o e).1
  have rc : codeAny (model X.prog X.w) A' (.call (.ref f) ⟨[u], []⟩) (CR (L2.CX X.prog X.w) X.stack X.prog X.w H s Q fun _ _ _ => False) s := by
    refine PySem.W.kla_callFunE hr.depth hf rfl S.co S.gen rfl ⟨c', oc, vs, t, rfl, hoc, hdc, hvc⟩ ?_
    rw [hbind u]
    refine wpAny_pure (wpAny_newFunctionEnv S.nocell (fun y hy => ?_) (fun h₁ hns hsb => ⟨lim.fresh _ hsb, ?_⟩) S.kind)
    · obtain rfl := List.mem_singleton.mp hy
      exact S.par a List.mem_cons_self
    show codeAny _ _ (.expr body (envF (lamF q params scope cl c') f s.heap.objs.size)) _ _
    have kp : ∀ b o, s.heap.get? b = some o → h₁.get? b = some o := fun b o e => hsb.extBut b o (Nat.ne_of_lt (Heap.lt_size e)) (Heap.get?_push_of_some _ e)
    have J : Inv (ncx (L2.CX X.prog X.w) X.prog X.w X.K X.mg X.base (a :: fr) (lamF q params scope cl c') f A' X.stack s H fun _ _ _ => False) [] (startF (a :: fr) [x] ws) H { s with heap := h₁, toks := s.toks + ([(a, u)] : List (Str × Value)).length } :=
      inv_startN (ps := [a]) (us := [u]) S hr.hd e0 rfl (.cons rx .nil) C hns kp
    refine PySem.W.kla_codeExpr (wpAny_mono ((hbody _ _ s H (hr.deeper _)).run [] _ _ H Q J ht) (fun v s' hq => ?_) fun e s' hq => hq)
    obtain ⟨w', H', J', rv, q⟩ := hq
    exact ⟨w', H', J'.os, J'.bare, J'.base, J'.hok, rv, q⟩
  refine wpAny_call (codeAny_mono rc fun r s' hq => ?_)
  cases r with
  | error e =>
    obtain ⟨_, _, _, _, _, _, _, _, _, _, _, _, z⟩ := hq
    exact z.elim
  | ok fl =>
    cases fl with
    | ret u => exact I.after hq
    | next => exact False.elim hq
    | brk => exact False.elim hq
    | cont => exact False.elim hq
end
end TW

namespace TW
open PySem PySem.Spec PyProof.Rows L2 LamX NdefX
def kvAt (K : PySem.W.Frag) (H : Hp) : KV → V → Prop
  | .i n, v => v = .int n
  | .p a b, v => ∃ t, v = .ref t ∧ SqT K H t [.int a, .int b]
def opM (mx : Bool) : CmpOp := if mx then .Gt else .Lt
section
variable {X : Cx} {pins : List (Addr × Obj)} {σ : L2.St} {H : Hp} {s : Shared}
theorem kv_cmp {mx : Bool} {k1 k2 : KV} {v1 v2 : V} {u1 u2 : Value} {b : Bool} (I : Inv X pins σ H s) (h1 : kvAt X.K H k1 v1) (h2 : kvAt X.K H k2 v2) (r1 : RelV v1 u1) (r2 : RelV v2 u2) (hb : better mx k1 k2 = some b) (hu : X.A.in1.units < cLine) :
    Ob.RcOp (opM mx) X.A.in1 s u1 u2 b := by
  cases k1 with
  | i a =>
    cases k2 with
    | i c =>
      simp only [kvAt] at h1 h2
      subst h1; subst h2
      obtain ⟨t1, rfl⟩ := r1
      obtain ⟨t2, rfl⟩ := r2
      cases mx with
      | true =>
        simp only [better, if_true, Option.some.injEq] at hb
        subst hb
        exact Ob.RcOp.gt_int _ _ _ _
      | false =>
        simp only [better, Bool.false_eq_true, if_false, Option.some.injEq] at hb
        subst hb
        exact Ob.RcOp.lt_int _ _ _ _
    | p c d => simp [better] at hb
  | p a a2 =>
    cases k2 with
    | i c => simp [better] at hb
    | p c c2 =>
      cases mx with
      | true => simp [better] at hb
      | false =>
        simp only [better, Bool.false_eq_true, if_false, Option.some.injEq] at hb
        subst hb
        obtain ⟨t1, rfl, q1⟩ := h1
        obtain ⟨t2, rfl, q2⟩ := h2
        cases r1
        cases r2
        obtain ⟨its, w1, p1, _⟩ := I.tuple q1
        obtain ⟨its2, w2, p2, _⟩ := I.tuple q2
        obtain ⟨x1, x2, rfl, ⟨y1, rfl⟩, ⟨y2, rfl⟩⟩ := vals2 w1
        obtain ⟨x3, x4, rfl, ⟨y3, rfl⟩, ⟨y4, rfl⟩⟩ := vals2 w2
        have R := Ob.RcOp.tuples_lt (A := X.A.in1) (s := s) (e := fun j => decide ([a, a2].getD j 0 = [c, c2].getD j 0)) (r := fun j => decide ([a, a2].getD j 0 < [c, c2].getD j 0)) p1 p2 hu (fun j h1 h2 => by
          have z : ∀ x y : Int, (x == y) = decide (x = y) := fun x y => by
            by_cases q : x = y
            · rw [decide_eq_true q]; exact beq_iff_eq.mpr q
            · rw [decide_eq_false q]; exact beq_eq_false_iff_ne.mpr q
          match j, h1, h2 with
          | 0, _, _ => rw [← z]; exact SeqAt.EqAt.int_int _ _ _ _
          | 1, _, _ => rw [← z]; exact SeqAt.EqAt.int_int _ _ _ _
          | j + 2, h1, _ => simp at h1; omega) (fun j h1 h2 _ => by
          match j, h1, h2 with
          | 0, _, _ => exact Ob.RcOp.lt_int _ _ _ _
          | 1, _, _ => exact Ob.RcOp.lt_int _ _ _ _
          | j + 2, h1, _ => simp at h1; omega)
        have e : Ob.lexAt (fun j => decide ([a, a2].getD j 0 = [c, c2].getD j 0)) (fun j => decide ([a, a2].getD j 0 < [c, c2].getD j 0)) (decide (([Value.int a y1, Value.int a2 y2] : List Value).toArray.size < ([Value.int c y3, Value.int c2 y4] : List Value).toArray.size)) 0 (min ([Value.int a y1, Value.int a2 y2] : List Value).toArray.size ([Value.int c y3, Value.int c2 y4] : List Value).toArray.size) = decide (a < c ∨ (a = c ∧ a2 < c2)) := by
          simp only [List.size_toArray, List.length_cons, List.length_nil, Nat.min_self]
          show Ob.lexAt _ _ _ 0 2 = _
          rw [Ob.lexAt_succ, Ob.lexAt_succ, Ob.lexAt_zero]
          simp only [List.getD_cons_zero, List.getD_cons_succ, Nat.zero_add]
          by_cases q1 : a = c
          · subst q1
            simp only [decide_true, if_true, Int.lt_irrefl, true_and, false_or]
            by_cases q2 : a2 = c2
            · subst q2; simp
            · rw [if_neg (by simpa using q2)]
          · rw [if_neg (by simpa using q1)]
            simp only [q1, false_and, or_false]
        rw [e] at R
        exact R
/-- the loop of max (min): what is left to look at; the best one so far, its key -/
def rBest (K : PySem.W.Frag) (mx : Bool) (Gd : Hp → Prop) (cl : V → Hp → (V → Hp → Prop) → Prop) : V → KV → V → List V → Hp → VK → Prop
  | xb, _, _, [], H, Q => Gd H ∧ Q xb H
  | xb, kb, vb, x :: r, H, Q => Gd H ∧ cl x H fun v H1 => Gd H1 ∧ kvAt K H1 kb vb ∧ ∃ k b, kvAt K H1 k v ∧ better mx k kb = some b ∧ if b = true then rBest K mx Gd cl x k v r H1 Q else rBest K mx Gd cl xb kb vb r H1 Q
theorem letgo_nm {x : Str} {p : Pos} {it u : Value} : letOwnedTupleGo (.Name x p) it u = pure () := by
  unfold letOwnedTupleGo
  first
    | rfl
    | (cases it <;> first | rfl | (cases u <;> rfl))
theorem wp_drop {α : Type} {M : Model} {A : Around} {t : Sem α} {f : α → Sem Unit} {Q : α → Shared → Prop} {E : Value → Shared → Prop} {s : Shared} (hf : ∀ a, f a = pure ()) (h : wpAny M A t (fun r s1 => wpAny M A (f r) (fun _ s2 => Q r s2) E s1) E s) : wpAny M A t Q E s :=
  fun Γ p hΓ => Sem.wp_mono M Γ t (fun a p' s' h' => by
    have z := h' Γ p' hΓ
    rw [hf a] at z
    exact z) (fun _ _ _ z => z) p s (h Γ p hΓ)
/-- a walk over xs, while Gd -/
structure Wk (X : Cx) (xs : List V) (Gd : Hp → Prop) (it : Addr) (fp : List Addr) (tn : Nat → Heap → Prop) : Prop where
  mem : it ∈ fp
  obj : ∀ i h, tn i h → ∀ b ∈ fp, ∃ o, h.get? b = some o ∧ ∀ v, o.data ≠ .cell v
  keep : ∀ i h h', tn i h → (∀ b ∈ fp, ∀ o, h.get? b = some o → h'.get? b = some o) → tn i h'
  item : ∀ (i : Nat) (x : V) (pins : List (Addr × Obj)) (s : Shared) (σ : L2.St) (H : Hp) (E : Value → Shared → Prop), Inv (inn X) pins σ H s → (∀ b ∈ fp, FpOk X pins H b) → tn i s.heap → Gd H → xs[i]? = some x →
    wpAny (model X.prog X.w) X.A.in1 (pyNext (.ref it)) (fun r s2 => ∃ u, r = some u ∧ Inv (inn X) pins σ H s2 ∧ RelV x u ∧ tn (i + 1) s2.heap) E s
  done : ∀ (pins : List (Addr × Obj)) (s : Shared) (σ : L2.St) (H : Hp) (E : Value → Shared → Prop), Inv (inn X) pins σ H s → (∀ b ∈ fp, FpOk X pins H b) → tn xs.length s.heap → Gd H →
    wpAny (model X.prog X.w) X.A.in1 (pyNext (.ref it)) (fun r s2 => r = none ∧ Inv (inn X) pins σ H s2) E s
theorem wk_of {J : It} {fp : List Addr} {it : Addr} {tn : Nat → Heap → Prop} {xs : List V} {Gd : Hp → Prop} (hc : X.calm = true) (T : L2.Turn X.prog X.w X.K (.Name "" ⟨0, 0, 0, 0⟩) J fp it tn)
    (go : ∀ i x H, Gd H → xs[i]? = some x → J.go i H) (st : ∀ H, Gd H → J.stop xs.length H) (yl : ∀ i x H y H', Gd H → xs[i]? = some x → J.yld i H y H' → H' = H ∧ y = x) : Wk X xs Gd it fp tn where
  mem := T.mem
  obj := T.obj
  keep := T.keep
  item := fun i x pins s σ H E I hf ht hg hx => by
    have h := T.item (inn X) rfl rfl rfl hc i pins s σ H E I hf ht (go i x H hg hx)
    refine wp_drop (f := fun r => letOwnedTupleGo (.Name "" ⟨0, 0, 0, 0⟩) (.ref it) (r.getD .none)) (fun _ => letgo_nm) (thn h fun r s1 ⟨u, hr, h1⟩ => ?_)
    subst hr
    refine thn h1 fun _ s2 ⟨y, H', I2, r2, yy, ht2, _⟩ => ?_
    obtain ⟨e1, e2⟩ := yl i x H y H' hg hx yy
    subst e1 e2
    exact ⟨u, rfl, I2, r2, ht2⟩
  done := fun pins s σ H E I hf ht hg => T.done (inn X) rfl rfl rfl hc xs.length pins s σ H E I hf ht (st H hg)
end
end TW

namespace TW
open PySem PySem.Spec PyProof.Rows L2 LamX NdefX
section
variable {X : Cx} {pins : List (Addr × Obj)} {σ : L2.St} {H : Hp} {s : Shared}
/-- the loop -/
theorem best_loopN {f it S : Addr} {fo : Obj} {xs : List V} {Gd : Hp → Prop} {fp : List Addr} {tn : Nat → Heap → Prop} {cl : V → Hp → (V → Hp → Prop) → Prop} {Q : VK} {Ex : Value → Shared → Prop} (W : Wk X xs Gd it fp tn) (nS : S ∉ fp) (hu : X.A.in1.units < cLine)
    (hcall : ∀ (pins' : List (Addr × Obj)) (s : Shared) (H : Hp) (x : V) (u : Value) (R : V → Hp → Prop), Inv X ((f, fo) :: pins') σ H s → RelV x u → cl x H R →
      wpAny (model X.prog X.w) X.A.in1 (call (.ref f) [u]) (fun r s' => ∃ v H', Inv X ((f, fo) :: pins') σ H' s' ∧ RelV v r ∧ R v H') (fun _ _ => False) s) :
    ∀ (r : List V) (i : Nat) (s : Shared) (H : Hp) (xb : V) (kb : KV) (vb : V) (ub wb : Value) (c : Nat), xs.drop i = r → i ≤ xs.length → Inv X ((f, fo) :: pins) σ H s → (∀ b ∈ fp, FpOk X ((f, fo) :: pins) H b) → FpOk X ((f, fo) :: pins) H S → tn i s.heap →
      s.heap.get? S = some (seqObj "list" #[ub, wb] c) → RelV xb ub → RelV vb wb → kvAt X.K H kb vb → rBest X.K false Gd cl xb kb vb r H Q →
      codeAny (model X.prog X.w) X.A (.builtin "min.loop" ⟨[.ref it, .ref f, .ref S], []⟩) (fun r s' => match r with | .ok (.ret v) => EP X pins σ Q v s' | .ok _ => False | .error e => Ex e s') s := by
  have hname : (toString "min" ++ toString ".loop" : String) = "min.loop" := by decide
  intro r
  induction r with
  | nil =>
    intro i s H xb kb vb ub wb c hd hi I hfp hfS ht hS rb rv hk hr
    have hin : i = xs.length := by
      have := congrArg List.length hd
      rw [List.length_drop, List.length_nil] at this
      omega
    subst hin
    obtain ⟨hg, hq⟩ := hr
    refine codeAny_builtin PySem.F.entry_min_loop ?_
    rw [Around.under_plainId PySem.F.plain_min_loop _]
    show wpAny _ X.A.in1 (seqItems? (.ref S) >>= _) _ _ _
    refine wpAny_bind (wpAny_seqItems hS rfl ?_)
    show wpAny _ X.A.in1 (tryCatch (pyNext (.ref it)) _ >>= _) _ _ _
    have I0 := (inn_to I).pinned (fp := [S]) (fun b hb => by
      obtain rfl := List.mem_singleton.mp hb
      exact hfS) (fun b hb => by
      obtain rfl := List.mem_singleton.mp hb
      exact ⟨_, hS, fun v z => by cases z⟩)
    refine wpAny_bind (wpAny_tryCatch (thn (W.done _ _ _ _ _ I0 (fun b hb => ?_) ht hg) fun rr s2 ⟨hr, I2⟩ => ?_))
    · have q := hfp b hb
      refine ⟨q.1, q.2.1, q.2.2.1, q.2.2.2.1, q.2.2.2.2.1, fun p hp z => ?_⟩
      rcases List.mem_append.mp hp with hp | hp
      · exact q.2.2.2.2.2 p (List.mem_append_left _ hp) z
      · rcases List.mem_append.mp hp with hp | hp
        · exact q.2.2.2.2.2 p (List.mem_append_right _ hp) z
        · have e := (of_pinsAt hp).1
          rw [List.mem_singleton.mp e] at z
          exact nS (z ▸ hb)
    subst hr
    have hS2 : s2.heap.get? S = some (seqObj "list" #[ub, wb] c) := (I2.pin _ (List.mem_append_right _ (List.mem_append_right _ (mem_pinsAt (List.mem_singleton.mpr rfl) hS)))).1
    show wpAny _ X.A.in1 (updateSeq S (fun _ => #[]) >>= _) _ _ _
    refine wpAny_bind ?_
    refine wpAny_updateSeq hS2 rfl (wpAny_bind (wpAny_letGo (wpAny_pure ?_)))
    have s1 := Heap.SameBut.update s2.heap S (Obj.mapSeq fun _ => (#[] : Array Value))
    have I3 : Inv X ((f, fo) :: pins) σ H s2 := inn_of I.ok I2.unpinned
    have I4 := I3.turned (t' := s2.toks) (h' := s2.heap.update S (Obj.mapSeq fun _ => (#[] : Array Value))) (it := S) (fun b o hb e => (s1.2 b hb).trans e) hfS.1 hfS.2.1 hfS.2.2.2.1 hfS.2.2.2.2.1 hfS.2.2.2.2.2
    exact ⟨xb, H, I4.pins_of fun p hp => I4.pin p (List.mem_append_right _ (List.mem_cons_of_mem _ hp)), rb, hq⟩
  | cons x r ih =>
    intro i s H xb kb vb ub wb c hd hi I hfp hfS ht hS rb rv hk hr
    have hlt : i < xs.length := by
      have := congrArg List.length hd
      rw [List.length_drop, List.length_cons] at this
      omega
    have hx : xs[i]? = some x := by
      have := congrArg (fun l => l[0]?) hd
      simpa using this
    have hd' : xs.drop (i + 1) = r := by
      rw [← List.drop_drop, hd]; rfl
    obtain ⟨hg, hr⟩ := hr
    refine codeAny_builtin PySem.F.entry_min_loop ?_
    rw [Around.under_plainId PySem.F.plain_min_loop _]
    show wpAny _ X.A.in1 (seqItems? (.ref S) >>= _) _ _ _
    refine wpAny_bind (wpAny_seqItems hS rfl ?_)
    show wpAny _ X.A.in1 (tryCatch (pyNext (.ref it)) _ >>= _) _ _ _
    have I0 := (inn_to I).pinned (fp := [S]) (fun b hb => by
      obtain rfl := List.mem_singleton.mp hb
      exact hfS) (fun b hb => by
      obtain rfl := List.mem_singleton.mp hb
      exact ⟨_, hS, fun v z => by cases z⟩)
    refine wpAny_bind (wpAny_tryCatch (thn (W.item i x _ _ _ _ _ I0 (fun b hb => ?_) ht hg hx) fun rr s2 ⟨u, hr0, I2, ru, ht2⟩ => ?_))
    · have q := hfp b hb
      refine ⟨q.1, q.2.1, q.2.2.1, q.2.2.2.1, q.2.2.2.2.1, fun p hp z => ?_⟩
      rcases List.mem_append.mp hp with hp | hp
      · exact q.2.2.2.2.2 p (List.mem_append_left _ hp) z
      · rcases List.mem_append.mp hp with hp | hp
        · exact q.2.2.2.2.2 p (List.mem_append_right _ hp) z
        · have e := (of_pinsAt hp).1
          rw [List.mem_singleton.mp e] at z
          exact nS (z ▸ hb)
    subst hr0
    have hS2 : s2.heap.get? S = some (seqObj "list" #[ub, wb] c) := (I2.pin _ (List.mem_append_right _ (List.mem_append_right _ (mem_pinsAt (List.mem_singleton.mpr rfl) hS)))).1
    have I3 : Inv X ((f, fo) :: pins) σ H s2 := inn_of I.ok I2.unpinned
    have I4 := I3.pinned (fp := S :: fp) (fun b hb => (List.mem_cons.mp hb).elim (fun e => by rw [e]; exact hfS) fun m => hfp b m) (fun b hb => (List.mem_cons.mp hb).elim (fun e => by rw [e]; exact ⟨_, hS2, fun v z => by cases z⟩) fun m => W.obj _ _ ht2 b m)
    show wpAny _ X.A.in1 (tryCatch (holding [u] (call (.ref f) [u])) _ >>= _) _ _ _
    refine wpAny_bind (wpAny_tryCatch (wpAny_holding (wpAny_mono (hcall (pins ++ pinsAt (S :: fp) s2.heap) s2 H x u _ I4 ru hr) (fun kw s3 he => ?_) fun _ _ hF => hF.elim)))
    obtain ⟨v3, H3, I5, r3, hg3, hkb3, k, b, hk3, hbt, hr3⟩ := he
    have I5' : Inv X (((f, fo) :: pins) ++ pinsAt (S :: fp) s2.heap) σ H3 s3 := I5
    have at3 : ∀ {q : Addr} {o : Obj}, q ∈ S :: fp → s2.heap.get? q = some o → s3.heap.get? q = some o ∧ H3 q = none := fun {q o} m e => by
      have z := I5'.pin (q, o) (List.mem_append_right _ (List.mem_append_right _ (mem_pinsAt m e)))
      exact ⟨z.1, z.2.1⟩
    have I6 : Inv X ((f, fo) :: pins) σ H3 s3 := I5'.unpinned
    have hS3 := at3 List.mem_cons_self hS2
    have ht3 : tn (i + 1) s3.heap := W.keep _ _ _ ht2 fun b m o e => (at3 (List.mem_cons_of_mem _ m) e).1
    have hfp3 : ∀ b ∈ fp, FpOk X ((f, fo) :: pins) H3 b := fun b m => by
      obtain ⟨o, e, _⟩ := W.obj _ _ ht2 b m
      exact ⟨(at3 (List.mem_cons_of_mem _ m) e).2, (hfp b m).2⟩
    have hfS3 : FpOk X ((f, fo) :: pins) H3 S := ⟨hS3.2, hfS.2⟩
    show wpAny _ X.A.in1 (tryCatch (holding [u, kw] (richCompare (opM false) kw wb >>= _)) _ >>= _) _ _ _
    refine wpAny_bind (wpAny_tryCatch (wpAny_holding (wpAny_bind (kv_cmp I6 hk3 hkb3 r3 rv hbt hu _ _ _ _ ?_))))
    refine wpAny_bind (wpAny_holding (wpAny_truthy_bool ?_))
    refine wpAny_bind (wpAny_letGo (wpAny_pure ?_))
    cases b with
    | true =>
      simp only [if_true] at hr3 ⊢
      have s1 := Heap.SameBut.update s3.heap S (Obj.mapSeq fun _ => #[u, kw])
      obtain ⟨c2, hc2⟩ : ∃ c2, (s3.heap.update S (Obj.mapSeq fun _ => #[u, kw])).get? S = some (seqObj "list" #[u, kw] c2) := ⟨_, get?_update_seq hS3.1 fun _ => #[u, kw]⟩
      refine wpAny_bind ?_
      refine wpAny_updateSeq hS3.1 rfl (wpAny_bind (wpAny_letGo ?_))
      rw [hname]
      have I7 := I6.turned (t' := s3.toks) (h' := s3.heap.update S (Obj.mapSeq fun _ => #[u, kw])) (it := S) (fun b o hb e => (s1.2 b hb).trans e) hfS3.1 hfS3.2.1 hfS3.2.2.2.1 hfS3.2.2.2.2.1 hfS3.2.2.2.2.2
      refine wpAny_pure ⟨plainId_quiet PySem.F.plain_min_loop _, ih (i + 1) _ H3 x k v3 u kw c2 hd' hlt I7 hfp3 hfS3 (W.keep _ _ _ ht3 fun b m o e => (s1.2 b fun z => nS (z ▸ m)).trans e) hc2 ru r3 hk3 hr3⟩
    | false =>
      simp only [Bool.false_eq_true, if_false] at hr3 ⊢
      refine wpAny_bind (wpAny_letGo ?_)
      rw [hname]
      refine wpAny_pure ⟨plainId_quiet PySem.F.plain_min_loop _, ih (i + 1) _ H3 xb kb vb ub wb c hd' hlt I6 hfp3 hfS3 ht3 hS3.1 rb rv hkb3 hr3⟩
/-- the loop -/
theorem best_loopX {f it S : Addr} {fo : Obj} {xs : List V} {Gd : Hp → Prop} {fp : List Addr} {tn : Nat → Heap → Prop} {cl : V → Hp → (V → Hp → Prop) → Prop} {Q : VK} {Ex : Value → Shared → Prop} (W : Wk X xs Gd it fp tn) (nS : S ∉ fp) (hu : X.A.in1.units < cLine)
    (hcall : ∀ (pins' : List (Addr × Obj)) (s : Shared) (H : Hp) (x : V) (u : Value) (R : V → Hp → Prop), Inv X ((f, fo) :: pins') σ H s → RelV x u → cl x H R →
      wpAny (model X.prog X.w) X.A.in1 (call (.ref f) [u]) (fun r s' => ∃ v H', Inv X ((f, fo) :: pins') σ H' s' ∧ RelV v r ∧ R v H') (fun _ _ => False) s) :
    ∀ (r : List V) (i : Nat) (s : Shared) (H : Hp) (xb : V) (kb : KV) (vb : V) (ub wb : Value) (c : Nat), xs.drop i = r → i ≤ xs.length → Inv X ((f, fo) :: pins) σ H s → (∀ b ∈ fp, FpOk X ((f, fo) :: pins) H b) → FpOk X ((f, fo) :: pins) H S → tn i s.heap →
      s.heap.get? S = some (seqObj "list" #[ub, wb] c) → RelV xb ub → RelV vb wb → kvAt X.K H kb vb → rBest X.K true Gd cl xb kb vb r H Q →
      codeAny (model X.prog X.w) X.A (.builtin "max.loop" ⟨[.ref it, .ref f, .ref S], []⟩) (fun r s' => match r with | .ok (.ret v) => EP X pins σ Q v s' | .ok _ => False | .error e => Ex e s') s := by
  have hname : (toString "max" ++ toString ".loop" : String) = "max.loop" := by decide
  intro r
  induction r with
  | nil =>
    intro i s H xb kb vb ub wb c hd hi I hfp hfS ht hS rb rv hk hr
    have hin : i = xs.length := by
      have := congrArg List.length hd
      rw [List.length_drop, List.length_nil] at this
      omega
    subst hin
    obtain ⟨hg, hq⟩ := hr
    refine codeAny_builtin PySem.F.entry_max_loop ?_
    rw [Around.under_plainId PySem.F.plain_max_loop _]
    show wpAny _ X.A.in1 (seqItems? (.ref S) >>= _) _ _ _
    refine wpAny_bind (wpAny_seqItems hS rfl ?_)
    show wpAny _ X.A.in1 (tryCatch (pyNext (.ref it)) _ >>= _) _ _ _
    have I0 := (inn_to I).pinned (fp := [S]) (fun b hb => by
      obtain rfl := List.mem_singleton.mp hb
      exact hfS) (fun b hb => by
      obtain rfl := List.mem_singleton.mp hb
      exact ⟨_, hS, fun v z => by cases z⟩)
    refine wpAny_bind (wpAny_tryCatch (thn (W.done _ _ _ _ _ I0 (fun b hb => ?_) ht hg) fun rr s2 ⟨hr, I2⟩ => ?_))
    · have q := hfp b hb
      refine ⟨q.1, q.2.1, q.2.2.1, q.2.2.2.1, q.2.2.2.2.1, fun p hp z => ?_⟩
      rcases List.mem_append.mp hp with hp | hp
      · exact q.2.2.2.2.2 p (List.mem_append_left _ hp) z
      · rcases List.mem_append.mp hp with hp | hp
        · exact q.2.2.2.2.2 p (List.mem_append_right _ hp) z
        · have e := (of_pinsAt hp).1
          rw [List.mem_singleton.mp e] at z
          exact nS (z ▸ hb)
    subst hr
    have hS2 : s2.heap.get? S = some (seqObj "list" #[ub, wb] c) := (I2.pin _ (List.mem_append_right _ (List.mem_append_right _ (mem_pinsAt (List.mem_singleton.mpr rfl) hS)))).1
    show wpAny _ X.A.in1 (updateSeq S (fun _ => #[]) >>= _) _ _ _
    refine wpAny_bind ?_
    refine wpAny_updateSeq hS2 rfl (wpAny_bind (wpAny_letGo (wpAny_pure ?_)))
    have s1 := Heap.SameBut.update s2.heap S (Obj.mapSeq fun _ => (#[] : Array Value))
    have I3 : Inv X ((f, fo) :: pins) σ H s2 := inn_of I.ok I2.unpinned
    have I4 := I3.turned (t' := s2.toks) (h' := s2.heap.update S (Obj.mapSeq fun _ => (#[] : Array Value))) (it := S) (fun b o hb e => (s1.2 b hb).trans e) hfS.1 hfS.2.1 hfS.2.2.2.1 hfS.2.2.2.2.1 hfS.2.2.2.2.2
    exact ⟨xb, H, I4.pins_of fun p hp => I4.pin p (List.mem_append_right _ (List.mem_cons_of_mem _ hp)), rb, hq⟩
  | cons x r ih =>
    intro i s H xb kb vb ub wb c hd hi I hfp hfS ht hS rb rv hk hr
    have hlt : i < xs.length := by
      have := congrArg List.length hd
      rw [List.length_drop, List.length_cons] at this
      omega
    have hx : xs[i]? = some x := by
      have := congrArg (fun l => l[0]?) hd
      simpa using this
    have hd' : xs.drop (i + 1) = r := by
      rw [← List.drop_drop, hd]; rfl
    obtain ⟨hg, hr⟩ := hr
    refine codeAny_builtin PySem.F.entry_max_loop ?_
    rw [Around.under_plainId PySem.F.plain_max_loop _]
    show wpAny _ X.A.in1 (seqItems? (.ref S) >>= _) _ _ _
    refine wpAny_bind (wpAny_seqItems hS rfl ?_)
    show wpAny _ X.A.in1 (tryCatch (pyNext (.ref it)) _ >>= _) _ _ _
    have I0 := (inn_to I).pinned (fp := [S]) (fun b hb => by
      obtain rfl := List.mem_singleton.mp hb
      exact hfS) (fun b hb => by
      obtain rfl := List.mem_singleton.mp hb
      exact ⟨_, hS, fun v z => by cases z⟩)
    refine wpAny_bind (wpAny_tryCatch (thn (W.item i x _ _ _ _ _ I0 (fun b hb => ?_) ht hg hx) fun rr s2 ⟨u, hr0, I2, ru, ht2⟩ => ?_))
    · have q := hfp b hb
      refine ⟨q.1, q.2.1, q.2.2.1, q.2.2.2.1, q.2.2.2.2.1, fun p hp z => ?_⟩
      rcases List.mem_append.mp hp with hp | hp
      · exact q.2.2.2.2.2 p (List.mem_append_left _ hp) z
      · rcases List.mem_append.mp hp with hp | hp
        · exact q.2.2.2.2.2 p (List.mem_append_right _ hp) z
        · have e := (of_pinsAt hp).1
          rw [List.mem_singleton.mp e] at z
          exact nS (z ▸ hb)
    subst hr0
    have hS2 : s2.heap.get? S = some (seqObj "list" #[ub, wb] c) := (I2.pin _ (List.mem_append_right _ (List.mem_append_right _ (mem_pinsAt (List.mem_singleton.mpr rfl) hS)))).1
    have I3 : Inv X ((f, fo) :: pins) σ H s2 := inn_of I.ok I2.unpinned
    have I4 := I3.pinned (fp := S :: fp) (fun b hb => (List.mem_cons.mp hb).elim (fun e => by rw [e]; exact hfS) fun m => hfp b m) (fun b hb => (List.mem_cons.mp hb).elim (fun e => by rw [e]; exact ⟨_, hS2, fun v z => by cases z⟩) fun m => W.obj _ _ ht2 b m)
    show wpAny _ X.A.in1 (tryCatch (holding [u] (call (.ref f) [u])) _ >>= _) _ _ _
    refine wpAny_bind (wpAny_tryCatch (wpAny_holding (wpAny_mono (hcall (pins ++ pinsAt (S :: fp) s2.heap) s2 H x u _ I4 ru hr) (fun kw s3 he => ?_) fun _ _ hF => hF.elim)))
    obtain ⟨v3, H3, I5, r3, hg3, hkb3, k, b, hk3, hbt, hr3⟩ := he
    have I5' : Inv X (((f, fo) :: pins) ++ pinsAt (S :: fp) s2.heap) σ H3 s3 := I5
    have at3 : ∀ {q : Addr} {o : Obj}, q ∈ S :: fp → s2.heap.get? q = some o → s3.heap.get? q = some o ∧ H3 q = none := fun {q o} m e => by
      have z := I5'.pin (q, o) (List.mem_append_right _ (List.mem_append_right _ (mem_pinsAt m e)))
      exact ⟨z.1, z.2.1⟩
    have I6 : Inv X ((f, fo) :: pins) σ H3 s3 := I5'.unpinned
    have hS3 := at3 List.mem_cons_self hS2
    have ht3 : tn (i + 1) s3.heap := W.keep _ _ _ ht2 fun b m o e => (at3 (List.mem_cons_of_mem _ m) e).1
    have hfp3 : ∀ b ∈ fp, FpOk X ((f, fo) :: pins) H3 b := fun b m => by
      obtain ⟨o, e, _⟩ := W.obj _ _ ht2 b m
      exact ⟨(at3 (List.mem_cons_of_mem _ m) e).2, (hfp b m).2⟩
    have hfS3 : FpOk X ((f, fo) :: pins) H3 S := ⟨hS3.2, hfS.2⟩
    show wpAny _ X.A.in1 (tryCatch (holding [u, kw] (richCompare (opM true) kw wb >>= _)) _ >>= _) _ _ _
    refine wpAny_bind (wpAny_tryCatch (wpAny_holding (wpAny_bind (kv_cmp I6 hk3 hkb3 r3 rv hbt hu _ _ _ _ ?_))))
    refine wpAny_bind (wpAny_holding (wpAny_truthy_bool ?_))
    refine wpAny_bind (wpAny_letGo (wpAny_pure ?_))
    cases b with
    | true =>
      simp only [if_true] at hr3 ⊢
      have s1 := Heap.SameBut.update s3.heap S (Obj.mapSeq fun _ => #[u, kw])
      obtain ⟨c2, hc2⟩ : ∃ c2, (s3.heap.update S (Obj.mapSeq fun _ => #[u, kw])).get? S = some (seqObj "list" #[u, kw] c2) := ⟨_, get?_update_seq hS3.1 fun _ => #[u, kw]⟩
      refine wpAny_bind ?_
      refine wpAny_updateSeq hS3.1 rfl (wpAny_bind (wpAny_letGo ?_))
      rw [hname]
      have I7 := I6.turned (t' := s3.toks) (h' := s3.heap.update S (Obj.mapSeq fun _ => #[u, kw])) (it := S) (fun b o hb e => (s1.2 b hb).trans e) hfS3.1 hfS3.2.1 hfS3.2.2.2.1 hfS3.2.2.2.2.1 hfS3.2.2.2.2.2
      refine wpAny_pure ⟨plainId_quiet PySem.F.plain_max_loop _, ih (i + 1) _ H3 x k v3 u kw c2 hd' hlt I7 hfp3 hfS3 (W.keep _ _ _ ht3 fun b m o e => (s1.2 b fun z => nS (z ▸ m)).trans e) hc2 ru r3 hk3 hr3⟩
    | false =>
      simp only [Bool.false_eq_true, if_false] at hr3 ⊢
      refine wpAny_bind (wpAny_letGo ?_)
      rw [hname]
      refine wpAny_pure ⟨plainId_quiet PySem.F.plain_max_loop _, ih (i + 1) _ H3 xb kb vb ub wb c hd' hlt I6 hfp3 hfS3 ht3 hS3.1 rb rv hkb3 hr3⟩
end
end TW

namespace TW
open PySem PySem.Spec PyProof.Rows L2 LamX NdefX
section
variable {X : Cx} {pins : List (Addr × Obj)} {σ : L2.St} {H : Hp} {s : Shared}
/-- min of a walk -/
theorem best_callN {f : Addr} {fo : Obj} {v0 : Value} {xs : List V} {Gd : Hp → Prop} {cl : V → Hp → (V → Hp → Prop) → Prop} {Q : VK} {Ex : Value → Shared → Prop} (I : Inv X ((f, fo) :: pins) σ H s) (hu : X.A.in1.units < cLine)
    (hit : wpAny (model X.prog X.w) X.A.in1 (pyIter v0) (fun itv s2 => ∃ it fp tn, itv = .ref it ∧ Inv (inn X) ((f, fo) :: pins) σ H s2 ∧ Wk X xs Gd it fp tn ∧ tn 0 s2.heap ∧ ∀ b ∈ fp, FpOk X ((f, fo) :: pins) H b) Ex s)
    (hcall : ∀ (pins' : List (Addr × Obj)) (s : Shared) (H : Hp) (x : V) (u : Value) (R : V → Hp → Prop), Inv X ((f, fo) :: pins') σ H s → RelV x u → cl x H R →
      wpAny (model X.prog X.w) X.A.in1 (call (.ref f) [u]) (fun r s' => ∃ v H', Inv X ((f, fo) :: pins') σ H' s' ∧ RelV v r ∧ R v H') (fun _ _ => False) s)
    {x : V} {r : List V} (ex : xs = x :: r) (hg : Gd H) (hr : cl x H fun v H1 => Gd H1 ∧ ∃ k, kvAt X.K H1 k v ∧ rBest X.K false Gd cl x k v r H1 Q) :
    wpAny (model X.prog X.w) X.A (call (.builtin "min") [v0] [(Str.ofString "key", .ref f)]) (EP X pins σ Q) Ex s := by
  have hname : (toString "min" ++ toString ".loop" : String) = "min.loop" := by decide
  refine kmk_tree PySem.F.kind_min PySem.F.plain_min PySem.F.entry_min (kmk_min_key _ _) ?_
  show wpAny _ X.A.in1 (Builtin.Builtins.bindParams "min" ["key", "default"] 0 ⟨[], [(Str.ofString "key", .ref f)]⟩ >>= _) _ _ s
  refine wpAny_bind (wpAny_of_eq (show Builtin.Builtins.bindParams "min" ["key", "default"] 0 ⟨[], [(Str.ofString "key", .ref f)]⟩ = pure [some (.ref f), none] from rfl) ?_)
  refine wpAny_bind (wpAny_pure ?_)
  refine wpAny_bind (thn hit fun itv s1 ⟨it, fp, tn, e, I1, W, ht, hfp⟩ => ?_)
  subst e
  refine wpAny_bind (wpAny_newList ?_ (Nat.zero_le _))
  rw [hname]
  have hS : (s1.heap.push (seqObj "list" #[] 0)).get? s1.heap.objs.size = some (seqObj "list" #[] 0) := Heap.get?_push_size _ rfl
  have I1' : Inv X ((f, fo) :: pins) σ H s1 := inn_of I.ok I1
  have hfS : FpOk X ((f, fo) :: pins) H s1.heap.objs.size := I1'.fpOk (Nat.le_refl _) (I1'.hok.fresh (Nat.le_refl _))
  have nS : s1.heap.objs.size ∉ fp := fun m => by
    obtain ⟨o, e, _⟩ := W.obj _ _ ht _ m
    exact absurd (Heap.lt_size e) (Nat.lt_irrefl _)
  have I2 : Inv X ((f, fo) :: pins) σ H { s1 with heap := s1.heap.push (seqObj "list" #[] 0) } := I1'.kept (t' := s1.toks) fun b o e => Heap.get?_push_of_some _ e
  have ht0 : tn 0 (s1.heap.push (seqObj "list" #[] 0)) := W.keep _ _ _ ht fun b m o e => Heap.get?_push_of_some _ e
  generalize s1.heap.objs.size = S at hS hfS nS
  have hx : xs[0]? = some x := by rw [ex]; rfl
  refine wpAny_pure ⟨plainId_quiet PySem.F.plain_min_loop _, ?_⟩
  refine codeAny_builtin PySem.F.entry_min_loop ?_
  rw [Around.under_plainId PySem.F.plain_min_loop _]
  show wpAny _ X.A.in1 (seqItems? (.ref S) >>= _) _ _ _
  refine wpAny_bind (wpAny_seqItems hS rfl ?_)
  show wpAny _ X.A.in1 (tryCatch (pyNext (.ref it)) _ >>= _) _ _ _
  have I0 := (inn_to I2).pinned (fp := [S]) (fun b hb => by
    obtain rfl := List.mem_singleton.mp hb
    exact hfS) (fun b hb => by
    obtain rfl := List.mem_singleton.mp hb
    exact ⟨_, hS, fun v z => by cases z⟩)
  refine wpAny_bind (wpAny_tryCatch (thn (W.item 0 x _ _ _ _ _ I0 (fun b hb => ?_) ht0 hg hx) fun rr s2 ⟨u, hr0, I2, ru, ht2⟩ => ?_))
  · have q := hfp b hb
    refine ⟨q.1, q.2.1, q.2.2.1, q.2.2.2.1, q.2.2.2.2.1, fun p hp z => ?_⟩
    rcases List.mem_append.mp hp with hp | hp
    · exact q.2.2.2.2.2 p (List.mem_append_left _ hp) z
    · rcases List.mem_append.mp hp with hp | hp
      · exact q.2.2.2.2.2 p (List.mem_append_right _ hp) z
      · have e := (of_pinsAt hp).1
        rw [List.mem_singleton.mp e] at z
        exact nS (z ▸ hb)
  subst hr0
  have hS2 : s2.heap.get? S = some (seqObj "list" #[] 0) := (I2.pin _ (List.mem_append_right _ (List.mem_append_right _ (mem_pinsAt (List.mem_singleton.mpr rfl) hS)))).1
  have I3 : Inv X ((f, fo) :: pins) σ H s2 := inn_of I.ok I2.unpinned
  have I4 := I3.pinned (fp := S :: fp) (fun b hb => (List.mem_cons.mp hb).elim (fun e => by rw [e]; exact hfS) fun m => hfp b m) (fun b hb => (List.mem_cons.mp hb).elim (fun e => by rw [e]; exact ⟨_, hS2, fun v z => by cases z⟩) fun m => W.obj _ _ ht2 b m)
  show wpAny _ X.A.in1 (tryCatch (holding [u] (call (.ref f) [u])) _ >>= _) _ _ _
  refine wpAny_bind (wpAny_tryCatch (wpAny_holding (wpAny_mono (hcall (pins ++ pinsAt (S :: fp) s2.heap) s2 H x u _ I4 ru hr) (fun kw s3 he => ?_) fun _ _ hF => hF.elim)))
  obtain ⟨v3, H3, I5, r3, hg3, k, hk3, hr3⟩ := he
  have I5' : Inv X (((f, fo) :: pins) ++ pinsAt (S :: fp) s2.heap) σ H3 s3 := I5
  have at3 : ∀ {q : Addr} {o : Obj}, q ∈ S :: fp → s2.heap.get? q = some o → s3.heap.get? q = some o ∧ H3 q = none := fun {q o} m e => by
    have z := I5'.pin (q, o) (List.mem_append_right _ (List.mem_append_right _ (mem_pinsAt m e)))
    exact ⟨z.1, z.2.1⟩
  have I6 : Inv X ((f, fo) :: pins) σ H3 s3 := I5'.unpinned
  have hS3 := at3 List.mem_cons_self hS2
  have ht3 : tn (0 + 1) s3.heap := W.keep _ _ _ ht2 fun b m o e => (at3 (List.mem_cons_of_mem _ m) e).1
  have hfp3 : ∀ b ∈ fp, FpOk X ((f, fo) :: pins) H3 b := fun b m => by
    obtain ⟨o, e, _⟩ := W.obj _ _ ht2 b m
    exact ⟨(at3 (List.mem_cons_of_mem _ m) e).2, (hfp b m).2⟩
  have hfS3 : FpOk X ((f, fo) :: pins) H3 S := ⟨hS3.2, hfS.2⟩
  have s1 := Heap.SameBut.update s3.heap S (Obj.mapSeq fun _ => #[u, kw])
  obtain ⟨c2, hc2⟩ : ∃ c2, (s3.heap.update S (Obj.mapSeq fun _ => #[u, kw])).get? S = some (seqObj "list" #[u, kw] c2) := ⟨_, get?_update_seq hS3.1 fun _ => #[u, kw]⟩
  show wpAny _ X.A.in1 (updateSeq S (fun _ => #[u, kw]) >>= _) _ _ _
  refine wpAny_bind ?_
  refine wpAny_updateSeq hS3.1 rfl ?_
  rw [hname]
  have I7 := I6.turned (t' := s3.toks) (h' := s3.heap.update S (Obj.mapSeq fun _ => #[u, kw])) (it := S) (fun b o hb e => (s1.2 b hb).trans e) hfS3.1 hfS3.2.1 hfS3.2.2.2.1 hfS3.2.2.2.2.1 hfS3.2.2.2.2.2
  exact wpAny_pure ⟨plainId_quiet PySem.F.plain_min_loop _, best_loopN W nS hu hcall r (0 + 1) _ H3 x k v3 u kw c2 (by rw [ex]; rfl) (by rw [ex]; simp) I7 hfp3 hfS3 (W.keep _ _ _ ht3 fun b m o e => (s1.2 b fun z => nS (z ▸ m)).trans e) hc2 ru r3 hk3 hr3⟩
/-- max of a walk -/
theorem best_callX {f : Addr} {fo : Obj} {v0 : Value} {xs : List V} {Gd : Hp → Prop} {cl : V → Hp → (V → Hp → Prop) → Prop} {Q : VK} {Ex : Value → Shared → Prop} (I : Inv X ((f, fo) :: pins) σ H s) (hu : X.A.in1.units < cLine)
    (hit : wpAny (model X.prog X.w) X.A.in1 (pyIter v0) (fun itv s2 => ∃ it fp tn, itv = .ref it ∧ Inv (inn X) ((f, fo) :: pins) σ H s2 ∧ Wk X xs Gd it fp tn ∧ tn 0 s2.heap ∧ ∀ b ∈ fp, FpOk X ((f, fo) :: pins) H b) Ex s)
    (hcall : ∀ (pins' : List (Addr × Obj)) (s : Shared) (H : Hp) (x : V) (u : Value) (R : V → Hp → Prop), Inv X ((f, fo) :: pins') σ H s → RelV x u → cl x H R →
      wpAny (model X.prog X.w) X.A.in1 (call (.ref f) [u]) (fun r s' => ∃ v H', Inv X ((f, fo) :: pins') σ H' s' ∧ RelV v r ∧ R v H') (fun _ _ => False) s)
    {x : V} {r : List V} (ex : xs = x :: r) (hg : Gd H) (hr : cl x H fun v H1 => Gd H1 ∧ ∃ k, kvAt X.K H1 k v ∧ rBest X.K true Gd cl x k v r H1 Q) :
    wpAny (model X.prog X.w) X.A (call (.builtin "max") [v0] [(Str.ofString "key", .ref f)]) (EP X pins σ Q) Ex s := by
  have hname : (toString "max" ++ toString ".loop" : String) = "max.loop" := by decide
  refine kmk_tree PySem.F.kind_max PySem.F.plain_max PySem.F.entry_max (kmk_max_key _ _) ?_
  show wpAny _ X.A.in1 (Builtin.Builtins.bindParams "max" ["key", "default"] 0 ⟨[], [(Str.ofString "key", .ref f)]⟩ >>= _) _ _ s
  refine wpAny_bind (wpAny_of_eq (show Builtin.Builtins.bindParams "max" ["key", "default"] 0 ⟨[], [(Str.ofString "key", .ref f)]⟩ = pure [some (.ref f), none] from rfl) ?_)
  refine wpAny_bind (wpAny_pure ?_)
  refine wpAny_bind (thn hit fun itv s1 ⟨it, fp, tn, e, I1, W, ht, hfp⟩ => ?_)
  subst e
  refine wpAny_bind (wpAny_newList ?_ (Nat.zero_le _))
  rw [hname]
  have hS : (s1.heap.push (seqObj "list" #[] 0)).get? s1.heap.objs.size = some (seqObj "list" #[] 0) := Heap.get?_push_size _ rfl
  have I1' : Inv X ((f, fo) :: pins) σ H s1 := inn_of I.ok I1
  have hfS : FpOk X ((f, fo) :: pins) H s1.heap.objs.size := I1'.fpOk (Nat.le_refl _) (I1'.hok.fresh (Nat.le_refl _))
  have nS : s1.heap.objs.size ∉ fp := fun m => by
    obtain ⟨o, e, _⟩ := W.obj _ _ ht _ m
    exact absurd (Heap.lt_size e) (Nat.lt_irrefl _)
  have I2 : Inv X ((f, fo) :: pins) σ H { s1 with heap := s1.heap.push (seqObj "list" #[] 0) } := I1'.kept (t' := s1.toks) fun b o e => Heap.get?_push_of_some _ e
  have ht0 : tn 0 (s1.heap.push (seqObj "list" #[] 0)) := W.keep _ _ _ ht fun b m o e => Heap.get?_push_of_some _ e
  generalize s1.heap.objs.size = S at hS hfS nS
  have hx : xs[0]? = some x := by rw [ex]; rfl
  refine wpAny_pure ⟨plainId_quiet PySem.F.plain_max_loop _, ?_⟩
  refine codeAny_builtin PySem.F.entry_max_loop ?_
  rw [Around.under_plainId PySem.F.plain_max_loop _]
  show wpAny _ X.A.in1 (seqItems? (.ref S) >>= _) _ _ _
  refine wpAny_bind (wpAny_seqItems hS rfl ?_)
  show wpAny _ X.A.in1 (tryCatch (pyNext (.ref it)) _ >>= _) _ _ _
  have I0 := (inn_to I2).pinned (fp := [S]) (fun b hb => by
    obtain rfl := List.mem_singleton.mp hb
    exact hfS) (fun b hb => by
    obtain rfl := List.mem_singleton.mp hb
    exact ⟨_, hS, fun v z => by cases z⟩)
  refine wpAny_bind (wpAny_tryCatch (thn (W.item 0 x _ _ _ _ _ I0 (fun b hb => ?_) ht0 hg hx) fun rr s2 ⟨u, hr0, I2, ru, ht2⟩ => ?_))
  · have q := hfp b hb
    refine ⟨q.1, q.2.1, q.2.2.1, q.2.2.2.1, q.2.2.2.2.1, fun p hp z => ?_⟩
    rcases List.mem_append.mp hp with hp | hp
    · exact q.2.2.2.2.2 p (List.mem_append_left _ hp) z
    · rcases List.mem_append.mp hp with hp | hp
      · exact q.2.2.2.2.2 p (List.mem_append_right _ hp) z
      · have e := (of_pinsAt hp).1
        rw [List.mem_singleton.mp e] at z
        exact nS (z ▸ hb)
  subst hr0
  have hS2 : s2.heap.get? S = some (seqObj "list" #[] 0) := (I2.pin _ (List.mem_append_right _ (List.mem_append_right _ (mem_pinsAt (List.mem_singleton.mpr rfl) hS)))).1
  have I3 : Inv X ((f, fo) :: pins) σ H s2 := inn_of I.ok I2.unpinned
  have I4 := I3.pinned (fp := S :: fp) (fun b hb => (List.mem_cons.mp hb).elim (fun e => by rw [e]; exact hfS) fun m => hfp b m) (fun b hb => (List.mem_cons.mp hb).elim (fun e => by rw [e]; exact ⟨_, hS2, fun v z => by cases z⟩) fun m => W.obj _ _ ht2 b m)
  show wpAny _ X.A.in1 (tryCatch (holding [u] (call (.ref f) [u])) _ >>= _) _ _ _
  refine wpAny_bind (wpAny_tryCatch (wpAny_holding (wpAny_mono (hcall (pins ++ pinsAt (S :: fp) s2.heap) s2 H x u _ I4 ru hr) (fun kw s3 he => ?_) fun _ _ hF => hF.elim)))
  obtain ⟨v3, H3, I5, r3, hg3, k, hk3, hr3⟩ := he
  have I5' : Inv X (((f, fo) :: pins) ++ pinsAt (S :: fp) s2.heap) σ H3 s3 := I5
  have at3 : ∀ {q : Addr} {o : Obj}, q ∈ S :: fp → s2.heap.get? q = some o → s3.heap.get? q = some o ∧ H3 q = none := fun {q o} m e => by
    have z := I5'.pin (q, o) (List.mem_append_right _ (List.mem_append_right _ (mem_pinsAt m e)))
    exact ⟨z.1, z.2.1⟩
  have I6 : Inv X ((f, fo) :: pins) σ H3 s3 := I5'.unpinned
  have hS3 := at3 List.mem_cons_self hS2
  have ht3 : tn (0 + 1) s3.heap := W.keep _ _ _ ht2 fun b m o e => (at3 (List.mem_cons_of_mem _ m) e).1
  have hfp3 : ∀ b ∈ fp, FpOk X ((f, fo) :: pins) H3 b := fun b m => by
    obtain ⟨o, e, _⟩ := W.obj _ _ ht2 b m
    exact ⟨(at3 (List.mem_cons_of_mem _ m) e).2, (hfp b m).2⟩
  have hfS3 : FpOk X ((f, fo) :: pins) H3 S := ⟨hS3.2, hfS.2⟩
  have s1 := Heap.SameBut.update s3.heap S (Obj.mapSeq fun _ => #[u, kw])
  obtain ⟨c2, hc2⟩ : ∃ c2, (s3.heap.update S (Obj.mapSeq fun _ => #[u, kw])).get? S = some (seqObj "list" #[u, kw] c2) := ⟨_, get?_update_seq hS3.1 fun _ => #[u, kw]⟩
  show wpAny _ X.A.in1 (updateSeq S (fun _ => #[u, kw]) >>= _) _ _ _
  refine wpAny_bind ?_
  refine wpAny_updateSeq hS3.1 rfl ?_
  rw [hname]
  have I7 := I6.turned (t' := s3.toks) (h' := s3.heap.update S (Obj.mapSeq fun _ => #[u, kw])) (it := S) (fun b o hb e => (s1.2 b hb).trans e) hfS3.1 hfS3.2.1 hfS3.2.2.2.1 hfS3.2.2.2.2.1 hfS3.2.2.2.2.2
  exact wpAny_pure ⟨plainId_quiet PySem.F.plain_max_loop _, best_loopX W nS hu hcall r (0 + 1) _ H3 x k v3 u kw c2 (by rw [ex]; rfl) (by rw [ex]; simp) I7 hfp3 hfS3 (W.keep _ _ _ ht3 fun b m o e => (s1.2 b fun z => nS (z ▸ m)).trans e) hc2 ru r3 hk3 hr3⟩
end
end TW

namespace TW
open PySem PySem.Spec PyProof.Rows PySem.W L2 LamX NdefX
/-- the keys of some things, in their order -/
def rKeys (cl : V → Hp → (V → Hp → Prop) → Prop) : List V → Hp → (List Int → Hp → Prop) → Prop
  | [], H, Q => Q [] H
  | x :: r, H, Q => cl x H fun v H1 => ∃ k, v = .int k ∧ rKeys cl r H1 fun ks H2 => Q (k :: ks) H2
theorem each_paired {α β : Type} {R : α → β → Prop} : ∀ {l : List α} {m : List β}, EachIs R l m → Paired (fun b a => R a b) m l
  | _, _, .nil => .nil
  | _, _, .cons h t => .cons h (each_paired t)
theorem vals_zip : ∀ {xs : List V} {us : List Value} {ks : List Int}, Vals xs us → ks.length = xs.length → EachIs (fun u (b : V × Int) => RelV b.1 u) us (xs.zip ks)
  | _, _, [], .nil, _ => .nil
  | _, _, k :: ks, .cons h t, e => .cons h (vals_zip t (by simpa using e))
  | _, _, _ :: _, .nil, e => by simp at e
  | _, _, [], .cons _ _, e => by simp at e
theorem paired_mapL {α β γ : Type} {R : α → β → Prop} {f : γ → α} : ∀ {l : List γ} {m : List β}, Paired (fun c b => R (f c) b) l m → Paired R (l.map f) m
  | _, _, .nil => .nil
  | _, _, .cons h t => .cons h (paired_mapL t)
theorem ints_each {h : Heap} : ∀ {vs : List Value} {ks : List Int}, IntsAre vs ks → EachIs (fun v d => ∃ as, Reads h v d as) vs (ks.map PyData.int)
  | _, _, .nil => .nil
  | _, _, .cons n t r => .cons ⟨[], .int n t⟩ (ints_each r)
theorem ints_alike (ks : List Int) : AllAlike (ks.map PyData.int) := AllAlike.of (enc := PyData.int) fun a b => by simp [alike]
theorem ints_sortable (ks : List Int) : Sortable (ks.map PyData.int) := Sortable.others (enc := PyData.int) fun b => ⟨(fun z => nomatch z), (fun _ z => nomatch z)⟩
theorem map_zip_snd : ∀ {α : Type} {xs : List α} {ks : List Int}, ks.length = xs.length → (xs.zip ks).map (·.2) = ks
  | _, [], [], _ => rfl
  | _, x :: xs, k :: ks, e => by
    simp only [List.zip_cons_cons, List.map_cons]
    rw [map_zip_snd (by simpa using e)]
  | _, [], _ :: _, e => by simp at e
  | _, _ :: _, [], e => by simp at e
/-- what the sorting of the values makes -/
theorem sortV_vals {h : Heap} {xs : List V} {vs : List Value} {ks : List Int} {kw : List Value} (rx : Vals xs vs) (rk : IntsAre kw ks) (hl : ks.length = xs.length) : Vals (sortV xs ks) (sortVals (dataKind h (ks.map PyData.int)) false kw vs) := by
  have e := keyedOut_each (rev := false) (R := fun u (b : V × Int) => RelV b.1 u) (bs := xs.zip ks) (vs := vs) (out := sortVals (dataKind h (ks.map PyData.int)) false kw vs) (fun b => PyData.int b.2) ?_ (vals_zip rx hl)
  · rw [dataLe_int] at e
    exact paired_mapL (each_paired e)
  · have e2 : (xs.zip ks).map (fun b => PyData.int b.2) = ks.map PyData.int := by
      rw [← map_zip_snd hl, List.map_map]
      rw [map_zip_snd hl] <;> rfl
    rw [e2]
    exact ⟨h, kw, ints_alike ks, rfl, ints_each rk⟩
section
variable {X : Cx} {pins : List (Addr × Obj)} {σ : L2.St} {H : Hp} {s : Shared}
/-- sorted(range(..), key=..) -/
theorem sorted_callR {f r : Addr} {fo : Obj} {a b : Int} {t u v : Tok} {cl : V → Hp → (V → Hp → Prop) → Prop} {Q : VK} {Ex : Value → Shared → Prop} (hc : X.calm = true) (I : Inv X ((f, fo) :: pins) σ H s) (hu : X.A.in1.in1.units + 2 < cLine)
    (hr : IsRange s.heap r a b 1 t u v) (hb : -(2 ^ 62) ≤ a ∧ a < 2 ^ 62 ∧ -(2 ^ 62) ≤ b ∧ b < 2 ^ 62) (hn : (b - a).toNat ≤ 1000000)
    (hcall : ∀ (pins' : List (Addr × Obj)) (s : Shared) (H : Hp) (x : V) (u : Value) (R : V → Hp → Prop), Inv X ((f, fo) :: pins') σ H s → RelV x u → cl x H R →
      wpAny (model X.prog X.w) X.A.in1.in1 (call (.ref f) [u]) (fun r s' => ∃ v H', Inv X ((f, fo) :: pins') σ H' s' ∧ RelV v r ∧ R v H') (fun _ _ => False) s)
    (h : rKeys cl (rgV a b) H fun ks H2 => ∀ p, H2 p = none → Q (.ref p) (upd H2 p (.lst (sortV (rgV a b) ks)))) :
    wpAny (model X.prog X.w) X.A (call (.builtin "sorted") [.ref r] [(Str.ofString "key", .ref f)]) (EP X pins σ Q) Ex s := by
  have hd := I.ok.hd hc
  have hz0 : (b - a).toNat ≤ sizeLine := Nat.le_trans hn (by decide)
  refine call_function_entry_kw kind_sorted plain_sorted entry_sorted (ksk_s1 _ _) ?_
  unfold Builtin.«sorted»
  refine wpAny_bind (m := checkCount "sorted" 1 1 _) (wpAny_pure ?_)
  refine wpAny_bind (collect_range (n := (b - a).toNat) (A := X.A.in1) hd hr (small_one hb.1 hb.2.1 hb.2.2.1 hb.2.2.2) (rangeSize_nat a b) (Nat.le_trans hn (by decide)) fun h1 tk acc k1 hi => ?_)
  have rx : Vals (rgV a b) acc.toList := vals_rg hi
  have lx : acc.toList.length = (b - a).toNat := by rw [← rx.length, rgV_length]
  refine wpAny_bind (wpAny_newList ?_ (by rw [lx]; exact hz0))
  have I1 : Inv X ((f, fo) :: pins) σ H { s with heap := h1, toks := tk } := I.kept k1
  have hol : (h1.push (seqObj "list" acc.toList.toArray 0)).get? h1.objs.size = some (seqObj "list" acc.toList.toArray 0) := Heap.get?_push_size _ rfl
  have I2 : Inv X ((f, fo) :: pins) σ H { s with heap := h1.push (seqObj "list" acc.toList.toArray 0), toks := tk } := I1.kept (t' := tk) fun b o e => Heap.get?_push_of_some _ e
  have fL : FpOk X ((f, fo) :: pins) H h1.objs.size := I1.fpOk (Nat.le_refl _) (I1.hok.fresh (Nat.le_refl _))
  show wpAny _ X.A.in1 _ _ _ { s with heap := h1.push (seqObj "list" acc.toList.toArray 0), toks := tk }
  generalize h1.push (seqObj "list" acc.toList.toArray 0) = h2 at hol I2 ⊢
  generalize h1.objs.size = l at hol fL ⊢
  clear k1 I1
  refine wpAny_bind (wpAny_holding (wpAny_call_entry_kw slot_list_sort ⟨_, hol, rfl⟩ entry_list_sort ?_ (ksk_l1 _ _)))
  rw [ksk_t1]
  unfold ksk_tree
  obtain ⟨e1, ho1⟩ : ∃ e1, (h2.update l (Obj.mapSeq fun _ => (#[] : Array Value))).get? l = some (seqObj "list" #[] e1) := ⟨_, get?_update_seq hol fun _ => #[]⟩
  refine wpAny_bind (listItems_at hol rfl ?_)
  refine wpAny_bind (listUpdate_at hol rfl ?_ (by rw [List.size_toArray, lx]; exact hz0) (Nat.zero_le _))
  refine wpAny_bind (seqEpoch_at ho1 rfl ?_)
  have sL := Heap.SameBut.update h2 l (Obj.mapSeq fun _ => (#[] : Array Value))
  have I3 : Inv X ((f, fo) :: pins) σ H { s with heap := h2.update l (Obj.mapSeq fun _ => (#[] : Array Value)), toks := tk } := Inv.turned (s := { s with heap := h2, toks := tk }) I2 (t' := tk) (it := l) (fun b o hb e => (sL.2 b hb).trans e) fL.1 fL.2.1 fL.2.2.2.1 fL.2.2.2.2.1 fL.2.2.2.2.2
  show wpAny _ X.A.in1.in1 _ _ _ { s with heap := h2.update l (Obj.mapSeq fun _ => (#[] : Array Value)), toks := tk }
  generalize h2.update l (Obj.mapSeq fun _ => (#[] : Array Value)) = h3 at ho1 I3 ⊢
  clear I2 sL hol
  refine wpAny_bind (wpAny_newTuple ?_ (by show acc.toList.length ≤ _; rw [lx]; exact hz0))
  refine wpAny_bind (wpAny_newList ?_ (Nat.zero_le _))
  refine wpAny_holding ?_
  have I4 : Inv X ((f, fo) :: pins) σ H { s with heap := h3.push (seqObj "tuple" acc.toList.toArray 0), toks := tk } := I3.kept (t' := tk) fun b o e => Heap.get?_push_of_some _ e
  have ho4 : (h3.push (seqObj "tuple" acc.toList.toArray 0)).get? l = some (seqObj "list" #[] e1) := Heap.get?_push_of_some _ ho1
  show wpAny _ X.A.in1.in1 _ _ _ { s with heap := (h3.push (seqObj "tuple" acc.toList.toArray 0)).push (seqObj "list" #[] 0), toks := tk }
  generalize h3.push (seqObj "tuple" acc.toList.toArray 0) = h4 at ho4 I4 ⊢
  have I5 : Inv X ((f, fo) :: pins) σ H { s with heap := h4.push (seqObj "list" #[] 0), toks := tk } := I4.kept (t' := tk) fun b o e => Heap.get?_push_of_some _ e
  have fS : FpOk X ((f, fo) :: pins) H h4.objs.size := I4.fpOk (Nat.le_refl _) (I4.hok.fresh (Nat.le_refl _))
  have hoS : (h4.push (seqObj "list" #[] 0)).get? h4.objs.size = some (seqObj "list" #[] 0) := Heap.get?_push_size _ rfl
  have hoL : (h4.push (seqObj "list" #[] 0)).get? l = some (seqObj "list" #[] e1) := Heap.get?_push_of_some _ ho4
  have hka : h4.objs.size ≠ l := Nat.ne_of_gt (Heap.lt_size ho4)
  show wpAny _ X.A.in1.in1 (ksk_rest l (.ref f) false acc.toList.toArray e1 (.ref h4.objs.size)) _ _ { s with heap := h4.push (seqObj "list" #[] 0), toks := tk }
  generalize h4.push (seqObj "list" #[] 0) = h5 at hoS hoL I5 ⊢
  generalize h4.objs.size = kS at hoS hka fS ⊢
  clear I4 ho4 I3 ho1 h3 h4
  unfold ksk_rest
  refine wpAny_bind (wpAny_rule ?_)
  first
    | rw [List.forIn_toArray]
    | (rw [← Array.forIn_toList]; simp only [List.toList_toArray])
    | rw [← Array.forIn_toList]
  refine wpAny_bind (ksk_fold (fun i s' => ∃ H' kA e ks, Inv X ((f, fo) :: pins) σ H' s' ∧ FpOk X ((f, fo) :: pins) H' l ∧ FpOk X ((f, fo) :: pins) H' kS ∧ s'.heap.get? l = some (seqObj "list" #[] e1) ∧ s'.heap.get? kS = some (seqObj "list" kA e) ∧ IntsAre kA.toList ks ∧ ks.length = i ∧
      rKeys cl ((rgV a b).drop i) H' fun ks2 H2 => ∀ p, H2 p = none → Q (.ref p) (upd H2 p (.lst (sortV (rgV a b) (ks ++ ks2))))) acc.toList 0 _
    ⟨H, #[], 0, [], I5, fL, fS, hoL, hoS, .nil, rfl, h⟩ ?step ?done)
  case step =>
    rintro j x s' hx ⟨H', kA, e, ks, J, gL, gS, oL, oS, ik, lk, hk⟩
    simp only [Nat.zero_add] at lk hk ⊢
    have hj : j < acc.toList.length := (List.getElem?_eq_some_iff.mp hx).1
    have hj' : j < (rgV a b).length := by rw [rx.length]; exact hj
    have ed : (rgV a b).drop j = (rgV a b)[j] :: (rgV a b).drop (j + 1) := List.drop_eq_getElem_cons hj'
    obtain ⟨w, hw, rw⟩ := rx.get (List.getElem?_eq_getElem hj')
    rw [hx] at hw
    cases hw
    rw [ed] at hk
    have J2 := J.pinned (fp := [l, kS]) (fun b hb => by
      rcases List.mem_cons.mp hb with e | hb
      · rw [e]; exact gL
      · rw [List.mem_singleton.mp hb]; exact gS) (fun b hb => by
      rcases List.mem_cons.mp hb with e | hb
      · rw [e]; exact ⟨_, oL, fun v z => by cases z⟩
      · rw [List.mem_singleton.mp hb]; exact ⟨_, oS, fun v z => by cases z⟩)
    refine wpAny_bind (wpAny_attempt (wpAny_mono (hcall (pins ++ pinsAt [l, kS] s'.heap) s' H' _ x _ J2 rw hk) (fun kv s'' he => ?_) fun _ _ hF => hF.elim))
    obtain ⟨v3, H3, J3, r3, k, rfl, hk3⟩ := he
    obtain ⟨tt, rfl⟩ := r3
    have J3' : Inv X (((f, fo) :: pins) ++ pinsAt [l, kS] s'.heap) σ H3 s'' := J3
    have at3 : ∀ {q : Addr} {o : Obj}, q ∈ [l, kS] → s'.heap.get? q = some o → s''.heap.get? q = some o ∧ H3 q = none := fun {q o} m e => by
      have z := J3'.pin (q, o) (List.mem_append_right _ (List.mem_append_right _ (mem_pinsAt m e)))
      exact ⟨z.1, z.2.1⟩
    have J4 : Inv X ((f, fo) :: pins) σ H3 s'' := J3'.unpinned
    obtain ⟨oL3, nL3⟩ := at3 List.mem_cons_self oL
    obtain ⟨oS3, nS3⟩ := at3 (List.mem_cons_of_mem _ List.mem_cons_self) oS
    try dsimp only
    have szk : kA.size = j := by
      have := ik.length
      rw [Array.length_toList] at this
      omega
    have s1 := Heap.SameBut.update s''.heap kS (Obj.mapSeq (·.push (Value.int k tt)))
    obtain ⟨c2, hc2⟩ : ∃ c2, (s''.heap.update kS (Obj.mapSeq (·.push (Value.int k tt)))).get? kS = some (seqObj "list" (kA.push (.int k tt)) c2) := ⟨_, get?_update_seq oS3 (·.push (Value.int k tt))⟩
    have hz1 : kA.size ≤ sizeLine := by rw [szk]; omega
    refine wpAny_bind (listUpdate_at oS3 rfl ?_ hz1 (by rw [Array.size_push]; omega))
    have J5 := J4.turned (t' := s''.toks) (h' := s''.heap.update kS (Obj.mapSeq (·.push (Value.int k tt)))) (it := kS) (fun b o hb e => (s1.2 b hb).trans e) nS3 gS.2.1 gS.2.2.2.1 gS.2.2.2.2.1 gS.2.2.2.2.2
    refine wpAny_pure ⟨rfl, H3, kA.push (.int k tt), c2, ks ++ [k], J5, ⟨nL3, gL.2⟩, ⟨nS3, gS.2⟩, (s1.2 l hka.symm).trans oL3, hc2, ?_, by simp; omega, ?_⟩
    · rw [Array.toList_push]
      exact ksk_snoc ik
    · have e3 : (fun ks2 H2 => ∀ p, H2 p = none → Q (.ref p) (upd H2 p (.lst (sortV (rgV a b) (ks ++ [k] ++ ks2))))) = fun ks2 H2 => ∀ p, H2 p = none → Q (.ref p) (upd H2 p (.lst (sortV (rgV a b) (ks ++ (k :: ks2))))) := by
        funext ks2 H2
        rw [List.append_assoc] <;> rfl
      rw [e3]
      exact hk3
  case done =>
    rintro s' ⟨H', kA, e, ks, J, gL, gS, oL, oS, ik, lk, hk⟩
    simp only [Nat.zero_add] at lk hk
    have ed : (rgV a b).drop acc.toList.length = [] := by rw [← rx.length, List.drop_length]
    rw [ed] at hk
    simp only [rKeys, List.append_nil] at hk
    refine wpAny_bind (listItems_at oS rfl ?_)
    have szk : kA.size = acc.toList.length := by
      have := ik.length
      rw [Array.length_toList] at this
      omega
    have hlk : ks.length = (rgV a b).length := by rw [lk, rx.length]
    have hsn : (PySem.W.hideAll s'.heap [kS]).get? kS = none := PySem.W.hideAll_none _ List.mem_cons_self
    refine keyH_end (κ := dataKind s'.heap (ks.map PyData.int)) (h₁ := PySem.W.hideAll s'.heap [kS]) (fun b o _ e => PySem.W.of_hideAll _ e) hsn oS oL hka (SortsAt.data (ints_each ik) (ints_alike ks) (ints_sortable ks) fun d hd => ?_) szk (by rw [lx]; exact hz0) fun h6 tk6 c6 kp6 ho6 => ?_
    · obtain ⟨k, _, rfl⟩ := List.mem_map.mp hd
      show X.A.in1.in1.units + (PyData.int k).depth < cLine
      have : (PyData.int k).depth = 0 := by simp [PyData.depth]
      omega
    refine ⟨.none, rfl, ?_⟩
    have kk : ∀ b o, b ∉ [kS, l] → s'.heap.get? b = some o → h6.get? b = some o := fun b o nb e => kp6 b o (fun z => nb (by rw [z]; exact List.mem_cons_of_mem _ List.mem_cons_self)) (PySem.W.hideAll_get _ e fun m => nb (by rw [List.mem_singleton.mp m]; exact List.mem_cons_self))
    have gK : FpOk X ((f, fo) :: pins) H' kS := gS
    have rs : Vals (sortV (rgV a b) ks) (sortVals (dataKind s'.heap (ks.map PyData.int)) false kA.toList acc.toList) := sortV_vals rx ik hlk
    -- first the store of keys turns, then the list is taken
    have J2 : Inv X ((f, fo) :: pins) σ H' { s' with heap := s'.heap, toks := tk6 } := J.tok tk6
    have J3 : Inv X ((f, fo) :: pins) σ (upd H' l (.lst (sortV (rgV a b) ks))) { s' with heap := h6, toks := tk6 } := by
      have q := J.turnedL (t' := tk6) (h' := h6) (ch := [kS, l]) kk (fun b hb => by
        rcases List.mem_cons.mp hb with e | hb
        · rw [e]; exact gS
        · rw [List.mem_singleton.mp hb]; exact gL)
      refine Inv.take (s := { s' with heap := h6, toks := tk6 }) (t' := tk6) (it := l) (h' := h6) q (fun b o _ e => e) gL ⟨?_, sortVals (dataKind s'.heap (ks.map PyData.int)) false kA.toList acc.toList, c6, rs, ho6⟩
      rw [rs.length, sortVals_length]
      · rw [lx]; exact hz0
      · rw [Array.length_toList]; exact szk
    exact wpAny_pure ⟨_, rfl, .ref l, _, J3.pins_of fun p hp => J3.pin p (List.mem_append_right _ (List.mem_cons_of_mem _ hp)), rfl, hk l gL.1⟩
end
end TW

namespace TW
open PySem PySem.Spec PyProof.Rows PySem.W L2 LamX NdefX
section
variable {X : Cx} {pins : List (Addr × Obj)} {σ : L2.St} {H : Hp} {s : Shared}
/-- what is there once a lambda is made -/
structure Made (T : List NTab) (q : Str) (H H1 : Hp) (f c' : Addr) : Prop where
  ext : ExtN H H1
  no : ∀ b, H1 b = none → H b = none
  tab : TabsN T H1
  f0 : H1 f = none
  code : H1 c' = some (CodeO c' q)
/-- the lambda's object -/
abbrev lamO (X : Cx) (params : Arguments) (body : Expr) (scope : Scope) (pm ctv : Value) (c' : Addr) : Obj := PySem.W.kla_obj "<lambda>" (X.env.qual ++ "<lambda>") params body scope (cloFrom X.env.cells scope.names []) pm c' ctv
theorem lam_mk {T : List NTab} {nm : Nat → Nat → Str} {c P : Addr} {params : Arguments} {body : Expr} {scope : Scope} {pos : Pos} {E : Value → Shared → Prop} {Q : Value → Shared → Prop} (I : Inv X pins σ H s) (TB : TabB X.base X.mg c P) (hcode : X.env.code = .ref c)
    (hm : (P, nm) ∈ T) (hn : nm pos.line pos.col = X.env.qual ++ "<lambda>") (hu : ∀ p ∈ T, p.1 = P → p.2 = nm) (hT : TabsN T H) (hdef : defaultsOf params X.env = ([], [])) (hfree : ∀ y ∈ scope.names, y.2 = .free → ∃ c, X.env.cells.lookup y.1 = some c)
    (h : ∀ (f c' : Addr) (pm ctv : Value) (H1 : Hp) (s' : Shared), (∀ p ∈ pins, s'.heap.get? p.1 = some p.2) → Inv X ((f, lamO X params body scope pm ctv c') :: pins) σ H1 s' → Made T (X.env.qual ++ "<lambda>") H H1 f c' → Q (.ref f) s') :
    wpAny (model X.prog X.w) X.A (eval (.Lambda params body scope pos) X.env) Q E s := by
  obtain ⟨ps, hP, ht, ha⟩ := (show TabN H P nm from hT _ hm)
  have bP : s.heap.BuiltinsAt X.mg P := TB.bm.keeps I.bk
  have hP' : s.heap.get? P = some { cls := .none, data := .fields ps } := I.hok P _ hP
  -- the object is pinned
  have fin : ∀ {H1 : Hp} {s1 : Shared} {c' : Addr} {pm ctv : Value}, Inv X pins σ H1 { s1 with heap := s1.heap.push (lamO X params body scope pm ctv c') } → s.heap.objs.size ≤ s1.heap.objs.size → H1 s1.heap.objs.size = none →
      Inv X ((s1.heap.objs.size, lamO X params body scope pm ctv c') :: pins) σ H1 { s1 with heap := s1.heap.push (lamO X params body scope pm ctv c') } := fun {H1 s1 c' pm ctv} J hs hn => J.pins_of fun p hp => by
    rcases List.mem_cons.mp hp with e | hp
    · subst e
      exact ⟨Heap.get?_push_size _ rfl, hn, Nat.ne_of_gt (Nat.lt_of_lt_of_le I.lt hs), I.nofs hs, fun v z => by cases z⟩
    · exact J.pin p (List.mem_append_right _ hp)
  refine PySem.W.kla_eval hdef ?_
  cases hc : codeAmong pos ps.toList with
  | none =>
    refine PySem.W.kla_makeFunction (mg := X.mg) (c := c) (P := P) (ps := ps) (closure_ok hfree) I.ok.glob (I.mod.glob.keeps I.bk) hcode (TB.code.keeps I.bk) hP' ht hc TB.gP bP fun c' ctv h' tk hx hge hlt hrec htb => ?_
    obtain ⟨c2, oc, vs, t, e2, hoc, hd, hv⟩ := hrec
    cases e2
    have nC : H c' = none := I.hok.fresh hge
    have hsz : s.heap.objs.size ≤ h'.objs.size := Nat.le_trans hge (Nat.le_of_lt hlt)
    have I1 := inv_table (t' := tk) (more := #[rawInt pos.line, rawInt pos.col, .ref c']) (h' := h'.push (lamO X params body scope ((X.mg "__name__").getD .none) ctv c')) I hP
      (fun b o hb e => Heap.get?_push_of_some _ (hx b o hb e)) (Heap.get?_push_of_some _ htb) hge ⟨oc, vs, t, Heap.get?_push_of_some _ hoc, hd, hv⟩
    have hE : ExtN H (upd (upd H P (.tbl (ps ++ #[rawInt pos.line, rawInt pos.col, .ref c']))) c' (CodeO c' (X.env.qual ++ "<lambda>"))) := fun b o e n => by
      rw [upd_ne (ne_of_none e nC), upd_ne (fun z => n ps (Option.some.inj (e.symm.trans (by rw [z]; exact hP))))]
      exact e
    have eL : (ps ++ #[rawInt pos.line, rawInt pos.col, .ref c']).toList = ps.toList ++ [rawInt pos.line, rawInt pos.col, .ref c'] := by simp
    have n1 : h'.objs.size ≠ c' := Nat.ne_of_gt hlt
    have n2 : h'.objs.size ≠ P := Nat.ne_of_gt (Nat.lt_of_lt_of_le (Heap.lt_size hP') hsz)
    have f0 : upd (upd H P (.tbl (ps ++ #[rawInt pos.line, rawInt pos.col, .ref c']))) c' (CodeO c' (X.env.qual ++ "<lambda>")) h'.objs.size = none := by
      rw [upd_ne n1, upd_ne n2]
      exact I.hok.fresh hsz
    have I2 := fin (s1 := { s with heap := h', toks := tk }) I1 hsz f0
    refine h h'.objs.size c' ((X.mg "__name__").getD .none) ctv _ _ (fun p hp => (I1.pin p (List.mem_append_right _ hp)).1) I2 ⟨hE, fun b e => upd_none (upd_none e), fun p hp => ?_, f0, upd_same⟩
    by_cases hb : p.1 = P
    · rw [hu p hp hb, hb]
      refine ⟨_, by rw [upd_ne (ne_of_none hP nC), upd_same], by rw [eL]; exact PySem.TriplesOk_snoc _ _ _ _ ht, fun p' cv hcv => ?_⟩
      rw [eL] at hcv
      rcases among_app2 _ ht hcv with z | ⟨z, z1, z2⟩
      · obtain ⟨c0, e1, e2⟩ := ha p' cv z
        exact ⟨c0, e1, hE _ _ e2 codeO_ne⟩
      · refine ⟨c', z, ?_⟩
        rw [← z1, ← z2, hn]
        exact upd_same
    · obtain ⟨ps', a1, a2, a3⟩ := hT p hp
      refine ⟨ps', by rw [upd_ne (ne_of_none a1 nC), upd_ne hb]; exact a1, a2, fun p' cv hcv => ?_⟩
      obtain ⟨c0, e1, e2⟩ := a3 p' cv hcv
      exact ⟨c0, e1, hE _ _ e2 codeO_ne⟩
  | some cv =>
    obtain ⟨c', e, hco⟩ := ha pos cv hc
    subst e
    rw [hn] at hco
    refine PySem.W.kla_makeFunctionHit (mg := X.mg) (c := c) (P := P) (ps := ps) (closure_ok hfree) I.ok.glob (I.mod.glob.keeps I.bk) hcode (TB.code.keeps I.bk) hP' ht hc bP fun ctv h' tk hx hsz => ?_
    have I1 : Inv X pins σ H { s with heap := h'.push (lamO X params body scope ((X.mg "__name__").getD .none) ctv c'), toks := tk } := I.kept fun b o e => Heap.get?_push_of_some _ (hx b o e)
    have f0 : H h'.objs.size = none := I.hok.fresh hsz
    exact h h'.objs.size c' ((X.mg "__name__").getD .none) ctv H _ (fun p hp => (I1.pin p (List.mem_append_right _ hp)).1) (fin (s1 := { s with heap := h', toks := tk }) I1 hsz f0) ⟨ExtN.refl H, fun b e => e, hT, f0, hco⟩
/-- the lambda's words -/
structure LamW (X : Cx) (a : Str) (fr : List Str) (js : List Nat) (params : Arguments) (scope : Scope) : Prop where
  S : NScope (a :: fr) [a] fr scope
  free : ∀ y ∈ scope.names, y.2 = .free → X.env.scope.names.lookup y.1 = some .cell ∨ X.env.scope.names.lookup y.1 = some .free
  mem : ∀ y ∈ fr, (y, NameKind.free) ∈ scope.names
  js : js.map (fun j => X.N[j]?) = fr.map some
  def_ : defaultsOf params X.env = ([], [])
  bind : ∀ (q : Str) (body : Expr) (cl : List (Str × Addr)) (pm cv ctv u : Value), bindArgs (PySem.W.kla_fn "<lambda>" q params body scope cl pm cv ctv) ⟨[u], []⟩ = pure [(a, u)]
theorem LamW.has {a : Str} {fr : List Str} {js : List Nat} {params : Arguments} {scope : Scope} (L : LamW X a fr js params scope) (ok : X.Ok) : ∀ y ∈ scope.names, y.2 = .free → ∃ c, X.env.cells.lookup y.1 = some c :=
  fun y hy e => (L.free y hy e).elim (fun z => ok.has _ (.inl z)) fun z => ok.has _ (.inr z)
/-- the reading of the lambda's call: its code object is still there -/
def clOf (tb : TE) (js : List Nat) (a : Str) (fr : List Str) (q : Str) (c' : Addr) (σ : L2.St) : V → Hp → (V → Hp → Prop) → Prop := fun x H R => H c' = some (CodeO c' q) ∧ tb (startF (a :: fr) [x] (js.map (slotAt σ))) H R
/-- the lambda called, while it is pinned -/
theorem lam_calls {k : Nat} {a : Str} {fr : List Str} {js : List Nat} {params : Arguments} {body : Expr} {scope : Scope} {tb : TE} {f c' : Addr} {pm ctv : Value} {A' : Around} (L : LamW X a fr js params scope) (hA : A'.frames = X.A.frames) (hr : Room (k + 1) A')
    (hbody : ∀ (f c' : Addr) (A : Around) (outer : List PySem.Env) (s : Shared) (H : Hp), Room k (A.deeper (envF (lamF (X.env.qual ++ "<lambda>") params scope (cloFrom X.env.cells scope.names []) c') f s.heap.objs.size)) →
      PE (ncx (L2.CX X.prog X.w) X.prog X.w X.K X.mg X.base (a :: fr) (lamF (X.env.qual ++ "<lambda>") params scope (cloFrom X.env.cells scope.names []) c') f A outer s H fun _ _ _ => False) body tb) :
    ∀ (pins' : List (Addr × Obj)) (s : Shared) (H : Hp) (x : V) (u : Value) (R : V → Hp → Prop), Inv X ((f, lamO X params body scope pm ctv c') :: pins') σ H s → RelV x u → clOf tb js a fr (X.env.qual ++ "<lambda>") c' σ x H R →
      wpAny (model X.prog X.w) A' (call (.ref f) [u]) (fun r s' => ∃ v H', Inv X ((f, lamO X params body scope pm ctv c') :: pins') σ H' s' ∧ RelV v r ∧ R v H') (fun _ _ => False) s := by
  intro pins' s H x u R I ru h
  obtain ⟨hc, ht⟩ := h
  have hf := (I.pin _ (List.mem_append_right _ List.mem_cons_self)).1
  have C := cells_of (js := js) I (Caps.made (fr := fr) I.ok L.free L.mem L.js)
  exact lam_run I hf hc L.S C (fun u => L.bind _ _ _ _ _ _ u) hA hr (fun A outer s H hr => hbody f c' A outer s H hr) ru ht
end
end TW

namespace TW
open PySem PySem.Spec PyProof.Rows PySem.W L2 LamX NdefX
/-- J walks xs while Gd -/
structure WalkF (J : It) (xs : List V) (Gd : Hp → Prop) : Prop where
  go : ∀ i x H, Gd H → xs[i]? = some x → J.go i H
  st : ∀ H, Gd H → J.stop xs.length H
  yl : ∀ i x H y H', Gd H → xs[i]? = some x → J.yld i H y H' → H' = H ∧ y = x
/-- the call of the lambda, read -/
def clR (tb : TE) (js : List Nat) (q : Str) (c' : Addr) (σ : L2.St) : V → Hp → (V → Hp → Prop) → Prop := fun x H R => H c' = some (CodeO c' q) ∧ tb (some x :: js.map (slotAt σ)) H R
theorem clR_eq {tb : TE} {js : List Nat} {a : Str} {fr : List Str} {q : Str} {c' : Addr} {σ : L2.St} (h : js.length = fr.length) : clR tb js q c' σ = clOf tb js a fr q c' σ := by
  funext x H R
  unfold clR clOf startF
  have e : (a :: fr).length - [x].length - (js.map (slotAt σ)).length = 0 := by
    rw [List.length_map, h, List.length_cons, List.length_cons, List.length_nil]
    omega
  rw [e] <;> simp
def keyTail (K : PySem.W.Frag) (o : Nat) (cl : V → Hp → (V → Hp → Prop) → Prop) (xs : List V) (Gd : Hp → Prop) (H2 : Hp) (Q : VK) : Prop := match o with
    | 0 => ∃ x r, xs = x :: r ∧ cl x H2 fun v H3 => Gd H3 ∧ ∃ k, kvAt K H3 k v ∧ rBest K true Gd cl x k v r H3 Q
    | 1 => ∃ x r, xs = x :: r ∧ cl x H2 fun v H3 => Gd H3 ∧ ∃ k, kvAt K H3 k v ∧ rBest K false Gd cl x k v r H3 Q
    | _ => xs.length ≤ 1000000 ∧ rKeys cl xs H2 fun ks H3 => ∀ p, H3 p = none → Q (.ref p) (upd H3 p (.lst (sortV xs ks)))
def keyRest (K : PySem.W.Frag) (T : List NTab) (o : Nat) (tb : TE) (js : List Nat) (σ : L2.St) (Q : VK) (J : It) (H1 : Hp) : Prop := TabsN T H1 ∧ ∀ (q : Str) (f c' : Addr) (H2 : Hp), Made T q H1 H2 f c' →
  ∃ (xs : List V) (Gd : Hp → Prop), WalkF J xs Gd ∧ Gd H2 ∧ keyTail K o (clR tb js q c' σ) xs Gd H2 Q
def tKey (K : PySem.W.Frag) (T : List NTab) (o : Nat) (wi : TI) (tb : TE) (js : List Nat) : TE := fun σ H Q => wi σ H (keyRest K T o tb js σ Q)
/-- what the lambda's def asks: its code object, its table -/
structure LamC (X : Cx) (T : List NTab) (c P : Addr) (nf : Nat → Nat → Str) (lpos : Pos) : Prop where
  TB : TabB X.base X.mg c P
  code : X.env.code = .ref c
  mem : (P, nf) ∈ T
  nm : nf lpos.line lpos.col = X.env.qual ++ "<lambda>"
  un : ∀ p ∈ T, p.1 = P → p.2 = nf
def BestR (X : Cx) (mx : Bool) (id : String) : Prop := ∀ {pins : List (Addr × Obj)} {σ : L2.St} {H : Hp} {s : Shared} {f : Addr} {fo : Obj} {v0 : Value} {xs : List V} {Gd : Hp → Prop} {cl : V → Hp → (V → Hp → Prop) → Prop} {Q : VK} {Ex : Value → Shared → Prop}, Inv X ((f, fo) :: pins) σ H s → X.A.in1.units < cLine →
    wpAny (model X.prog X.w) X.A.in1 (pyIter v0) (fun itv s2 => ∃ it fp tn, itv = .ref it ∧ Inv (inn X) ((f, fo) :: pins) σ H s2 ∧ Wk X xs Gd it fp tn ∧ tn 0 s2.heap ∧ ∀ b ∈ fp, FpOk X ((f, fo) :: pins) H b) Ex s →
    (∀ (pins' : List (Addr × Obj)) (s : Shared) (H : Hp) (x : V) (u : Value) (R : V → Hp → Prop), Inv X ((f, fo) :: pins') σ H s → RelV x u → cl x H R →
      wpAny (model X.prog X.w) X.A.in1 (call (.ref f) [u]) (fun r s' => ∃ v H', Inv X ((f, fo) :: pins') σ H' s' ∧ RelV v r ∧ R v H') (fun _ _ => False) s) →
    ∀ {x : V} {r : List V}, xs = x :: r → Gd H → (cl x H fun v H1 => Gd H1 ∧ ∃ k, kvAt X.K H1 k v ∧ rBest X.K mx Gd cl x k v r H1 Q) →
    wpAny (model X.prog X.w) X.A (call (.builtin id) [v0] [(Str.ofString "key", .ref f)]) (EP X pins σ Q) Ex s
theorem bestN {X : Cx} : BestR X false "min" := fun I hu hit hcall _ _ ex hg hr => best_callN I hu hit hcall ex hg hr
theorem bestX {X : Cx} : BestR X true "max" := fun I hu hit hcall _ _ ex hg hr => best_callX I hu hit hcall ex hg hr
section
variable {X : Cx} {pins : List (Addr × Obj)} {σ : L2.St} {H : Hp} {s : Shared} {T : List NTab} {c P : Addr} {nm : Nat → Nat → Str} {k : Nat} {a x : Str} {fr : List Str} {js : List Nat} {params : Arguments} {body e : Expr} {scope : Scope} {tb ta : TE} {p pos lpos kpos : Pos} {id : String}
/-- the keyword's value: the lambda is made -/
theorem lam_kw {E : Value → Shared → Prop} {Q : List Value → Shared → Prop} (I : Inv X pins σ H s) (LC : LamC X T c P nm lpos) (L : LamW X a fr js params scope) (hT : TabsN T H)
    (h : ∀ (f c' : Addr) (pm ctv : Value) (H1 : Hp) (s' : Shared), (∀ p ∈ pins, s'.heap.get? p.1 = some p.2) → Inv X ((f, lamO X params body scope pm ctv c') :: pins) σ H1 s' → Made T (X.env.qual ++ "<lambda>") H H1 f c' → Q [.ref f] s') :
    wpAny (model X.prog X.w) X.A (evalAll ((backToKw pos (keywordEach [⟨some "key", .Lambda params body scope lpos, kpos⟩] X.env)).map (·.2))) Q E s := by
  show wpAny _ _ (evalAll ((do let v ← eval (.Lambda params body scope lpos) X.env; standAt pos; pure v) :: (backToKw pos (keywordEach [] X.env)).map (·.2))) _ _ s
  refine wpAny_evalAll_cons (wpAny_bind (lam_mk I LC.TB LC.code LC.mem LC.nm LC.un hT L.def_ (L.has I.ok) fun f c' pm ctv H1 s' hp I1 M => wpAny_bind (wpAny_standAt (wpAny_pure ?_))))
  exact wpAny_evalAll_nil (h f c' pm ctv H1 s' hp I1 M)
def LamB (X : Cx) (k : Nat) (a : Str) (fr : List Str) (params : Arguments) (body : Expr) (scope : Scope) (tb : TE) : Prop := ∀ (f c' : Addr) (A : Around) (outer : List PySem.Env) (s : Shared) (H : Hp), Room k (A.deeper (envF (lamF (X.env.qual ++ "<lambda>") params scope (cloFrom X.env.cells scope.names []) c') f s.heap.objs.size)) →
      PE (ncx (L2.CX X.prog X.w) X.prog X.w X.K X.mg X.base (a :: fr) (lamF (X.env.qual ++ "<lambda>") params scope (cloFrom X.env.cells scope.names []) c') f A outer s H fun _ _ _ => False) body tb
theorem LamW.len {a : Str} {fr : List Str} {js : List Nat} {params : Arguments} {scope : Scope} (L : LamW X a fr js params scope) : js.length = fr.length := by
  have h := congrArg List.length L.js
  simpa using h
def oM (mx : Bool) : Nat := if mx then 0 else 1
theorem tKey_best {K : PySem.W.Frag} {xs : List V} {Gd : Hp → Prop} {cl : V → Hp → (V → Hp → Prop) → Prop} {H2 : Hp} {Q : VK} {mx : Bool}
    (h : keyTail K (oM mx) cl xs Gd H2 Q) : ∃ x r, xs = x :: r ∧ cl x H2 fun v H3 => Gd H3 ∧ ∃ k, kvAt K H3 k v ∧ rBest K mx Gd cl x k v r H3 Q := by
  cases mx <;> exact h
/-- min(xs, key=..) of a list -/
theorem pe_keyL {mx : Bool} (hB : BestR X mx id) (hc : X.calm = true) (hr : Room (k + 2) X.A) (hv : bootBuiltins x = some (.builtin id)) (hg : Gl X x) (hm : X.mg x = none) (he : PE X e ta) (LC : LamC X T c P nm lpos) (L : LamW X a fr js params scope) (hb : LamB X k a fr params body scope tb)
    (hn : x ≠ "__name__" := by decide) (hdb : (x == ("__debug__" : Str)) = false := by decide) (hs : starEach [e] X.env = (false, eval e X.env) :: starEach [] X.env := by rfl)
    (hs2 : backTo pos (starEach [e] X.env) = (false, eval e X.env) :: backTo pos (starEach [] X.env) := by rfl) (hpl : (backTo pos (starEach [e] X.env)).any (·.1) = false := by rfl) :
    PE X (.Call (.Name x p) [e] [⟨some "key", .Lambda params body scope lpos, kpos⟩] pos) (tKey X.K T (oM mx) (iList X.K ta) tb js) := by
  refine ⟨fun pins s σ H Q I h => ?_⟩
  refine wpAny_Call_Name_kw (ld_blt I hg hm hv ?_ hn hdb)
  refine PyProof.Rows.callWith_kw (thn ((pa_cons he pa_nil hs).run pos pins s σ H (fun vs H1 => match vs with | [x] => ∃ a, x = .ref a ∧ (∃ xs, SqL X.K H1 a xs) ∧ keyRest X.K T (oM mx) tb js σ Q (Itl X.K a) H1 | _ => False) I h) fun us s1 ⟨vs, H1, I1, r1, q1⟩ => ?_) hs2 hpl
  obtain ⟨u, l, rfl, rfl, rx, ⟨ys, hl⟩, hT, q⟩ : ∃ u l, us = [u] ∧ vs = [.ref l] ∧ RelV (.ref l) u ∧ (∃ xs, SqL X.K H1 l xs) ∧ keyRest X.K T (oM mx) tb js σ Q (Itl X.K l) H1 := by
    cases r1 with
    | nil => exact q1.elim
    | cons rx rr =>
      cases rr with
      | nil =>
        obtain ⟨l, rfl, q1, q2⟩ := q1
        exact ⟨_, l, rfl, rfl, rx, q1, q2⟩
      | cons _ _ => exact q1.elim
  cases rx
  refine lam_kw I1 LC L hT fun f c' pm ctv H2 s2 _ I2 M => ?_
  obtain ⟨xs, Gd, W, g2, q⟩ := q _ f c' H2 M
  obtain ⟨x0, r, ex, q⟩ := tKey_best (K := X.K) q
  have hj := L.len
  have hcall := lam_calls (σ := σ) (f := f) (pm := pm) (ctv := ctv) (c' := c') (A' := X.A.in1) L rfl hr.in1 hb
  rw [← clR_eq hj] at hcall
  obtain ⟨zs, hz, _⟩ := W.st H2 g2
  obtain ⟨its, rv, pl, hsz⟩ := I2.list hz
  refine hB I2 (by have := hr.un; show X.A.units + 1 < cLine; omega) ?_ hcall ex g2 q
  refine wpAny_pyIter_list pl.isList ?_
  have I3 : Inv X ((f, lamO X params body scope pm ctv c') :: pins) σ H2 { s2 with heap := s2.heap.push { cls := .type "list_iterator", data := .fields #[.ref l, .int 0 0] } } := I2.kept (t' := s2.toks) fun b o e => Heap.get?_push_of_some _ e
  refine ⟨s2.heap.objs.size, [s2.heap.objs.size], _, rfl, inn_to I3, wk_of hc (turn_list l _) W.go W.st W.yl, ⟨_, Heap.get?_push_size _ rfl, rfl, rfl⟩, fun b hb => ?_⟩
  have e : b = s2.heap.objs.size := by simpa using hb
  subst e
  exact I2.fpOk (Nat.le_refl _) (I2.hok.fresh (Nat.le_refl _))
/-- max(d, key=..) of a dict that is locked -/
theorem pe_keyD {mx : Bool} (hB : BestR X mx id) (hc : X.calm = true) (hr : Room (k + 2) X.A) (hv : bootBuiltins x = some (.builtin id)) (hg : Gl X x) (hm : X.mg x = none) (he : PE X e ta) (LC : LamC X T c P nm lpos) (L : LamW X a fr js params scope) (hb : LamB X k a fr params body scope tb)
    (hn : x ≠ "__name__" := by decide) (hdb : (x == ("__debug__" : Str)) = false := by decide) (hs : starEach [e] X.env = (false, eval e X.env) :: starEach [] X.env := by rfl)
    (hs2 : backTo pos (starEach [e] X.env) = (false, eval e X.env) :: backTo pos (starEach [] X.env) := by rfl) (hpl : (backTo pos (starEach [e] X.env)).any (·.1) = false := by rfl) :
    PE X (.Call (.Name x p) [e] [⟨some "key", .Lambda params body scope lpos, kpos⟩] pos) (tKey X.K T (oM mx) (iKeys ta) tb js) := by
  refine ⟨fun pins s σ H Q I h => ?_⟩
  refine wpAny_Call_Name_kw (ld_blt I hg hm hv ?_ hn hdb)
  refine PyProof.Rows.callWith_kw (thn ((pa_cons he pa_nil hs).run pos pins s σ H (fun vs H1 => match vs with | [x] => ∃ d o, x = .ref d ∧ ((∃ kvs, H1 d = some (.frz o (.dK kvs)) ∧ keyRest X.K T (oM mx) tb js σ Q (Itk d o kvs) H1) ∨ ∃ kvs, H1 d = some (.frz o (.dT kvs)) ∧ keyRest X.K T (oM mx) tb js σ Q (Itkt d o kvs) H1) | _ => False) I h) fun us s1 ⟨vs, H1, I1, r1, q1⟩ => ?_) hs2 hpl
  obtain ⟨u, d, o, rfl, rfl, rx, q⟩ : ∃ u d o, us = [u] ∧ vs = [.ref d] ∧ RelV (.ref d) u ∧ ((∃ kvs, H1 d = some (.frz o (.dK kvs)) ∧ keyRest X.K T (oM mx) tb js σ Q (Itk d o kvs) H1) ∨ ∃ kvs, H1 d = some (.frz o (.dT kvs)) ∧ keyRest X.K T (oM mx) tb js σ Q (Itkt d o kvs) H1) := by
    cases r1 with
    | nil => exact q1.elim
    | cons rx rr =>
      cases rr with
      | nil =>
        obtain ⟨d, o, rfl, q⟩ := q1
        exact ⟨_, d, o, rfl, rfl, rx, q⟩
      | cons _ _ => exact q1.elim
  cases rx
  rcases q with ⟨kvs, hd, hT, q⟩ | ⟨kvs, hd, hT, q⟩
  · refine lam_kw I1 LC L hT fun f c' pm ctv H2 s2 _ I2 M => ?_
    obtain ⟨xs, Gd, W, g2, q⟩ := q _ f c' H2 M
    obtain ⟨x0, r, ex, q⟩ := tKey_best (K := X.K) q
    have hj := L.len
    have hcall := lam_calls (σ := σ) (f := f) (pm := pm) (ctv := ctv) (c' := c') (A' := X.A.in1) L rfl hr.in1 hb
    rw [← clR_eq hj] at hcall
    have hd2 : H2 d = some (.frz o (.dK kvs)) := M.ext d _ hd fun _ z => by cases z
    refine hB I2 (by have := hr.un; show X.A.units + 1 < cLine; omega) ?_ hcall ex g2 q
    obtain ⟨ks, hgd, hx, es, ep, vs, hdt, hsz, kv, hm⟩ := I2.frzK hd2
    refine iter_keys ks hgd hx hdt ?_
    have I3 := I2.kept (t' := s2.toks) (h' := s2.heap.push { cls := .type "dict_keyiterator", data := .fields #[.ref d, rawInt 0, rawInt es.size, rawInt ep] }) fun b o e => Heap.get?_push_of_some _ e
    refine ⟨s2.heap.objs.size, [s2.heap.objs.size], _, rfl, inn_to I3, wk_of hc (turn_keys _ hdt) W.go W.st W.yl, ⟨_, Heap.get?_push_size _ rfl, rfl, ?_⟩, fun b hb => ?_⟩
    · rw [hsz] <;> rfl
    · have e : b = s2.heap.objs.size := by simpa using hb
      subst e
      exact I2.fpOk (Nat.le_refl _) (I2.hok.fresh (Nat.le_refl _))
  · refine lam_kw I1 LC L hT fun f c' pm ctv H2 s2 _ I2 M => ?_
    obtain ⟨xs, Gd, W, g2, q⟩ := q _ f c' H2 M
    obtain ⟨x0, r, ex, q⟩ := tKey_best (K := X.K) q
    have hj := L.len
    have hcall := lam_calls (σ := σ) (f := f) (pm := pm) (ctv := ctv) (c' := c') (A' := X.A.in1) L rfl hr.in1 hb
    rw [← clR_eq hj] at hcall
    have hd2 : H2 d = some (.frz o (.dT kvs)) := M.ext d _ hd fun _ z => by cases z
    refine hB I2 (by have := hr.un; show X.A.units + 1 < cLine; omega) ?_ hcall ex g2 q
    obtain ⟨ks, hgd, hx, es, ep, hdt, hsz, ent⟩ := I2.frzT hd2
    refine iter_keys ks hgd hx hdt ?_
    have I3 := I2.kept (t' := s2.toks) (h' := s2.heap.push { cls := .type "dict_keyiterator", data := .fields #[.ref d, rawInt 0, rawInt es.size, rawInt ep] }) fun b o e => Heap.get?_push_of_some _ e
    refine ⟨s2.heap.objs.size, [s2.heap.objs.size], _, rfl, inn_to I3, wk_of hc (turn_keysT _ hdt) W.go W.st W.yl, ⟨_, Heap.get?_push_size _ rfl, rfl, ?_⟩, fun b hb => ?_⟩
    · rw [hsz] <;> rfl
    · have e : b = s2.heap.objs.size := by simpa using hb
      subst e
      exact I2.fpOk (Nat.le_refl _) (I2.hok.fresh (Nat.le_refl _))
/-- range(n): a new object, pinned -/
theorem rng_pin {e : Expr} {ta : TA} {p q : Pos} {R : Int → Hp → Prop} {Q : Value → Shared → Prop} (I : Inv X pins σ H s) (hg : Gl X "range") (hm : X.mg "range" = none) (ha : PA X [e] ta) (hs : starEach [e] X.env = [(false, eval e X.env)]) (h : ta σ H fun vs H1 => ∃ j : Int, vs = [.int j] ∧ R j H1)
    (hq : ∀ (r : Addr) (j : Int) (t u v : Tok) (H1 : Hp) (s1 : Shared) (ro : Obj), Inv X ((r, ro) :: pins) σ H1 s1 → (∀ h : Heap, h.get? r = some ro → IsRange h r 0 j 1 t u v) → s1.heap.get? r = some ro → R j H1 → Q (.ref r) s1) :
    wpAny (model X.prog X.w) X.A (eval (.Call (.Name "range" p) [e] [] q) X.env) Q X.xe s := by
  refine Call_ (ld_blt I hg hm boot_range (PyProof.Rows.callWith_type1 (thn (ha.run q pins s σ H _ I h) fun us s1 ⟨vs, H1, I1, r1, j, e1, q⟩ => ?_) hs rfl))
  subst e1
  obtain ⟨w, rfl, ⟨t, rfl⟩⟩ := vals1 r1
  refine call_range_1 (hq _ j _ _ _ H1 _ _ ?_ (fun h e => e) (Heap.get?_push_size _ rfl) q)
  have I2 : Inv X pins σ H1 { s1 with heap := s1.heap.push { cls := .type "range", data := .fields #[.int 0 s1.toks, .int j t, .int 1 (s1.toks + 1)] }, toks := s1.toks + 1 + 1 } := I1.kept fun b o e => Heap.get?_push_of_some _ e
  refine I2.pins_of fun p hp => ?_
  rcases List.mem_cons.mp hp with e | hp
  · subst e
    exact ⟨Heap.get?_push_size _ rfl, I1.hok.fresh (Nat.le_refl _), Nat.ne_of_gt I1.lt, I1.nofs (Nat.le_refl _), fun v z => by cases z⟩
  · exact I2.pin p (List.mem_append_right _ hp)
/-- min(range(n), key=..) -/
theorem pe_keyR {mx : Bool} {ta : TA} {p2 q2 : Pos} (hB : BestR X mx id) (hc : X.calm = true) (hr : Room (k + 2) X.A) (hv : bootBuiltins x = some (.builtin id)) (hg : Gl X x) (hm : X.mg x = none) (hg2 : Gl X "range") (hm2 : X.mg "range" = none) (he : PA X [e] ta) (LC : LamC X T c P nm lpos) (L : LamW X a fr js params scope) (hb : LamB X k a fr params body scope tb)
    (hn : x ≠ "__name__" := by decide) (hdb : (x == ("__debug__" : Str)) = false := by decide) (hs0 : starEach [e] X.env = [(false, eval e X.env)] := by rfl) (hs : starEach [.Call (.Name "range" p2) [e] [] q2] X.env = (false, eval (.Call (.Name "range" p2) [e] [] q2) X.env) :: starEach [] X.env := by rfl)
    (hs2 : backTo pos (starEach [.Call (.Name "range" p2) [e] [] q2] X.env) = (false, eval (.Call (.Name "range" p2) [e] [] q2) X.env) :: backTo pos (starEach [] X.env) := by rfl) (hpl : (backTo pos (starEach [.Call (.Name "range" p2) [e] [] q2] X.env)).any (·.1) = false := by rfl) :
    PE X (.Call (.Name x p) [.Call (.Name "range" p2) [e] [] q2] [⟨some "key", .Lambda params body scope lpos, kpos⟩] pos) (tKey X.K T (oM mx) (iRng1 ta) tb js) := by
  refine ⟨fun pins s σ H Q I h => ?_⟩
  refine wpAny_Call_Name_kw (ld_blt I hg hm hv ?_ hn hdb)
  refine PyProof.Rows.callWith_kw (args_cons (rng_pin (R := fun j H1 => -(2 ^ 62) ≤ j ∧ j < 2 ^ 62 ∧ keyRest X.K T (oM mx) tb js σ Q (Itr 0 j.toNat) H1) I hg2 hm2 he hs0 h fun r j t u v H1 s1 ro I1 hro hr1 ⟨b1, b2, hT, q⟩ => args_nil ?_) hs) hs2 hpl
  refine lam_kw I1 LC L hT fun f c' pm ctv H2 s2 hp2 I2 M => ?_
  obtain ⟨xs, Gd, W, g2, q⟩ := q _ f c' H2 M
  obtain ⟨x0, rr, ex, q⟩ := tKey_best (K := X.K) q
  have hj := L.len
  have hcall := lam_calls (σ := σ) (f := f) (pm := pm) (ctv := ctv) (c' := c') (A' := X.A.in1) L rfl hr.in1 hb
  rw [← clR_eq hj] at hcall
  have hR := hro _ (hp2 _ List.mem_cons_self)
  have I2' : Inv X ((f, lamO X params body scope pm ctv c') :: pins) σ H2 s2 := I2.pins_of fun p hp => I2.pin p (List.mem_append_right _ ((List.mem_cons.mp hp).elim (fun e => by rw [e]; exact List.mem_cons_self) fun m => List.mem_cons_of_mem _ (List.mem_cons_of_mem _ m)))
  refine hB I2' (by have := hr.un; show X.A.units + 1 < cLine; omega) ?_ hcall ex g2 q
  refine wpAny_pyIter_range hR (small_one (by omega) (by omega) b1 b2) ?_
  have I3 := I2'.kept (t' := s2.toks) (h' := s2.heap.push { cls := .type "range_iterator", data := .fields #[rawInt 0, rawInt (Builtin.Range.rangeSize 0 j 1), rawInt 1] }) fun b o e => Heap.get?_push_of_some _ e
  refine ⟨s2.heap.objs.size, [s2.heap.objs.size], _, rfl, inn_to I3, wk_of hc (turn_range _ 0 j.toNat) W.go W.st W.yl, ?_, fun b hb => ?_⟩
  · have e1 : (0 : Int) + ((0 : Nat) : Int) * 1 = 0 := by simp
    have e2 : ((j.toNat : Nat) : Int) - ((0 : Nat) : Int) = Builtin.Range.rangeSize 0 j 1 := by rw [rangeSize_one]; split <;> omega
    show IsRangeIter _ _ ((0 : Int) + ((0 : Nat) : Int) * 1) (((j.toNat : Nat) : Int) - ((0 : Nat) : Int)) 1
    rw [e1, e2]
    exact Heap.get?_push_size _ rfl
  · have e : b = s2.heap.objs.size := by simpa using hb
    subst e
    exact I2'.fpOk (Nat.le_refl _) (I2'.hok.fresh (Nat.le_refl _))
theorem walk_rg {n : Nat} {xs : List V} {Gd : Hp → Prop} {H : Hp} (W : WalkF (Itr 0 n) xs Gd) (g : Gd H) : xs = rgV 0 (n : Int) ∧ xs.length = n := by
  have h1 : n ≤ xs.length := W.st H g
  have h2 : xs.length ≤ n := by
    rcases Nat.lt_or_ge n xs.length with z | z
    · have := W.go n xs[n] H g (List.getElem?_eq_getElem z)
      exact absurd this (Nat.lt_irrefl n)
    · exact z
  have e : xs.length = n := Nat.le_antisymm h2 h1
  refine ⟨?_, e⟩
  refine List.ext_getElem? fun i => ?_
  by_cases hi : i < xs.length
  · have q := W.yl i xs[i] H (.int (0 + i)) H g (List.getElem?_eq_getElem hi) ⟨rfl, rfl⟩
    rw [List.getElem?_eq_getElem hi, ← q.2]
    unfold rgV
    rw [List.getElem?_map, List.getElem?_range (by omega)] <;> simp
  · rw [List.getElem?_eq_none (by omega), List.getElem?_eq_none]
    rw [rgV_length]; omega
/-- sorted(range(n), key=..) -/
theorem pe_keyS {ta : TA} {p2 q2 : Pos} (hc : X.calm = true) (hr : Room (k + 3) X.A) (hg : Gl X "sorted") (hm : X.mg "sorted" = none) (hg2 : Gl X "range") (hm2 : X.mg "range" = none) (he : PA X [e] ta) (LC : LamC X T c P nm lpos) (L : LamW X a fr js params scope) (hb : LamB X k a fr params body scope tb)
    (hs0 : starEach [e] X.env = [(false, eval e X.env)] := by rfl) (hs : starEach [.Call (.Name "range" p2) [e] [] q2] X.env = (false, eval (.Call (.Name "range" p2) [e] [] q2) X.env) :: starEach [] X.env := by rfl)
    (hs2 : backTo pos (starEach [.Call (.Name "range" p2) [e] [] q2] X.env) = (false, eval (.Call (.Name "range" p2) [e] [] q2) X.env) :: backTo pos (starEach [] X.env) := by rfl) (hpl : (backTo pos (starEach [.Call (.Name "range" p2) [e] [] q2] X.env)).any (·.1) = false := by rfl) :
    PE X (.Call (.Name "sorted" p) [.Call (.Name "range" p2) [e] [] q2] [⟨some "key", .Lambda params body scope lpos, kpos⟩] pos) (tKey X.K T 2 (iRng1 ta) tb js) := by
  refine ⟨fun pins s σ H Q I h => ?_⟩
  refine wpAny_Call_Name_kw (ld_blt I hg hm boot_sorted ?_ (by decide) (by decide))
  refine PyProof.Rows.callWith_kw (args_cons (rng_pin (R := fun j H1 => -(2 ^ 62) ≤ j ∧ j < 2 ^ 62 ∧ keyRest X.K T 2 tb js σ Q (Itr 0 j.toNat) H1) I hg2 hm2 he hs0 h fun r j t u v H1 s1 ro I1 hro hr1 ⟨b1, b2, hT, q⟩ => args_nil ?_) hs) hs2 hpl
  refine lam_kw I1 LC L hT fun f c' pm ctv H2 s2 hp2 I2 M => ?_
  obtain ⟨xs, Gd, W, g2, q⟩ := q _ f c' H2 M
  have hj := L.len
  have hcall := lam_calls (σ := σ) (f := f) (pm := pm) (ctv := ctv) (c' := c') (A' := X.A.in1.in1) L rfl hr.in1.in1 hb
  rw [← clR_eq hj] at hcall
  have hR := hro _ (hp2 _ List.mem_cons_self)
  have I2' : Inv X ((f, lamO X params body scope pm ctv c') :: pins) σ H2 s2 := I2.pins_of fun p hp => I2.pin p (List.mem_append_right _ ((List.mem_cons.mp hp).elim (fun e => by rw [e]; exact List.mem_cons_self) fun m => List.mem_cons_of_mem _ (List.mem_cons_of_mem _ m)))
  obtain ⟨ex, el⟩ := walk_rg W g2
  obtain ⟨b3, q⟩ := q
  rw [el] at b3
  have ej : rgV 0 ((j.toNat : Nat) : Int) = rgV 0 j := by
    unfold rgV
    have : ((j.toNat : Nat) : Int) - 0 = (j.toNat : Int) := by omega
    rw [this]
    have : (((j.toNat : Nat) : Int)).toNat = (j - 0).toNat := by omega
    rw [this]
  rw [ej] at ex
  subst ex
  refine sorted_callR hc I2' (by have := hr.un; show X.A.units + 1 + 1 + 2 < cLine; omega) hR ⟨by omega, by omega, b1, b2⟩ (by rw [Int.sub_zero]; exact b3) hcall q
end
end TW

/-! ## the readings; what is reckoned is what is read -/
namespace TW
open PySem L2
/-- what may have become of the heap where something was raised -/
def Xup (F : Nat → List Addr) (H H' : Hp) : Prop := (∀ a o, H a = some o → ¬ FP F a → NoTab o → H' a = some o) ∧ ∀ a, H a ≠ none → H' a ≠ none
theorem Xup.of {B H B1 H1 H2 : Hp} {F F1 : Nat → List Addr} {g : List Addr} (t : Step B H (FP F) B1 H1 (fun a => FP F1 a ∨ a ∈ g)) (x : Xup F1 H1 H2) : Xup F H H2 :=
  ⟨fun a o e n z => x.1 a o (t.up a o e n z) (fun q => (t.new a (.inl q)).elim n fun r => by rw [e] at r; cases r) z, fun a h => x.2 a (t.th a h)⟩
theorem Xup.refl {F : Nat → List Addr} {H : Hp} : Xup F H H := ⟨fun _ _ e _ _ => e, fun _ e => e⟩
/-- what a def promises: its reckoning -/
def spF (C : Ctx) (fs : FnSem) : Sp := fun vs H Q E => ∃ (ds : List D) (B : Hp) (F : Nat → List Addr), ds.length = fs.np ∧ vs.length = fs.np ∧
  Sta C fs.pk (fun _ => none) B H (vs.map some) (ds.map some) F ∧ (∀ j, ¬ ownK (fs.pk j) = true → F j = []) ∧
  match fs.run ds with
  | .ok (d, ms) => ∀ v B' H' F' f, Step B H (FP F) B' H' (fun a => FP F' a ∨ a ∈ f) → Sta C fs.pk (fun _ => none) B' H' (vs.map some) ms F' → Has C B' H' F' fs.rk d v f → Q v H'
  | .exc c => ∀ H', Xup F H H' → NdefX.TabsN C.T H' → E (.ref (C.cls c)) none H'
  | .bad => False
def gNs : List Nat → TGs
  | [] => gNil
  | i :: r => gCons (gName i) (gNs r)
def rdTg (K : PySem.W.Frag) : Tg → TG
  | .nm i => gName i
  | .tup is => gTup K is.length (gNs is)
  | .lsp is => gLst K is.length (gNs is)
def iSrc (K : PySem.W.Frag) (k : Sk) (ta tb tc : TE) : TI := match k with
  | .lst => iList K ta
  | .r1 => iRng1 (tCons ta tNil)
  | .r2 => iRng2 (tCons ta (tCons tb tNil))
  | .r3 => iRng3 (tCons ta (tCons tb (tCons tc tNil)))
  | .dic i => iKeys (tVar i)
  | .str => iStr ta
abbrev Wno : WX := fun _ _ _ _ => False
abbrev v0 (vs : List V) : V := vs.getD 0 .non
abbrev v1 (vs : List V) : V := vs.getD 1 .non
abbrev v2 (vs : List V) : V := vs.getD 2 .non
def lockIf (k : Sk) (t : TE) : TE := match k with
  | .dic _ => tLockE t
  | _ => t
def tSnoc (t : TA) (i : Nat) : TA := fun σ H Q => t σ H fun xs H1 => ∃ v, σ[i]? = some (some v) ∧ Q (xs ++ [v]) H1
def tCst (d : D) : TE := fun _ H Q => ∃ v, scV d = some v ∧ Q v H
mutual
def rdE (C : Ctx) : IE → WX → TE
  | .var i, _ => tVar i
  | .mv i, _ => tVar i
  | .cst d, _ => fun _ H Q => ∃ v, scV d = some v ∧ Q v H
  | .op1 o a, W => fun σ H Q => rdE C a W σ H fun x H1 => r1 C.K o x H1 Q
  | .op2 o a b, W => fun σ H Q => rdE C a W σ H fun x H1 => rdE C b W σ H1 fun y H2 => r2 C.K o x y H2 Q
  | .mth o a b, W => fun σ H Q => rdE C a W σ H fun x H1 => tyV C.K "list" x H1 ∧ rdE C b W σ H1 fun y H2 => r2 C.K o x y H2 Q
  | .slc a b c, W => tSl (rSlL C.K) (rdE C a W) (tPart (rdE C b W)) (tPart (rdE C c W))
  | .not a, W => tNotV (rdE C a W)
  | .and a b, W => tAndV (rdE C a W) (rdE C b W)
  | .or a b, W => tOrV (rdE C a W) (rdE C b W)
  | .lst es, W => tLst (rdEs C es W)
  | .tup es, W => tTup (rdEs C es W)
  | .dic1 k v, W => tDisp [(rdE C k W, rdE C v W)]
  | .dic0, _ => tDNewK
  | .dct0, _ => tDNewT
  | .call f es, W => tCallS (spF C (C.Φ f)) (WE W) (rdEs C es W)
  | .callM f i es, W => tCallS (spF C (C.Φ f)) (WE W) (tCons (tVar i) (rdEs C es W))
  | .idxV i e, W => fun σ H Q => tVar i σ H fun x H1 => rdE C e W σ H1 fun y H2 => r2 C.K .subL x y H2 Q
  | .lcM a i elt, W => tLc (iSrc C.K .r1 (rdE C a W) (tCst .non) (tCst .non)) (rdTg C.K (.nm i)) (tB (tCst (.bl true))) (rdE C elt Wno) [i]
  | .filt i t test, W => tLc (iSrc C.K .lst (tVar i) (tCst .non) (tCst .non)) (rdTg C.K (.nm t)) (tB (rdE C test Wno)) (tVar t) [t]
  | .catD i j, W => fun σ H Q => tVar i σ H fun x H1 => tVar j σ H1 fun y H2 => r2 C.K .cat x y H2 Q
  | .t1 o a, W => fun σ H Q => rdE C a W σ H fun x H1 => rT1 o x H1 Q
  | .t2 o a b, W => fun σ H Q => rdE C a W σ H fun x H1 => andIf o.mth (∃ s, x = .str s) (rdE C b W σ H1 fun y H2 => rT2 C.K o x y H2 Q)
  | .t3 a b c, W => tSl rSlS (rdE C a W) (tPart (rdE C b W)) (tPart (rdE C c W))
  | .callT f es, W => tCallS (spF C (C.Φ f)) (WE W) (rdEs C es W)
  | .callN f i es, W => tCallS (spF C (C.Φ f)) (WE W) (tSnoc (rdEs C es W) i)
  | .lc k a b c t test elt, W => lockIf k (tLc (iSrc C.K k (rdE C a W) (rdE C b W) (rdE C c W)) (rdTg C.K t) (tB (rdE C test Wno)) (rdE C elt Wno) t.names)
  | .pop i, _ => tBM0 C.K "list" rPop (tVar i)
  | .popAt i e, W => tBM C.K "list" rPopAt (tVar i) (tCons (rdE C e W) tNil)
  | .key o k a b c js body, W => lockIf k (tKey C.K C.T o (iSrc C.K k (rdE C a W) (rdE C b W) (rdE C c W)) (rdE C body Wno) js)
def rdEs (C : Ctx) : IEs → WX → TA
  | .nil, _ => tNil
  | .cons e es, W => tCons (rdE C e W) (rdEs C es W)
end
def Fin (C : Ctx) (ks : Nat → Kind) (pin : Nat → Option V) (σ : L2.St) (B H : Hp) (F : Nat → List Addr) (W : WX) (k : Kind) (pu : Bool) (r : Res (D × Env)) (Q : VK) : Prop := match r with
  | .ok (d, ρ') => Post C ks pin σ B H F ρ' k d pu Q
  | .exc c => ∀ H', Xup F H H' → NdefX.TabsN C.T H' → W (.ref (C.cls c)) none σ H'
  | .bad => False
/-- several that wait -/
def HasL (C : Ctx) (B H : Hp) (F : Nat → List Addr) : List Kind → List D → List V → List Addr → Prop
  | [], ds, vs, f => ds = [] ∧ vs = [] ∧ f = []
  | k :: l, ds, vs, f => ∃ d r v s f1 f2, ds = d :: r ∧ vs = v :: s ∧ f = f1 ++ f2 ∧ Has C B H F k d v f1 ∧ HasL C B H F l r s f2 ∧ ∀ a ∈ f1, a ∉ f2
def PostL (C : Ctx) (ks : Nat → Kind) (pin : Nat → Option V) (σ : L2.St) (B H : Hp) (F : Nat → List Addr) (ρ' : Env) (l : List Kind) (ds : List D) (pu : Bool) (Q : List V → Hp → Prop) : Prop :=
  ∀ vs B' H' F' f, Step B H (FP F) B' H' (fun a => FP F' a ∨ a ∈ f) → Sta C ks pin B' H' σ ρ' F' → HasL C B' H' F' l ds vs f → (pu = true → Up H H' ∧ F' = F) → Q vs H'
def FinL (C : Ctx) (ks : Nat → Kind) (pin : Nat → Option V) (σ : L2.St) (B H : Hp) (F : Nat → List Addr) (W : WX) (l : List Kind) (pu : Bool) (r : Res (List D × Env)) (Q : List V → Hp → Prop) : Prop := match r with
  | .ok (ds, ρ') => PostL C ks pin σ B H F ρ' l ds pu Q
  | .exc c => ∀ H', Xup F H H' → NdefX.TabsN C.T H' → W (.ref (C.cls c)) none σ H'
  | .bad => False
def SndE (C : Ctx) (sg : Nat → Sig) (e : IE) : Prop := ∀ (nb : Bool) (ks : Nat → Kind) (_ : nb = true → ∀ j, (ks j).borrowed = false) (pin : Nat → Option V) (W : WX) (B H : Hp) (σ : L2.St) (ρ : Env) (F : Nat → List Addr) (k : Kind) (Q : VK),
  kE sg nb ks e = some k → Sta C ks pin B H σ ρ F → Fin C ks pin σ B H F W k (pureE sg e) (evE C.Φ e ρ) Q → rdE C e W σ H Q
def SndEs (C : Ctx) (sg : Nat → Sig) (es : IEs) : Prop := ∀ (nb : Bool) (ks : Nat → Kind) (_ : nb = true → ∀ j, (ks j).borrowed = false) (pin : Nat → Option V) (W : WX) (B H : Hp) (σ : L2.St) (ρ : Env) (F : Nat → List Addr) (l : List Kind) (Q : List V → Hp → Prop),
  kEs sg nb ks es = some l → Sta C ks pin B H σ ρ F → FinL C ks pin σ B H F W l (pureEs sg es) (evEs C.Φ es ρ) Q → rdEs C es W σ H Q
section
variable {C : Ctx} {sg : Nat → Sig}
theorem snd_nil : SndEs C sg .nil := by
  intro nb ks hnb pin W B H σ ρ F l Q hk sta h
  simp only [kEs, Option.some.injEq] at hk
  subst hk
  simp only [evEs, FinL] at h
  exact h [] B H F [] (Step.id rfl) sta ⟨rfl, rfl, rfl⟩ fun _ => ⟨Up.refl H, rfl⟩
/-- in a row -/
theorem Step.row {B H B1 H1 B2 H2 : Hp} {F F1 F2 : Nat → List Addr} {f g : List Addr} (s : Step B H (FP F) B1 H1 (fun a => FP F1 a ∨ a ∈ f)) (t : Step B1 H1 (FP F1) B2 H2 (fun a => FP F2 a ∨ a ∈ g)) :
    Step B H (FP F) B2 H2 (fun a => FP F2 a ∨ a ∈ f ++ g) where
  ex := fun a o e => t.ex a o (s.ex a o e)
  up := fun a o e n z => t.up a o (s.up a o e n z) (fun q => (s.new a (.inl q)).elim n fun r => by rw [e] at r; cases r) z
  th := fun a h => t.th a (s.th a h)
  new := fun a h => by
    have key : FP F2 a ∨ a ∈ g → FP F a ∨ H a = none := fun q => (t.new a q).elim (fun z => s.new a (.inl z)) fun r => .inr (by
      cases e : H a with
      | none => rfl
      | some o => exact absurd r (s.th a (by rw [e]; simp)))
    rcases h with h | h
    · exact key (.inl h)
    · rcases List.mem_append.mp h with h | h
      · exact s.new a (.inr h)
      · exact key (.inr h)
  newB := fun a h => by
    rcases t.newB a h with q | q | q
    · exact s.newB a q
    · exact .inr (s.new a (.inl q))
    · refine .inr (.inr ?_)
      cases r : H a with
      | none => rfl
      | some o => exact absurd q (s.th a (by rw [r]; simp))
theorem snd_cons {e : IE} {es : IEs} (he : SndE C sg e) (hs : SndEs C sg es) : SndEs C sg (.cons e es) := by
  intro nb ks hnb pin W B H σ ρ F l Q hk sta h
  simp only [kEs] at hk
  split at hk <;> try (simp only [reduceCtorEq] at hk)
  rename_i k l' hk1 hk2
  split at hk <;> simp only [reduceCtorEq, Option.some.injEq] at hk
  rename_i hp
  subst hk
  refine he nb ks hnb pin W B H σ ρ F k _ hk1 sta ?_
  simp only [evEs] at h
  cases ev : evE C.Φ e ρ with
  | bad => rw [ev] at h; exact h
  | exc c => rw [ev] at h; exact h
  | ok p =>
    obtain ⟨d, ρ1⟩ := p
    rw [ev] at h
    simp only at h
    show Post C ks pin σ B H F ρ1 k d (pureE sg e) _
    intro v B1 H1 F1 f1 st1 sta1 has1 pu1
    refine hs nb ks hnb pin W B1 H1 σ ρ1 F1 l' _ hk2 sta1 ?_
    cases ev2 : evEs C.Φ es ρ1 with
    | bad => rw [ev2] at h; exact h
    | exc c => rw [ev2] at h; exact fun H' x t => h H' (x.of st1) t
    | ok p =>
      obtain ⟨ds, ρ2⟩ := p
      rw [ev2] at h
      show PostL C ks pin σ B1 H1 F1 ρ2 l' ds (pureEs sg es) _
      intro vs B2 H2 F2 f2 st2 sta2 has2 pu2
      obtain ⟨has1', dj⟩ := has1.step st2 fun b => by
        have : pureEs sg es = true := by
          cases q : pureEs sg es with
          | true => rfl
          | false => rw [b, q] at hp; simp at hp
        exact (pu2 this).1
      refine h (v :: vs) B2 H2 F2 (f1 ++ f2) (st1.row st2) sta2 ⟨d, ds, v, vs, f1, f2, rfl, rfl, rfl, has1', has2, dj⟩ fun pu => ?_
      simp only [pureEs, Bool.and_eq_true] at pu
      obtain ⟨u1, e1⟩ := pu1 pu.1
      obtain ⟨u2, e2⟩ := pu2 pu.2
      exact ⟨u1.trans u2, e2.trans e1⟩
end
end TW

namespace TW
open PySem L2
theorem gt_st : ∀ (ρ : Env) (i j : Nat) (d : Option D), gt (st ρ i d) j = if j = i ∧ i < ρ.length then d else gt ρ j
  | [], i, j, d => by simp [st, gt]
  | x :: r, 0, 0, d => by simp [st, gt]
  | x :: r, 0, j + 1, d => by simp [st, gt]
  | x :: r, i + 1, 0, d => by simp [st, gt]
  | x :: r, i + 1, j + 1, d => by
    simp only [st, gt, gt_st r i j d, List.length_cons, Nat.add_right_cancel_iff, Nat.add_lt_add_iff_right]
theorem st_length : ∀ (ρ : Env) (i : Nat) (d : Option D), (st ρ i d).length = ρ.length
  | [], _, _ => rfl
  | x :: r, 0, _ => rfl
  | x :: r, i + 1, d => by simp only [st, List.length_cons, st_length r i d]
theorem gt_lt : ∀ {ρ : Env} {i : Nat} {d : D}, gt ρ i = some d → i < ρ.length
  | [], _, _, h => by simp [gt] at h
  | x :: r, 0, _, _ => by simp
  | x :: r, i + 1, d, h => by
    simp only [gt] at h
    have := gt_lt h
    simp only [List.length_cons]; omega
section
variable {C : Ctx} {sg : Nat → Sig}
theorem snd_var (i : Nat) : SndE C sg (.var i) := by
  intro nb ks hnb pin W B H σ ρ F k Q hk sta h
  simp only [evE] at h
  cases e : gt ρ i with
  | none => rw [e] at h; exact h.elim
  | some d =>
    rw [e] at h
    obtain ⟨v, h1, h2⟩ := sta.rep i d e
    refine ⟨v, h1, h v B H F [] (Step.id rfl) sta ⟨?_, nomem, nomem⟩ fun _ => ⟨Up.refl H, rfl⟩⟩
    simp only [kE, Option.some.injEq] at hk
    cases q : ks i <;> rw [q] at hk h2 <;> simp only at hk <;> subst hk
    · exact ⟨h2.1, rfl⟩
    · exact ⟨h2.1, rfl⟩
    · rcases h2 with h2 | ⟨p, e1, _, t⟩
      · exact .inl ⟨h2.1, rfl⟩
      · exact .inr ⟨p, e1, rfl, t⟩
    · exact ⟨vrep_hold (C := C) (k := .deep) sta.sub h2, rfl⟩
    · rcases h2 with h2 | ⟨p, e1, _, t⟩
      · exact .inl ⟨h2.1, rfl⟩
      · exact .inr ⟨p, e1, rfl, t⟩
    · exact ⟨h2.1, rfl⟩
/-- the frame without slot i's own things -/
def without (F : Nat → List Addr) (i : Nat) : Nat → List Addr := fun j => if j = i then [] else F j
theorem without_sub {F : Nat → List Addr} {i : Nat} {a : Addr} (h : FP (without F i) a) : FP F a := by
  obtain ⟨j, m⟩ := h
  unfold without at m
  split at m
  · cases m
  · exact ⟨j, m⟩
theorem Sta.out {ks : Nat → Kind} {pin : Nat → Option V} {B H : Hp} {σ : L2.St} {ρ : Env} {F : Nat → List Addr} (sta : Sta C ks pin B H σ ρ F) (i : Nat) : Sta C ks pin B H σ (st ρ i none) (without F i) where
  len := by rw [st_length]; exact sta.len
  sub := sta.sub
  tab := sta.tab
  rep := fun j d e => by
    rw [gt_st] at e
    split at e
    · cases e
    · rename_i n
      obtain ⟨v, h1, h2⟩ := sta.rep j d e
      have nj : j ≠ i := fun z => n ⟨z, by rw [← z]; exact gt_lt e⟩
      exact ⟨v, h1, by unfold without; rw [if_neg nj]; exact h2⟩
  nf := fun j e => by
    unfold without
    split
    · rfl
    · rename_i n
      rw [gt_st] at e
      rw [if_neg (fun z => n z.1)] at e
      exact sta.nf j e
  dj := fun j k a m m2 => by
    unfold without at m m2
    split at m
    · cases m
    · split at m2
      · cases m2
      · exact sta.dj j k a m m2
  nB := fun j a m => by
    unfold without at m
    split at m
    · cases m
    · exact sta.nB j a m
  pin := sta.pin
theorem snd_mv (i : Nat) : SndE C sg (.mv i) := by
  intro nb ks hnb pin W B H σ ρ F k Q hk sta h
  simp only [evE] at h
  cases e : gt ρ i with
  | none => rw [e] at h; exact h.elim
  | some d =>
    rw [e] at h
    obtain ⟨v, h1, h2⟩ := sta.rep i d e
    simp only [kE] at hk
    split at hk <;> simp only [reduceCtorEq, Option.some.injEq] at hk
    subst hk
    refine ⟨v, h1, h v B H (without F i) (F i) ⟨fun _ _ e => e, fun _ _ e _ _ => e, fun _ e => e, fun a z => z.elim (fun q => .inl (without_sub q)) fun m => .inl ⟨i, m⟩, fun _ e => .inl e⟩ (sta.out i) ⟨h2, fun a m z => ?_, fun a m => sta.nB i a m⟩ fun pu => by simp [pureE] at pu⟩
    obtain ⟨j, mj⟩ := z
    unfold without at mj
    split at mj
    · cases mj
    · rename_i n
      exact n (sta.dj j i a mj m)
theorem snd_cst (d : D) : SndE C sg (.cst d) := by
  intro nb ks hnb pin W B H σ ρ F k Q hk sta h
  simp only [evE] at h
  simp only [kE] at hk
  split at hk <;> simp only [reduceCtorEq, Option.some.injEq] at hk
  rename_i hs
  subst hk
  have : ∃ v, scV d = some v := by cases d <;> simp only [D.isSc, Bool.false_eq_true] at hs <;> exact ⟨_, rfl⟩
  obtain ⟨v, hv⟩ := this
  exact ⟨v, hv, h v B H F [] (Step.id rfl) sta ⟨⟨hv, rfl⟩, nomem, nomem⟩ fun _ => ⟨Up.refl H, rfl⟩⟩
/-- a new object -/
theorem Step.new_ {B H : Hp} {F : Nat → List Addr} {p : Addr} {o : HO} (hp : H p = none) {f : List Addr} (hf : ∀ a ∈ f, a = p) : Step B H (FP F) B (upd H p o) (fun a => FP F a ∨ a ∈ f) where
  ex := fun _ _ e => e
  up := fun a u e _ _ => by rw [upd_ne (ne_of_none e hp)]; exact e
  th := fun a h => by
    by_cases e : a = p
    · rw [e, upd_same]; simp
    · rw [upd_ne e]; exact h
  new := fun a z => z.elim .inl fun m => .inr (by rw [hf a m]; exact hp)
  newB := fun _ h => .inl h
theorem upd_up {H : Hp} {p : Addr} {o : HO} (hp : H p = none) : ∀ a u, H a = some u → upd H p o a = some u := fun a u e => by rw [upd_ne (ne_of_none e hp)]; exact e
theorem Sta.new_ {ks : Nat → Kind} {pin : Nat → Option V} {B H : Hp} {σ : L2.St} {ρ : Env} {F : Nat → List Addr} {p : Addr} {o : HO} (sta : Sta C ks pin B H σ ρ F) (hp : H p = none) : Sta C ks pin B (upd H p o) σ ρ F :=
  sta.step (P' := Nil) ⟨fun _ _ e => e, fun a u e _ _ => upd_up hp a u e, fun a h => by
    by_cases e : a = p
    · rw [e, upd_same]; simp
    · rw [upd_ne e]; exact h, fun a z => z.elim, fun _ h => .inl h⟩ (fun a u e => ⟨upd_up hp a u (sta.sub a u e).1, (sta.sub a u e).2⟩) (sta.tab.ext (upd_up hp))
theorem Sta.freeB {ks : Nat → Kind} {pin : Nat → Option V} {B H : Hp} {σ : L2.St} {ρ : Env} {F : Nat → List Addr} {p : Addr} (sta : Sta C ks pin B H σ ρ F) (hp : H p = none) : B p = none := by
  cases e : B p with
  | none => rfl
  | some o => rw [(sta.sub p o e).1] at hp; cases hp
theorem Sta.freeF {ks : Nat → Kind} {pin : Nat → Option V} {B H : Hp} {σ : L2.St} {ρ : Env} {F : Nat → List Addr} {p : Addr} (sta : Sta C ks pin B H σ ρ F) (hp : H p = none) : ¬ FP F p := fun z => by
  obtain ⟨o, e, _⟩ := sta.atF z
  rw [e] at hp; cases hp
/-- the thing read, its items in a base that only kind bo has to be the heap -/
theorem Has.read {B H : Hp} {F : Nat → List Addr} {k : Kind} {d : D} {v : V} {f : List Addr} (h : Has C B H F k d v f) (sub : Sub B H) :
    (k = .bo → hold1 C.K (vis H Nil) H d v) ∧ (k ≠ .bo → hold1 C.K (join B H f) H d v) := by
  have r := h.rep
  refine ⟨fun e => ?_, fun n => ?_⟩
  · subst e
    exact hold_1 vis_sub (vis_hold r.1)
  · have js := join_sub (f := f) sub h.at
    cases k <;> simp only [vrep] at r
    · exact sc_1 r.1
    · exact hold_1 js (hold_mono (.of fun a o e _ => join_ext h.nB a o e) _ _ r.1)
    · rcases r with r | ⟨p, rfl, _, t⟩
      · exact sc_1 r.1
      · exact topAt_1 (topAt_keep t (.of fun a o e _ => join_ext h.nB a o e) fun _ e _ => e)
    · exact hold_1 js (own_hold d v f r fun a m o e _ => by rw [join_in m]; exact e)
    · rcases r with r | ⟨p, rfl, _, t⟩
      · exact sc_1 r.1
      · exact topAt_1 (topAt_keep t (.of fun a o e _ => join_ext h.nB a o e) fun _ e _ => e)
    · exact absurd rfl n
/-- where a scalar comes out -/
theorem Post.sc {ks : Nat → Kind} {pin : Nat → Option V} {B H B1 H1 : Hp} {σ : L2.St} {ρ' : Env} {F F1 : Nat → List Addr} {x : D} {w : V} {pu : Bool} {Q : VK} {f : List Addr} (h : Post C ks pin σ B H F ρ' .im x pu Q) (hw : scV x = some w)
    (st1 : Step B H (FP F) B1 H1 (fun a => FP F1 a ∨ a ∈ f)) (sta1 : Sta C ks pin B1 H1 σ ρ' F1) (pu1 : pu = true → Up H H1 ∧ F1 = F) : Q w H1 :=
  h w B1 H1 F1 [] (st1.less fun a z => z.elim .inl fun m => by cases m) sta1 ⟨⟨hw, rfl⟩, nomem, nomem⟩ pu1
/-- where a scalar comes out, a tuple was laid -/
theorem Post.scU {ks : Nat → Kind} {pin : Nat → Option V} {B H B1 H1 : Hp} {σ : L2.St} {ρ' : Env} {F F1 : Nat → List Addr} {x : D} {w : V} {pu : Bool} {Q : VK} {f : List Addr} {p : Addr} {o : HO} (h : Post C ks pin σ B H F ρ' .im x pu Q) (hw : scV x = some w)
    (st1 : Step B H (FP F) B1 H1 (fun a => FP F1 a ∨ a ∈ f)) (sta1 : Sta C ks pin B1 H1 σ ρ' F1) (pu1 : pu = true → Up H H1 ∧ F1 = F) (hp : H1 p = none) : Q w (upd H1 p o) := by
  have st3 : Step B H (FP F) B1 (upd H1 p o) (fun a => FP F1 a ∨ a ∈ []) := by
    have := Step.row (f := []) (g := []) (st1.less fun a z => z.elim .inl fun m => by cases m) (Step.new_ (F := F1) (B := B1) (o := o) hp (f := []) nomem)
    exact this
  exact h w _ _ F1 [] st3 (sta1.new_ hp) ⟨⟨hw, rfl⟩, nomem, nomem⟩ fun z => ⟨(pu1 z).1.trans fun a o e _ => upd_up hp a o e, (pu1 z).2⟩
/-- where a new thing comes out, its items in the base -/
theorem Post.newT {ks : Nat → Kind} {pin : Nat → Option V} {B H B1 H1 : Hp} {σ : L2.St} {ρ' : Env} {F F1 : Nat → List Addr} {d : D} {o : HO} {pu : Bool} {Q : VK} {f : List Addr} {p : Addr} (h : Post C ks pin σ B H F ρ' .top d pu Q)
    (hx : ∀ Hx : Hp, Hx p = some o → topAt C.K (join B1 H1 f) Hx p d)
    (st1 : Step B H (FP F) B1 H1 (fun a => FP F1 a ∨ a ∈ f)) (sta1 : Sta C ks pin B1 H1 σ ρ' F1) (dj : ∀ a ∈ f, ¬ FP F1 a) (nB : ∀ a ∈ f, B1 a = none) (at_ : ∀ a ∈ f, ∃ o, H1 a = some o ∧ Lay o) (pu1 : pu = true → Up H H1 ∧ F1 = F) (hp : H1 p = none) : Q (.ref p) (upd H1 p o) := by
  have st2 := st1.join nB fun _ m => m
  have sta2 := sta1.absorb at_ dj nB
  have st3 : Step B H (FP F) (join B1 H1 f) (upd H1 p o) (fun a => FP F1 a ∨ a ∈ [p]) := by
    have := Step.row (f := []) (st2.less fun a z => z.elim id fun m => by cases m) (Step.new_ (F := F1) (B := join B1 H1 f) (o := o) hp (f := [p]) fun a m => List.mem_singleton.mp m)
    exact this
  refine h (.ref p) _ _ F1 [p] st3 (sta2.new_ hp) ⟨.inr ⟨p, rfl, rfl, hx _ upd_same⟩, fun a m => ?_, fun a m => ?_⟩ fun z => ⟨(pu1 z).1.trans fun a o e _ => upd_up hp a o e, (pu1 z).2⟩
  · rw [List.mem_singleton.mp m]; exact sta2.freeF hp
  · rw [List.mem_singleton.mp m]; exact sta2.freeB hp
/-- where a new thing comes out, its items borrowed -/
theorem Post.newB {ks : Nat → Kind} {pin : Nat → Option V} {B H B1 H1 : Hp} {σ : L2.St} {ρ' : Env} {F F1 : Nat → List Addr} {d : D} {o : HO} {pu : Bool} {Q : VK} {f : List Addr} {p : Addr} (h : Post C ks pin σ B H F ρ' .bo d pu Q) (hx : hold C.K (upd H1 p o) d (.ref p))
    (st1 : Step B H (FP F) B1 H1 (fun a => FP F1 a ∨ a ∈ f)) (sta1 : Sta C ks pin B1 H1 σ ρ' F1) (pu1 : pu = true → Up H H1 ∧ F1 = F) (hp : H1 p = none) : Q (.ref p) (upd H1 p o) := by
  have st3 : Step B H (FP F) B1 (upd H1 p o) (fun a => FP F1 a ∨ a ∈ []) := by
    have := Step.row (f := []) (g := []) (st1.less fun a z => z.elim .inl fun m => by cases m) (Step.new_ (F := F1) (B := B1) (o := o) hp (f := []) nomem)
    exact this
  exact h (.ref p) _ _ F1 [] st3 (sta1.new_ hp) ⟨⟨hx, rfl⟩, nomem, nomem⟩ fun z => ⟨(pu1 z).1.trans fun a o e _ => upd_up hp a o e, (pu1 z).2⟩
/-- where a new thing comes out that is all its owner's -/
theorem Post.newO {ks : Nat → Kind} {pin : Nat → Option V} {B H B1 H1 : Hp} {σ : L2.St} {ρ' : Env} {F F1 : Nat → List Addr} {d : D} {o : HO} {pu : Bool} {Q : VK} {f : List Addr} {p : Addr} (h : Post C ks pin σ B H F ρ' .deep d pu Q) (hx : ∀ Hx : Hp, Hx p = some o → (∀ a ∈ f, ∀ o, H1 a = some o → Hx a = some o) → p ∉ f → own Hx d (.ref p) (p :: f))
    (st1 : Step B H (FP F) B1 H1 (fun a => FP F1 a ∨ a ∈ f)) (sta1 : Sta C ks pin B1 H1 σ ρ' F1) (dj : ∀ a ∈ f, ¬ FP F1 a) (nB : ∀ a ∈ f, B1 a = none) (at_ : ∀ a ∈ f, ∃ o, H1 a = some o ∧ Lay o) (pu1 : pu = true → Up H H1 ∧ F1 = F) (hp : H1 p = none) : Q (.ref p) (upd H1 p o) := by
  have pf : p ∉ f := fun m => by
    obtain ⟨o', e, _⟩ := at_ p m
    rw [hp] at e; cases e
  have st3 : Step B H (FP F) B1 (upd H1 p o) (fun a => FP F1 a ∨ a ∈ p :: f) := by
    have s2 := Step.row (f := f) st1 (Step.new_ (F := F1) (B := B1) (o := o) hp (f := [p]) fun a m => List.mem_singleton.mp m)
    exact s2.less fun a z => z.imp id fun m => by
      rcases List.mem_cons.mp m with e | m
      · exact List.mem_append_right _ (List.mem_singleton.mpr e)
      · exact List.mem_append_left _ m
  refine h (.ref p) _ _ F1 (p :: f) st3 (sta1.new_ hp) ⟨hx _ upd_same (fun a _ o e => upd_up hp a o e) pf, fun a m => ?_, fun a m => ?_⟩ fun z => ⟨(pu1 z).1.trans fun a o e _ => upd_up hp a o e, (pu1 z).2⟩
  · rcases List.mem_cons.mp m with e | m
    · rw [e]; exact sta1.freeF hp
    · exact dj a m
  · rcases List.mem_cons.mp m with e | m
    · rw [e]; exact sta1.freeB hp
    · exact nB a m
theorem holdsB {H : Hp} {ds : List D} {xs : List V} {p : Addr} {o : HO} (hp : H p = none) (h : holds C.K (vis H Nil) ds xs) : holds C.K (upd H p o) ds xs :=
  holds_mono (.of fun a o e _ => upd_up hp a o (vis_some e).2.1) _ _ h
/-- where a new list of scalars comes out -/
theorem Post.newS {ks : Nat → Kind} {pin : Nat → Option V} {B H B1 H1 : Hp} {σ : L2.St} {ρ' : Env} {F F1 : Nat → List Addr} {ns : List Int} {pu : Bool} {Q : VK} {f : List Addr} {p : Addr} (h : Post C ks pin σ B H F ρ' .deep (.lst (ns.map D.int)) pu Q)
    (st1 : Step B H (FP F) B1 H1 (fun a => FP F1 a ∨ a ∈ f)) (sta1 : Sta C ks pin B1 H1 σ ρ' F1) (pu1 : pu = true → Up H H1 ∧ F1 = F) (hp : H1 p = none) : Q (.ref p) (upd H1 p (.lst (ns.map V.int))) := by
  have st3 : Step B H (FP F) B1 (upd H1 p (.lst (ns.map V.int))) (fun a => FP F1 a ∨ a ∈ [p]) := by
    have := Step.row (f := []) (st1.less fun a z => z.elim .inl fun m => by cases m) (Step.new_ (F := F1) (B := B1) (o := .lst (ns.map V.int)) hp (f := [p]) fun a m => List.mem_singleton.mp m)
    exact this
  refine h (.ref p) _ _ F1 [p] st3 (sta1.new_ hp) ⟨⟨p, ns.map V.int, [], rfl, rfl, upd_same, by simp, owns_sc (fun d m => ?_) C.K B1 (holds_ints ns)⟩, fun a m => ?_, fun a m => ?_⟩ fun z => ⟨(pu1 z).1.trans fun a o e _ => upd_up hp a o e, (pu1 z).2⟩
  · obtain ⟨n, _, rfl⟩ := List.mem_map.mp m; rfl
  · rw [List.mem_singleton.mp m]; exact sta1.freeF hp
  · rw [List.mem_singleton.mp m]; exact sta1.freeB hp
end
end TW

namespace TW
open PySem L2
section
variable {C : Ctx} {sg : Nat → Sig}
theorem kd_sc {o : Op1} {k : Kind} (h : o.cl = .sc) : o.kd k = .im := by cases o <;> simp only [Op1.cl, reduceCtorEq] at h <;> rfl
theorem kd_new {o : Op1} {k : Kind} (h : o.cl = .new) : o.kd k = k.mk := by cases o <;> simp only [Op1.cl, reduceCtorEq] at h <;> rfl
theorem kd_fresh {o : Op1} {k : Kind} (h : o.cl = .fresh) : o.kd k = .deep := by cases o <;> simp only [Op1.cl, reduceCtorEq] at h <;> rfl
theorem mk_ne {k : Kind} (h : k ≠ .bo) : k.mk = .top := by cases k <;> simp_all [Kind.mk]
theorem run1_exc {o : Op1} {d : D} {c : Nat} : o.run d ≠ .exc c := by
  cases o <;> cases d <;> simp only [Op1.run, okA, okT, okI, okB, ne_eq, reduceCtorEq, not_false_eq_true] <;> (repeat' split) <;> (try simp)
theorem snd_op1 {o : Op1} {a : IE} (ha : SndE C sg a) : SndE C sg (.op1 o a) := by
  intro nb ks hnb pin W B H σ ρ F k' Q hk sta h
  simp only [kE] at hk
  split at hk <;> try (simp only [reduceCtorEq] at hk)
  rename_i k hk1
  split at hk <;> simp only [reduceCtorEq, Option.some.injEq] at hk
  rename_i hl
  subst hk
  refine ha nb ks hnb pin W B H σ ρ F k _ hk1 sta ?_
  simp only [evE, pureE] at h
  cases ev : evE C.Φ a ρ with
  | bad => rw [ev] at h; exact h
  | exc c => rw [ev] at h; exact h
  | ok p =>
    obtain ⟨d, ρ1⟩ := p
    rw [ev] at h
    simp only at h
    show Post C ks pin σ B H F ρ1 k d (pureE sg a) _
    intro v B1 H1 F1 f1 st1 sta1 has1 pu1
    cases er : o.run d with
    | bad => rw [er] at h; exact h.elim
    | exc c => exact absurd er run1_exc
    | ok x =>
      rw [er] at h
      simp only at h
      have hh := vrep_hold sta1.sub has1.rep
      cases ec : o.cl with
      | sc =>
        rw [kd_sc ec] at h
        obtain ⟨w, hw, q⟩ := op1_sc ec er (hold_self hh)
        exact q Q (Post.sc h hw st1 sta1 pu1)
      | new =>
        rw [kd_new ec] at h
        obtain ⟨rb, rn⟩ := has1.read sta1.sub
        by_cases eb : k = .bo
        · subst eb
          obtain ⟨ds, rfl, q⟩ := new_lst ec er (rb rfl) (fun a u e => (vis_sub a u e).1)
          exact q Q fun xs p hx hp => Post.newB h ⟨p, xs, rfl, upd_same, holdsB hp hx⟩ st1 sta1 pu1 hp
        · rw [mk_ne eb] at h
          obtain ⟨ds, rfl, q⟩ := new_lst ec er (rn eb) (fun a u e => (join_sub sta1.sub has1.at a u e).1)
          exact q Q fun xs p hx hp => Post.newT h (fun Hx e => ⟨xs, e, hx⟩) st1 sta1 has1.dj has1.nB has1.at pu1 hp
      | fresh =>
        rw [kd_fresh ec] at h
        obtain ⟨ns, rfl, q⟩ := fresh_lst ec er (hold_self hh) fun eo ks' ed => by
          subst ed
          have kk : k = .top ∨ k = .bt := Classical.byContradiction fun z => hl ⟨eo, z⟩
          have r := has1.rep
          rcases kk with rfl | rfl
          · rcases r with r | ⟨p, e1, _, kvs, t1, t2⟩
            · simp [scV] at r
            · exact ⟨p, kvs, e1, t1, holdK_mono sta1.sub.ext _ _ t2⟩
          · rcases r with r | ⟨p, e1, _, kvs, t1, t2⟩
            · simp [scV] at r
            · exact ⟨p, kvs, e1, t1, holdK_mono sta1.sub.ext _ _ t2⟩
        exact q Q fun p hp => Post.newS h st1 sta1 pu1 hp
      | kid => cases o <;> simp only [Op1.cl, reduceCtorEq] at ec
      | up =>
        cases o <;> simp only [Op1.cl, reduceCtorEq] at ec
        rename_i cs
        show rIsX C.K cs v H1 Q
        have h : Post C ks pin σ B H F ρ1 .im x (pureE sg a) Q := h
        cases d <;> simp only [Op1.run, reduceCtorEq] at er
        case non =>
          simp only [okB, Res.ok.injEq] at er
          subst er
          simp only [hold] at hh
          exact ⟨false, .inr ⟨hh, rfl⟩, Post.sc h rfl st1 sta1 pu1, fun q xs hq => Post.scU h rfl st1 sta1 pu1 hq⟩
        case exn c =>
          split at er <;> simp only [reduceCtorEq, okB, Res.ok.injEq] at er
          rename_i hc
          subst er
          obtain ⟨p, rfl, e2⟩ := (show ∃ a, v = .ref a ∧ (H1 a = some (ExA (exA C.K c) a)) by simpa only [hold] using hh)
          exact ⟨_, .inl ⟨p, c, rfl, hc, e2, rfl⟩, Post.sc h rfl st1 sta1 pu1, fun q xs hq => Post.scU h rfl st1 sta1 pu1 hq⟩
      | same =>
        cases o <;> simp only [Op1.cl, reduceCtorEq] at ec
        case sc =>
          simp only [Op1.run] at er
          split at er <;> simp only [reduceCtorEq, Res.ok.injEq] at er
          rename_i hs
          subst er
          exact Post.sc h (sc_of hh hs) st1 sta1 pu1
        case opq =>
          simp only [Op1.run, Res.ok.injEq] at er
          subst er
          exact h v B1 H1 F1 [] (st1.less fun a z => z.elim .inl fun m => by cases m) sta1 ⟨⟨trivial, rfl⟩, nomem, nomem⟩ pu1
        case scl =>
          cases d <;> simp only [Op1.run, reduceCtorEq] at er
          rename_i ds
          split at er <;> simp only [reduceCtorEq, Res.ok.injEq] at er
          rename_i hs
          subst er
          by_cases ho : ownK k = true
          · have ek : Op1.kd .scl k = .deep := by simp only [Op1.kd, if_pos ho]
            rw [ek] at h
            cases k <;> simp only [ownK, Bool.false_eq_true] at ho
            · rcases has1.rep with r | ⟨p, e1, e2, xs, t1, t2⟩
              · simp [scV] at r
              · refine h v B1 H1 F1 f1 st1 sta1 ⟨⟨p, xs, [], e1, e2, t1, by simp, owns_sc (fun d m => List.all_eq_true.mp hs d m) C.K B1 t2⟩, has1.dj, has1.nB⟩ pu1
            · exact h v B1 H1 F1 f1 st1 sta1 has1 pu1
          · have ek : Op1.kd .scl k = k := by simp only [Op1.kd]; rw [if_neg ho]
            rw [ek] at h
            exact h v B1 H1 F1 f1 st1 sta1 has1 pu1
/-! ### two and three operands -/
theorem has_two {B H : Hp} {F : Nat → List Addr} {k l : Kind} {ds : List D} {vs : List V} {f : List Addr} (h : HasL C B H F [k, l] ds vs f) :
    ∃ d e v u f1 f2, ds = [d, e] ∧ vs = [v, u] ∧ f = f1 ++ f2 ∧ Has C B H F k d v f1 ∧ Has C B H F l e u f2 := by
  obtain ⟨d, r, v, s, f1, f2, rfl, rfl, rfl, h1, ⟨e, r2, u, s2, g1, g2, rfl, rfl, rfl, h2, ⟨rfl, rfl, rfl⟩, _⟩, _⟩ := h
  exact ⟨d, e, v, u, f1, g1, rfl, rfl, by simp, h1, h2⟩
theorem has_three {B H : Hp} {F : Nat → List Addr} {k l m : Kind} {ds : List D} {vs : List V} {f : List Addr} (h : HasL C B H F [k, l, m] ds vs f) :
    ∃ d e g v u w f1 f2 f3, ds = [d, e, g] ∧ vs = [v, u, w] ∧ f = f1 ++ (f2 ++ f3) ∧ Has C B H F k d v f1 ∧ Has C B H F l e u f2 ∧ Has C B H F m g w f3 := by
  obtain ⟨d, r, v, s, f1, f2, rfl, rfl, rfl, h1, h23, _⟩ := h
  obtain ⟨e, g, u, w, g1, g2, rfl, rfl, rfl, h2, h3⟩ := has_two h23
  exact ⟨d, e, g, v, u, w, f1, g1, g2, rfl, rfl, rfl, h1, h2, h3⟩
theorem kEs_two {nb : Bool} {ks : Nat → Kind} {a b : IE} {k l : Kind} (h1 : kE sg nb ks a = some k) (h2 : kE sg nb ks b = some l) (p : (k.borrowed && !pureE sg b) = false) : kEs sg nb ks (.cons a (.cons b .nil)) = some [k, l] := by
  simp only [kEs, h1, h2, pureEs, Bool.and_true, p, Bool.not_true, Bool.and_false, Bool.false_eq_true, if_false]
theorem kEs_three {nb : Bool} {ks : Nat → Kind} {a b c : IE} {k l m : Kind} (h1 : kE sg nb ks a = some k) (h2 : kE sg nb ks b = some l) (h3 : kE sg nb ks c = some m) (p : (k.borrowed && !(pureE sg b && pureE sg c)) = false) (q : (l.borrowed && !pureE sg c) = false) :
    kEs sg nb ks (.cons a (.cons b (.cons c .nil))) = some [k, l, m] := by
  have e2 := kEs_two h2 h3 q
  rw [kEs, h1, e2]
  simp only [pureEs, Bool.and_true, p, Bool.false_eq_true, if_false]
theorem evEs_two {Φ : Nat → FnSem} {a b : IE} {ρ : Env} : evEs Φ (.cons a (.cons b .nil)) ρ = (match evE Φ a ρ with
    | .ok (d, ρ1) => match evE Φ b ρ1 with
      | .ok (e, ρ2) => .ok ([d, e], ρ2)
      | .exc c => .exc c | .bad => .bad
    | .exc c => .exc c | .bad => .bad) := by
  simp only [evEs]
  cases evE Φ a ρ with
  | ok p => obtain ⟨d, ρ1⟩ := p; simp only; cases evE Φ b ρ1 <;> rfl
  | exc c => rfl
  | bad => rfl
theorem evEs_three {Φ : Nat → FnSem} {a b c : IE} {ρ : Env} : evEs Φ (.cons a (.cons b (.cons c .nil))) ρ = (match evE Φ a ρ with
    | .ok (d, ρ1) => match evE Φ b ρ1 with
      | .ok (e, ρ2) => match evE Φ c ρ2 with
        | .ok (f, ρ3) => .ok ([d, e, f], ρ3)
        | .exc c => .exc c | .bad => .bad
      | .exc c => .exc c | .bad => .bad
    | .exc c => .exc c | .bad => .bad) := by
  rw [evEs]
  cases evE Φ a ρ with
  | ok p =>
    obtain ⟨d, ρ1⟩ := p
    simp only [evEs_two]
    cases evE Φ b ρ1 with
    | ok p => obtain ⟨e, ρ2⟩ := p; simp only; cases evE Φ c ρ2 <;> rfl
    | exc c => rfl
    | bad => rfl
  | exc c => rfl
  | bad => rfl
theorem rd_two {a b : IE} {W : WX} {σ : L2.St} {H : Hp} {R : V → V → Hp → Prop} (h : rdEs C (.cons a (.cons b .nil)) W σ H fun vs H2 => R (v0 vs) (v1 vs) H2) : rdE C a W σ H fun x H1 => rdE C b W σ H1 fun y H2 => R x y H2 := h
theorem rd_three {a b c : IE} {W : WX} {σ : L2.St} {H : Hp} {R : V → V → V → Hp → Prop} (h : rdEs C (.cons a (.cons b (.cons c .nil))) W σ H fun vs H2 => R (v0 vs) (v1 vs) (v2 vs) H2) :
    rdE C a W σ H fun x H1 => rdE C b W σ H1 fun y H2 => rdE C c W σ H2 fun z H3 => R x y z H3 := h
theorem run2_exc {o : Op2} {d e : D} {c : Nat} : o.run d e ≠ .exc c := by
  intro h
  unfold Op2.run at h
  split at h <;> (try simp only [okI, okB, reduceCtorEq] at h) <;> (try (split at h <;> (try simp only [okI, okB, reduceCtorEq] at h))) <;> (try (split at h <;> (try simp only [okI, okB, reduceCtorEq] at h)))
end
end TW

namespace TW
open PySem L2
section
variable {C : Ctx} {sg : Nat → Sig}
/-- read in a wider base -/
theorem Has.readW {B H : Hp} {F : Nat → List Addr} {k : Kind} {d : D} {v : V} {f g : List Addr} (h : Has C B H F k d v f) (sub : Sub B H) (hg : ∀ a ∈ f, a ∈ g) (nB : ∀ a ∈ g, B a = none) (at_ : ∀ a ∈ g, ∃ o, H a = some o ∧ Lay o) (n : k ≠ .bo) : hold1 C.K (join B H g) H d v := by
  have js := join_sub (f := g) sub at_
  have r := h.rep
  have ex : Ext B (join B H g) := .of fun a o e _ => join_ext nB a o e
  cases k <;> simp only [vrep] at r
  · exact sc_1 r.1
  · exact hold_1 js (hold_mono ex _ _ r.1)
  · rcases r with r | ⟨p, rfl, _, t⟩
    · exact sc_1 r.1
    · exact topAt_1 (topAt_keep t ex fun _ e _ => e)
  · exact hold_1 js (own_hold d v f r fun a m o e _ => by rw [join_in (hg a m)]; exact e)
  · rcases r with r | ⟨p, rfl, _, t⟩
    · exact sc_1 r.1
    · exact topAt_1 (topAt_keep t ex fun _ e _ => e)
  · exact absurd rfl n
/-- wholly in a wider base -/
theorem Has.openW {B H : Hp} {F : Nat → List Addr} {k : Kind} {d : D} {v : V} {f g : List Addr} (h : Has C B H F k d v f) (hg : ∀ a ∈ f, a ∈ g) (nB : ∀ a ∈ g, B a = none) (l : k.le .sh = true) : hold C.K (join B H g) d v :=
  hold_mono (.of fun a o e _ => by
    by_cases m : a ∈ f
    · rw [join_in m] at e; rw [join_in (hg a m)]; exact e
    · rw [join_out m] at e; exact join_ext nB a o e) _ _ (h.open_ l)
theorem HasL.all {B H : Hp} {F : Nat → List Addr} : ∀ {l : List Kind} {ds : List D} {vs : List V} {f : List Addr}, HasL C B H F l ds vs f → (∀ a ∈ f, ¬ FP F a) ∧ (∀ a ∈ f, B a = none) ∧ (∀ a ∈ f, ∃ o, H a = some o ∧ Lay o) ∧ ds.length = l.length ∧ vs.length = l.length
  | [], _, _, _, h => by obtain ⟨rfl, rfl, rfl⟩ := h; exact ⟨nomem, nomem, nomem, rfl, rfl⟩
  | k :: l, _, _, _, h => by
    obtain ⟨d, r, v, s, f1, f2, rfl, rfl, rfl, h1, h2, _⟩ := h
    obtain ⟨a1, a2, a3, a4, a5⟩ := HasL.all h2
    have sp : ∀ {p : Addr → Prop}, (∀ a ∈ f1, p a) → (∀ a ∈ f2, p a) → ∀ a ∈ f1 ++ f2, p a := fun x y a m => (List.mem_append.mp m).elim (x a) (y a)
    exact ⟨sp h1.dj a1, sp h1.nB a2, sp h1.at a3, by simp [a4], by simp [a5]⟩
theorem join_cases {k : Kind} {l : List Kind} : (joinL (k :: l) = .deep → (k = .im ∨ k = .deep) ∧ joinL l = .deep) ∧ (joinL (k :: l) = .top → k.le .sh = true ∧ (joinL l = .deep ∨ joinL l = .top)) := by
  have hj : joinL l = .deep ∨ joinL l = .top ∨ joinL l = .bo := by
    induction l with
    | nil => exact .inl rfl
    | cons a l ih => cases a <;> simp only [joinL] <;> (rcases ih with e | e | e <;> simp [e])
  cases k <;> rcases hj with e | e | e <;> simp [joinL, e, Kind.le]
theorem join_three {l : List Kind} : joinL l = .deep ∨ joinL l = .top ∨ joinL l = .bo := by
  induction l with
  | nil => exact .inl rfl
  | cons a l ih => cases a <;> simp only [joinL] <;> (rcases ih with e | e | e <;> simp [e])
theorem HasL.owns {B H : Hp} {F : Nat → List Addr} : ∀ {l : List Kind} {ds : List D} {vs : List V} {f : List Addr}, HasL C B H F l ds vs f → joinL l = .deep → owns H ds vs f
  | [], _, _, _, h, _ => by obtain ⟨rfl, rfl, rfl⟩ := h; exact ⟨rfl, rfl⟩
  | k :: l, _, _, _, h, j => by
    obtain ⟨d, r, v, s, f1, f2, rfl, rfl, rfl, h1, h2, dj⟩ := h
    obtain ⟨kk, jl⟩ := join_cases.1 j
    refine ⟨v, s, f1, f2, rfl, rfl, ?_, HasL.owns h2 jl, dj⟩
    have r1 := h1.rep
    rcases kk with rfl | rfl
    · obtain ⟨r1, rfl⟩ := r1; exact own_sc r1
    · exact r1
theorem HasL.opens {B H : Hp} {F : Nat → List Addr} {g : List Addr} (nB : ∀ a ∈ g, B a = none) : ∀ {l : List Kind} {ds : List D} {vs : List V} {f : List Addr}, HasL C B H F l ds vs f → (∀ a ∈ f, a ∈ g) → (joinL l = .deep ∨ joinL l = .top) → holds C.K (join B H g) ds vs
  | [], _, _, _, h, _, _ => by obtain ⟨rfl, rfl, rfl⟩ := h; rfl
  | k :: l, _, _, _, h, hg, j => by
    obtain ⟨d, r, v, s, f1, f2, rfl, rfl, rfl, h1, h2, _⟩ := h
    have key : k.le .sh = true ∧ (joinL l = .deep ∨ joinL l = .top) := by
      rcases j with j | j
      · obtain ⟨kk, jl⟩ := join_cases.1 j
        rcases kk with rfl | rfl <;> exact ⟨rfl, .inl jl⟩
      · exact join_cases.2 j
    exact ⟨v, s, rfl, h1.openW (fun a m => hg a (List.mem_append_left _ m)) nB key.1, HasL.opens nB h2 (fun a m => hg a (List.mem_append_right _ m)) key.2⟩
theorem HasL.hold {B H : Hp} {F : Nat → List Addr} (sub : Sub B H) : ∀ {l : List Kind} {ds : List D} {vs : List V} {f : List Addr}, HasL C B H F l ds vs f → holds C.K H ds vs
  | [], _, _, _, h => by obtain ⟨rfl, rfl, rfl⟩ := h; rfl
  | k :: l, _, _, _, h => by
    obtain ⟨d, r, v, s, f1, f2, rfl, rfl, rfl, h1, h2, _⟩ := h
    exact ⟨v, s, rfl, vrep_hold sub h1.rep, HasL.hold sub h2⟩
theorem sz1000 {n : Nat} (h : n ≤ 1000) : n ≤ sizeLine := Nat.le_trans h (by decide)
theorem snd_lst {es : IEs} (hes : SndEs C sg es) : SndE C sg (.lst es) := by
  intro nb ks hnb pin W B H σ ρ F k' Q hk sta h
  simp only [kE] at hk
  split at hk <;> try (simp only [reduceCtorEq] at hk)
  rename_i l hk1
  split at hk <;> simp only [reduceCtorEq, Option.some.injEq] at hk
  rename_i hl
  subst hk
  refine hes nb ks hnb pin W B H σ ρ F l _ hk1 sta ?_
  simp only [evE, pureE] at h
  cases ev : evEs C.Φ es ρ with
  | bad => rw [ev] at h; exact h
  | exc c => rw [ev] at h; exact h
  | ok p =>
    obtain ⟨ds, ρ1⟩ := p
    rw [ev] at h
    intro vs B1 H1 F1 f st1 sta1 has1 pu1
    obtain ⟨a1, a2, a3, a4, a5⟩ := has1.all
    refine ⟨by rw [a5]; exact sz1000 hl, fun p hp => ?_⟩
    have h : Post C ks pin σ B H F ρ1 (joinL l) (.lst ds) (pureEs sg es) Q := h
    rcases join_three (l := l) with e | e | e <;> rw [e] at h
    · exact Post.newO h (fun Hx e1 e2 pf => ⟨p, vs, f, rfl, rfl, e1, pf, owns_keep _ _ _ (has1.owns e) fun a m o e3 _ => e2 a m o e3⟩) st1 sta1 a1 a2 a3 pu1 hp
    · exact Post.newT h (fun Hx e1 => ⟨vs, e1, has1.opens a2 (fun _ m => m) (.inr e)⟩) st1 sta1 a1 a2 a3 pu1 hp
    · exact Post.newB h ⟨p, vs, rfl, upd_same, holds_mono (.of fun a o e _ => upd_up hp a o e) _ _ (has1.hold sta1.sub)⟩ st1 sta1 pu1 hp
theorem snd_tup {es : IEs} (hes : SndEs C sg es) : SndE C sg (.tup es) := by
  intro nb ks hnb pin W B H σ ρ F k' Q hk sta h
  simp only [kE] at hk
  split at hk <;> try (simp only [reduceCtorEq] at hk)
  rename_i l hk1
  split at hk <;> simp only [reduceCtorEq, Option.some.injEq] at hk
  rename_i hl
  subst hk
  refine hes nb ks hnb pin W B H σ ρ F l _ hk1 sta ?_
  simp only [evE, pureE] at h
  cases ev : evEs C.Φ es ρ with
  | bad => rw [ev] at h; exact h
  | exc c => rw [ev] at h; exact h
  | ok p =>
    obtain ⟨ds, ρ1⟩ := p
    rw [ev] at h
    intro vs B1 H1 F1 f st1 sta1 has1 pu1
    obtain ⟨a1, a2, a3, a4, a5⟩ := has1.all
    refine ⟨by rw [a5]; exact sz1000 hl, fun p hp => ?_⟩
    have h : Post C ks pin σ B H F ρ1 (joinT l) (.tup ds) (pureEs sg es) Q := h
    rcases join_three (l := l) with e | e | e
    · have ej : joinT l = .deep := by simp [joinT, e]
      rw [ej] at h
      exact Post.newO h (fun Hx e1 e2 pf => ⟨p, vs, f, rfl, rfl, e1, pf, owns_keep _ _ _ (has1.owns e) fun a m o e3 _ => e2 a m o e3⟩) st1 sta1 a1 a2 a3 pu1 hp
    · have ej : joinT l = .sh := by simp [joinT, e]
      rw [ej] at h
      exact Post.newT (Post.le h (k := .top) rfl) (fun Hx e1 => ⟨vs, e1, has1.opens a2 (fun _ m => m) (.inr e)⟩) st1 sta1 a1 a2 a3 pu1 hp
    · have ej : joinT l = .bo := by simp [joinT, e]
      rw [ej] at h
      exact Post.newB h ⟨p, vs, rfl, upd_same, holds_mono (.of fun a o e _ => upd_up hp a o e) _ _ (has1.hold sta1.sub)⟩ st1 sta1 pu1 hp
/-- an item of what is one's own -/
theorem owns_get {H : Hp} : ∀ {ds : List D} {xs : List V} {f : List Addr} {i : Nat} {d : D}, owns H ds xs f → ds[i]? = some d → ∃ x g, xs[i]? = some x ∧ own H d x g ∧ ∀ a ∈ g, a ∈ f
  | [], _, _, _, _, _, e => by simp at e
  | d :: ds, _, _, 0, d', h, e => by
    obtain ⟨x, r, g1, g2, rfl, rfl, h1, h2, _⟩ := h
    simp at e; subst e
    exact ⟨x, g1, rfl, h1, fun a m => List.mem_append_left _ m⟩
  | d :: ds, _, _, i + 1, d', h, e => by
    obtain ⟨x, r, g1, g2, rfl, rfl, h1, h2, _⟩ := h
    obtain ⟨y, g, e1, e2, e3⟩ := owns_get (i := i) h2 (by simpa using e)
    exact ⟨y, g, by simpa using e1, e2, fun a m => List.mem_append_right _ (e3 a m)⟩
theorem kd2_sc {o : Op2} {k l : Kind} (h : o.cl = .sc) : o.kd k l = .im := by cases o <;> simp only [Op2.cl, reduceCtorEq] at h <;> cases k <;> rfl
theorem snd_op2 {o : Op2} {a b : IE} (ha : SndE C sg a) (hb : SndE C sg b) : SndE C sg (.op2 o a b) := by
  intro nb ks hnb pin W B H σ ρ F k' Q hk sta h
  simp only [kE] at hk
  split at hk <;> try (simp only [reduceCtorEq] at hk)
  rename_i k l hk1 hk2
  split at hk <;> simp only [reduceCtorEq, Option.some.injEq] at hk
  rename_i hp
  subst hk
  have hp1 : (k.borrowed && !pureE sg b) = false := by
    cases q : (k.borrowed && !pureE sg b) with
    | false => rfl
    | true => rw [q] at hp; simp at hp
  refine rd_two (snd_cons ha (snd_cons hb snd_nil) nb ks hnb pin W B H σ ρ F [k, l] _ (kEs_two hk1 hk2 hp1) sta ?_)
  rw [evEs_two]
  simp only [evE] at h
  cases ev : evE C.Φ a ρ with
  | bad => rw [ev] at h; exact h
  | exc c => rw [ev] at h; exact h
  | ok p =>
    obtain ⟨d, ρ1⟩ := p
    rw [ev] at h
    simp only at h ⊢
    cases ev2 : evE C.Φ b ρ1 with
    | bad => rw [ev2] at h; exact h
    | exc c => rw [ev2] at h; exact h
    | ok p =>
      obtain ⟨e, ρ2⟩ := p
      rw [ev2] at h
      simp only at h ⊢
      intro vs B1 H1 F1 f st1 sta1 has1 pu1
      obtain ⟨a1, a2, a3, -, -⟩ := has1.all
      obtain ⟨d', e', v, u, f1, f2, ed, rfl, rfl, h1, h2⟩ := has_two has1
      cases ed
      show r2 C.K o v u H1 Q
      have pu1' : pureE sg (.op2 o a b) = true → Up H H1 ∧ F1 = F := fun z => pu1 (by
        simp only [pureE, Bool.and_eq_true] at z
        simp only [pureEs, z.1, z.2, Bool.and_true])
      cases er : o.run d e with
      | bad => rw [er] at h; exact h.elim
      | exc c => exact absurd er run2_exc
      | ok x =>
        rw [er] at h
        have h : Post C ks pin σ B H F ρ2 (o.kd k l) x (pureE sg (.op2 o a b)) Q := h
        have g1 := vrep_hold sta1.sub h1.rep
        have g2 := vrep_hold sta1.sub h2.rep
        have m1 : ∀ a ∈ f1, a ∈ f1 ++ f2 := fun a m => List.mem_append_left _ m
        have m2 : ∀ a ∈ f2, a ∈ f1 ++ f2 := fun a m => List.mem_append_right _ m
        cases ec : o.cl with
        | up => cases o <;> simp only [Op2.cl, reduceCtorEq] at ec
        | sc =>
          rw [kd2_sc ec] at h
          obtain ⟨w, hw, q⟩ := op2_sc ec er g1 g2
          exact q Q (Post.sc h hw st1 sta1 pu1')
        | new =>
          have key : (o.kd k l = .bo) ∨ (o.kd k l = .top ∧ k ≠ .bo ∧ (l ≠ .bo ∨ ∃ i, e = .int i)) := by
            cases o <;> simp only [Op2.cl, reduceCtorEq] at ec
            · by_cases z : k = .bo ∨ l = .bo
              · exact .inl (by simp only [Op2.kd, if_pos z])
              · exact .inr ⟨by simp only [Op2.kd, if_neg z], fun q => z (.inl q), .inl fun q => z (.inr q)⟩
            all_goals
              have ei : ∃ i, e = .int i := by
                cases d <;> cases e <;> simp only [Op2.run, reduceCtorEq] at er <;> exact ⟨_, rfl⟩
              cases k <;> simp only [Op2.kd, Kind.mk, reduceCtorEq, false_or, or_false, true_and, ne_eq, not_false_eq_true, not_true_eq_false, and_true, true_or] <;> exact .inr ei
          rcases key with e1 | ⟨e1, e2, e3⟩
          · rw [e1] at h
            obtain ⟨ds, xs, rfl, hx, q⟩ := op2_new ec er (hold_1 vis_sub (vis_hold g1)) (hold_1 vis_sub (vis_hold g2))
            exact q Q fun p hp => Post.newB h ⟨p, xs, rfl, upd_same, holdsB hp hx⟩ st1 sta1 pu1' hp
          · rw [e1] at h
            have r1 := h1.readW sta1.sub m1 a2 a3 e2
            have r2 : hold1 C.K (join B1 H1 (f1 ++ f2)) H1 e u := by
              rcases e3 with e3 | ⟨i, rfl⟩
              · exact h2.readW sta1.sub m2 a2 a3 e3
              · simp only [hold] at g2; subst g2; rfl
            obtain ⟨ds, xs, rfl, hx, q⟩ := op2_new ec er r1 r2
            exact q Q fun p hp => Post.newT h (fun Hx e => ⟨xs, e, hx⟩) st1 sta1 a1 a2 a3 pu1' hp
        | fresh => cases o <;> simp only [Op2.cl, reduceCtorEq] at ec
        | same => cases o <;> simp only [Op2.cl, reduceCtorEq] at ec
        | kid =>
          have rest : ¬ ((o = .subL ∨ o = .subT) ∧ k = .deep) → o.kd k l = k.kid := by
            cases o <;> simp only [Op2.cl, reduceCtorEq] at ec <;> cases k <;> simp [Op2.kd]
          by_cases ed : (o = .subL ∨ o = .subT) ∧ k = .deep
          · obtain ⟨ed | ed, rfl⟩ := ed
            case inr =>
              subst ed
              have h : Post C ks pin σ B H F ρ2 .deep x _ Q := h
              have r1 := h1.rep
              cases d <;> cases e <;> simp only [Op2.run, reduceCtorEq] at er
              case tup.int ds i =>
                obtain ⟨p, xs, g, rfl, rfl, t1, t2, t3⟩ := r1
                split at er <;> simp only [reduceCtorEq, Res.ok.injEq] at er
                rename_i y ey
                subst er
                simp only [hold] at g2; subst g2
                have ey' := ey
                unfold nth at ey'
                rw [Option.bind_eq_some_iff] at ey'
                obtain ⟨j, j1, j2⟩ := ey'
                obtain ⟨w, g', w1, w2, w3⟩ := owns_get t3 j2
                refine ⟨p, xs, i, w, rfl, rfl, .of t1, ?_, h w B1 H1 F1 g' (st1.less fun a z => z.imp id fun m => m1 a (List.mem_cons_of_mem _ (w3 a m))) sta1 ⟨w2, fun a m => h1.dj a (List.mem_cons_of_mem _ (w3 a m)), fun a m => h1.nB a (List.mem_cons_of_mem _ (w3 a m))⟩ pu1'⟩
                unfold atI
                rw [Option.bind_eq_some_iff]
                exact ⟨j, by rw [← owns_length t3]; exact j1, w1⟩
            subst ed
            have h : Post C ks pin σ B H F ρ2 .deep x _ Q := h
            have r1 := h1.rep
            cases d <;> cases e <;> simp only [Op2.run, reduceCtorEq] at er
            case lst.int ds i =>
              obtain ⟨p, xs, g, rfl, rfl, t1, t2, t3⟩ := r1
              split at er <;> simp only [reduceCtorEq, Res.ok.injEq] at er
              rename_i y ey
              subst er
              simp only [hold] at g2; subst g2
              have ey' := ey
              unfold nth at ey'
              rw [Option.bind_eq_some_iff] at ey'
              obtain ⟨j, j1, j2⟩ := ey'
              obtain ⟨w, g', w1, w2, w3⟩ := owns_get t3 j2
              refine ⟨p, xs, i, w, rfl, rfl, .of t1, ?_, h w B1 H1 F1 g' (st1.less fun a z => z.imp id fun m => m1 a (List.mem_cons_of_mem _ (w3 a m))) sta1 ⟨w2, fun a m => h1.dj a (List.mem_cons_of_mem _ (w3 a m)), fun a m => h1.nB a (List.mem_cons_of_mem _ (w3 a m))⟩ pu1'⟩
              unfold atI
              rw [Option.bind_eq_some_iff]
              exact ⟨j, by rw [← owns_length t3]; exact j1, w1⟩
            case scr.int ns i => exact r1.elim
          · rw [rest ed] at h
            by_cases eb : k = .bo
            · subst eb
              obtain ⟨w, hw, q⟩ := op2_kid ec er (hold_1 vis_sub (vis_hold g1)) (hold_1 vis_sub (vis_hold g2))
              exact q Q (h w B1 H1 F1 [] (st1.less fun a z => z.elim .inl fun m => by cases m) sta1 ⟨⟨hold_mono vis_sub.ext _ _ hw, rfl⟩, nomem, nomem⟩ pu1')
            · have ek : k.kid = .sh := by cases k <;> simp_all [Kind.kid]
              rw [ek] at h
              have r1 := h1.readW sta1.sub m1 a2 a3 eb
              have r2 : hold1 C.K (join B1 H1 (f1 ++ f2)) H1 e u := by
                by_cases el : l = .bo
                · subst el
                  -- a key that is borrowed: an int, or a tuple of ints
                  have : hold C.K H1 e u := g2
                  cases o <;> simp only [Op2.cl, reduceCtorEq] at ec
                  case subP =>
                    cases d <;> cases e <;> simp only [Op2.run, reduceCtorEq] at er
                    rename_i ks' ts
                    match ts, er, g2 with
                    | [.int i, .int j], er, g2 =>
                      simp only [hold, holds] at g2
                      obtain ⟨b, xs, rfl, e0, x, r, rfl, rfl, y, r', rfl, rfl, rfl⟩ := g2
                      exact ⟨b, _, rfl, e0, _, _, rfl, rfl, _, _, rfl, rfl, rfl⟩
                  all_goals
                    cases d <;> cases e <;> simp only [Op2.run, reduceCtorEq] at er
                    all_goals (simp only [hold] at this; subst this; rfl)
                · exact h2.readW sta1.sub m2 a2 a3 el
              obtain ⟨w, hw, q⟩ := op2_kid ec er r1 r2
              exact q Q (h w (join B1 H1 (f1 ++ f2)) H1 F1 [] ((st1.join a2 fun _ m => m).less fun a z => z.elim id fun m => by cases m) (sta1.absorb a3 a1 a2) ⟨⟨hw, rfl⟩, nomem, nomem⟩ pu1')
end
end TW

namespace TW
open PySem L2
section
variable {C : Ctx} {sg : Nat → Sig}
/-- what is wanted, from further on -/
theorem Post.shift {ks : Nat → Kind} {pin : Nat → Option V} {B H B1 H1 : Hp} {σ : L2.St} {ρ' : Env} {F F1 : Nat → List Addr} {k : Kind} {d : D} {pu pb : Bool} {Q : VK} {f : List Addr} (h : Post C ks pin σ B H F ρ' k d pu Q)
    (st1 : Step B H (FP F) B1 H1 (fun a => FP F1 a ∨ a ∈ f)) (hp : pu = true → pb = true ∧ Up H H1 ∧ F1 = F) : Post C ks pin σ B1 H1 F1 ρ' k d pb Q := fun v B2 H2 F2 g st2 sta2 has2 p2 =>
  h v B2 H2 F2 g (Step.row (f := []) (st1.less fun a (z : FP F1 a ∨ a ∈ []) => z.elim Or.inl fun m => absurd m (by simp)) st2) sta2 has2 fun z => by
    obtain ⟨e1, e2, e3⟩ := hp z
    obtain ⟨u1, u2⟩ := p2 e1
    exact ⟨e2.trans u1, u2.trans e3⟩
theorem Fin.shift {ks : Nat → Kind} {pin : Nat → Option V} {B H B1 H1 : Hp} {σ : L2.St} {F F1 : Nat → List Addr} {W : WX} {k : Kind} {pu pb : Bool} {Q : VK} {f : List Addr} {r : Res (D × Env)} (h : Fin C ks pin σ B H F W k pu r Q)
    (st1 : Step B H (FP F) B1 H1 (fun a => FP F1 a ∨ a ∈ f)) (hp : pu = true → pb = true ∧ Up H H1 ∧ F1 = F) : Fin C ks pin σ B1 H1 F1 W k pb r Q := by
  cases r with
  | bad => exact h
  | exc c => exact fun H' x t => h H' (x.of st1) t
  | ok p => exact Post.shift h st1 hp
theorem Fin.le {ks : Nat → Kind} {pin : Nat → Option V} {B H : Hp} {σ : L2.St} {F : Nat → List Addr} {W : WX} {k k' : Kind} {pu : Bool} {Q : VK} {r : Res (D × Env)} (h : Fin C ks pin σ B H F W k' pu r Q) (l : k.le k' = true) : Fin C ks pin σ B H F W k pu r Q := by
  cases r with
  | bad => exact h
  | exc c => exact h
  | ok p => exact Post.le h l
theorem snd_mth {o : Op2} {a b : IE} (ha : SndE C sg a) (hb : SndE C sg b) : SndE C sg (.mth o a b) := by
  intro nb ks hnb pin W B H σ ρ F k' Q hk sta h
  simp only [kE] at hk
  split at hk <;> try (simp only [reduceCtorEq] at hk)
  rename_i k l hk1 hk2
  split at hk <;> simp only [reduceCtorEq, Option.some.injEq] at hk
  rename_i hp
  subst hk
  rw [Bool.or_eq_true, not_or] at hp
  refine ha nb ks hnb pin W B H σ ρ F k _ hk1 sta ?_
  simp only [evE] at h
  cases ev : evE C.Φ a ρ with
  | bad => rw [ev] at h; exact h
  | exc c => rw [ev] at h; exact h
  | ok p =>
    obtain ⟨d, ρ1⟩ := p
    rw [ev] at h
    show Post C ks pin σ B H F ρ1 k d (pureE sg a) _
    intro v B1 H1 F1 f1 st1 sta1 has1 pu1
    cases d with
    | lst ds =>
      simp only at h
      have g1 := vrep_hold sta1.sub has1.rep
      have g1' := g1
      simp only [hold] at g1'
      obtain ⟨p, xs, rfl, t1, t2⟩ := g1'
      refine ⟨.inl ⟨rfl, xs, .of t1⟩, ?_⟩
      refine hb nb ks hnb pin W B1 H1 σ ρ1 F1 l _ hk2 sta1 ?_
      cases ev2 : evE C.Φ b ρ1 with
      | bad => rw [ev2] at h; exact h
      | exc c => rw [ev2] at h; exact fun H' x t => h H' (x.of st1) t
      | ok q =>
        obtain ⟨e, ρ2⟩ := q
        rw [ev2] at h
        simp only at h
        show Post C ks pin σ B1 H1 F1 ρ2 l e (pureE sg b) _
        intro u B2 H2 F2 f2 st2 sta2 has2 pu2
        have bp : k.borrowed = true → Up H1 H2 := fun z => (pu2 (by
          cases q : pureE sg b with
          | true => rfl
          | false => rw [z, q] at hp; simp at hp)).1
        obtain ⟨has1', _⟩ := has1.step st2 bp
        cases er : o.run (.lst ds) e with
        | bad => rw [er] at h; exact h.elim
        | exc c => exact absurd er run2_exc
        | ok x =>
          rw [er] at h
          have oc : o.cl = .sc := by
            have := hp.2
            cases o <;> simp_all [Op2.cl]
          obtain ⟨w, hw, q⟩ := op2_sc oc er (vrep_hold sta2.sub has1'.rep) (vrep_hold sta2.sub has2.rep)
          refine q Q (Post.sc h hw (st1.row st2) sta2 fun z => ?_)
          simp only [pureE, Bool.and_eq_true] at z
          obtain ⟨u1, e1⟩ := pu1 z.1
          obtain ⟨u2, e2⟩ := pu2 z.2
          exact ⟨u1.trans u2, e2.trans e1⟩
    | _ => exact h.elim
theorem slc3_exc {a b c : D} {n : Nat} : slc3 a b c ≠ .exc n := by
  intro h
  unfold slc3 at h
  split at h <;> simp only [reduceCtorEq] at h
theorem snd_slc {a b c : IE} (ha : SndE C sg a) (hb : SndE C sg b) (hc : SndE C sg c) : SndE C sg (.slc a b c) := by
  intro nb ks hnb pin W B H σ ρ F k' Q hk sta h
  simp only [kE] at hk
  split at hk <;> try (simp only [reduceCtorEq] at hk)
  rename_i k l m hk1 hk2 hk3
  split at hk <;> simp only [reduceCtorEq, Option.some.injEq] at hk
  rename_i hp
  subst hk
  rw [Bool.or_eq_true, not_or] at hp
  refine ha nb ks hnb pin W B H σ ρ F k _ hk1 sta ?_
  simp only [evE] at h
  cases ev : evE C.Φ a ρ with
  | bad => rw [ev] at h; exact h
  | exc c => rw [ev] at h; exact h
  | ok p =>
    obtain ⟨d, ρ1⟩ := p
    rw [ev] at h
    show Post C ks pin σ B H F ρ1 k d (pureE sg a) _
    intro v B1 H1 F1 f1 st1 sta1 has1 pu1
    simp only at h
    refine hb nb ks hnb pin W B1 H1 σ ρ1 F1 l _ hk2 sta1 ?_
    cases ev2 : evE C.Φ b ρ1 with
    | bad => rw [ev2] at h; exact h
    | exc c => rw [ev2] at h; exact fun H' x t => h H' (x.of st1) t
    | ok q =>
      obtain ⟨e, ρ2⟩ := q
      rw [ev2] at h
      show Post C ks pin σ B1 H1 F1 ρ2 l e (pureE sg b) _
      intro u B2 H2 F2 f2 st2 sta2 has2 pu2
      cases e with
      | int i =>
        simp only at h
        have gu := vrep_hold sta2.sub has2.rep
        simp only [hold] at gu
        subst gu
        refine ⟨i, rfl, ?_⟩
        refine hc nb ks hnb pin W B2 H2 σ ρ2 F2 m _ hk3 sta2 ?_
        cases ev3 : evE C.Φ c ρ2 with
        | bad => rw [ev3] at h; exact h
        | exc c => rw [ev3] at h; exact fun H' x t => h H' ((x.of st2).of st1) t
        | ok q =>
          obtain ⟨e, ρ3⟩ := q
          rw [ev3] at h
          show Post C ks pin σ B2 H2 F2 ρ3 m e (pureE sg c) _
          intro w B3 H3 F3 f3 st3 sta3 has3 pu3
          cases e with
          | int j =>
            simp only at h
            have gw := vrep_hold sta3.sub has3.rep
            simp only [hold] at gw
            subst gw
            refine ⟨j, rfl, ?_⟩
            have pp : k.borrowed = true → pureE sg b = true ∧ pureE sg c = true := fun z => by
              cases q : pureE sg b <;> cases q' : pureE sg c <;> rw [z, q, q'] at hp <;> simp at hp <;> exact ⟨rfl, rfl⟩
            obtain ⟨hA, _⟩ := has1.step (st2.row st3) fun z => (pu2 (pp z).1).1.trans (pu3 (pp z).2).1
            have st := st1.row (st2.row st3)
            have pu : pureE sg (.slc a b c) = true → Up H H3 ∧ F3 = F := fun z => by
              simp only [pureE, Bool.and_eq_true] at z
              obtain ⟨u1, e1⟩ := pu1 z.1.1
              obtain ⟨u2, e2⟩ := pu2 z.1.2
              obtain ⟨u3, e3⟩ := pu3 z.2
              exact ⟨(u1.trans u2).trans u3, (e3.trans e2).trans e1⟩
            cases er : slc3 d (.int i) (.int j) with
            | bad => rw [er] at h; exact h.elim
            | exc c => exact absurd er slc3_exc
            | ok x =>
              rw [er] at h
              have h : Post C ks pin σ B H F ρ3 k.mk x (pureE sg (.slc a b c)) Q := h
              have stA : Step B H (FP F) B3 H3 (fun a => FP F3 a ∨ a ∈ f1) := st.less fun a z => z.imp id fun m => List.mem_append_left _ m
              by_cases eb : k = .bo
              · subst eb
                obtain ⟨ds, xs, i', j', rfl, hx, ei, ej, q⟩ := slc3_new er (hold_1 vis_sub (vis_hold (vrep_hold sta3.sub hA.rep))) rfl rfl
                cases ei; cases ej
                exact q Q fun p hp => Post.newB h ⟨p, xs, rfl, upd_same, holdsB hp hx⟩ stA sta3 pu hp
              · rw [mk_ne eb] at h
                obtain ⟨ds, xs, i', j', rfl, hx, ei, ej, q⟩ := slc3_new er (hA.readW sta3.sub (fun _ m => m) hA.nB hA.at eb) rfl rfl
                cases ei; cases ej
                exact q Q fun p hp => Post.newT h (fun Hx e => ⟨xs, e, hx⟩) stA sta3 hA.dj hA.nB hA.at pu hp
          | _ => exact h.elim
      | _ => exact h.elim
theorem snd_not {a : IE} (ha : SndE C sg a) : SndE C sg (.not a) := by
  intro nb ks hnb pin W B H σ ρ F k' Q hk sta h
  simp only [kE, Option.map_eq_some_iff] at hk
  obtain ⟨k, hk1, rfl⟩ := hk
  refine ha nb ks hnb pin W B H σ ρ F k _ hk1 sta ?_
  simp only [evE] at h
  cases ev : evE C.Φ a ρ with
  | bad => rw [ev] at h; exact h
  | exc c => rw [ev] at h; exact h
  | ok p =>
    obtain ⟨d, ρ1⟩ := p
    rw [ev] at h
    show Post C ks pin σ B H F ρ1 k d (pureE sg a) _
    intro v B1 H1 F1 f1 st1 sta1 has1 pu1
    cases d with
    | bl b =>
      have g := vrep_hold sta1.sub has1.rep
      simp only [hold] at g
      exact ⟨b, g, Post.sc h rfl st1 sta1 pu1⟩
    | _ => exact h.elim
theorem snd_and {a b : IE} (ha : SndE C sg a) (hb : SndE C sg b) : SndE C sg (.and a b) := by
  intro nb ks hnb pin W B H σ ρ F k' Q hk sta h
  simp only [kE] at hk
  split at hk <;> try (simp only [reduceCtorEq] at hk)
  rename_i k l hk1 hk2
  split at hk <;> simp only [reduceCtorEq, Option.some.injEq] at hk
  rename_i hp
  subst hk
  refine ha nb ks hnb pin W B H σ ρ F k _ hk1 sta ?_
  simp only [evE] at h
  cases ev : evE C.Φ a ρ with
  | bad => rw [ev] at h; exact h
  | exc c => rw [ev] at h; exact h
  | ok p =>
    obtain ⟨d, ρ1⟩ := p
    rw [ev] at h
    show Post C ks pin σ B H F ρ1 k d (pureE sg a) _
    intro v B1 H1 F1 f1 st1 sta1 has1 pu1
    have g := vrep_hold sta1.sub has1.rep
    cases d with
    | bl b0 =>
      simp only [hold] at g
      refine ⟨b0, g, ?_⟩
      have ps : pureE sg (.and a b) = true → pureE sg b = true ∧ Up H H1 ∧ F1 = F := fun z => by
        simp only [pureE, Bool.and_eq_true] at z
        exact ⟨z.2, pu1 z.1⟩
      cases b0 with
      | true =>
        rw [if_pos rfl]
        exact hb nb ks hnb pin W B1 H1 σ ρ1 F1 l _ hk2 sta1 (Fin.le (Fin.shift h st1 ps) hp)
      | false =>
        rw [if_neg (by simp)]
        have h : Post C ks pin σ B H F ρ1 .sh (.bl false) _ Q := h
        exact Post.sc (Post.le h (k := .im) rfl) rfl st1 sta1 fun z => (ps z).2
    | _ => exact h.elim
theorem snd_or {a b : IE} (ha : SndE C sg a) (hb : SndE C sg b) : SndE C sg (.or a b) := by
  intro nb ks hnb pin W B H σ ρ F k' Q hk sta h
  simp only [kE] at hk
  split at hk <;> try (simp only [reduceCtorEq] at hk)
  rename_i k l hk1 hk2
  split at hk <;> simp only [reduceCtorEq, Option.some.injEq] at hk
  rename_i hp
  subst hk
  refine ha nb ks hnb pin W B H σ ρ F k _ hk1 sta ?_
  simp only [evE] at h
  cases ev : evE C.Φ a ρ with
  | bad => rw [ev] at h; exact h
  | exc c => rw [ev] at h; exact h
  | ok p =>
    obtain ⟨d, ρ1⟩ := p
    rw [ev] at h
    show Post C ks pin σ B H F ρ1 k d (pureE sg a) _
    intro v B1 H1 F1 f1 st1 sta1 has1 pu1
    have g := vrep_hold sta1.sub has1.rep
    cases d with
    | bl b0 =>
      simp only [hold] at g
      refine ⟨b0, g, ?_⟩
      have ps : pureE sg (.or a b) = true → pureE sg b = true ∧ Up H H1 ∧ F1 = F := fun z => by
        simp only [pureE, Bool.and_eq_true] at z
        exact ⟨z.2, pu1 z.1⟩
      cases b0 with
      | false =>
        rw [if_neg (by simp)]
        exact hb nb ks hnb pin W B1 H1 σ ρ1 F1 l _ hk2 sta1 (Fin.le (Fin.shift h st1 ps) hp)
      | true =>
        rw [if_pos rfl]
        have h : Post C ks pin σ B H F ρ1 .sh (.bl true) _ Q := h
        exact Post.sc (Post.le h (k := .im) rfl) rfl st1 sta1 fun z => (ps z).2
    | _ => exact h.elim
theorem snd_dic0 : SndE C sg .dic0 := by
  intro nb ks hnb pin W B H σ ρ F k' Q hk sta h
  simp only [kE, Option.some.injEq] at hk
  subst hk
  intro p hp
  exact Post.newT h (fun Hx e => ⟨[], e, rfl⟩) (Step.id (f := []) rfl) sta nomem nomem nomem (fun _ => ⟨Up.refl H, rfl⟩) hp
theorem snd_dct0 : SndE C sg .dct0 := by
  intro nb ks hnb pin W B H σ ρ F k' Q hk sta h
  simp only [kE, Option.some.injEq] at hk
  subst hk
  intro p hp
  exact Post.newT h (fun Hx e => ⟨[], e, rfl⟩) (Step.id (f := []) rfl) sta nomem nomem nomem (fun _ => ⟨Up.refl H, rfl⟩) hp
end
end TW

namespace TW
open PySem L2
section
variable {C : Ctx} {sg : Nat → Sig}
/-- the frame with slot i's own things told anew -/
def setF (F : Nat → List Addr) (i : Nat) (g : List Addr) : Nat → List Addr := fun j => if j = i then g else F j
theorem setF_same {F : Nat → List Addr} {i : Nat} {g : List Addr} : setF F i g i = g := by unfold setF; rw [if_pos rfl]
theorem setF_ne {F : Nat → List Addr} {i j : Nat} {g : List Addr} (h : j ≠ i) : setF F i g j = F j := by unfold setF; rw [if_neg h]
theorem setF_fp {F : Nat → List Addr} {i : Nat} {g : List Addr} {a : Addr} (h : FP (setF F i g) a) : FP F a ∨ a ∈ g := by
  obtain ⟨j, m⟩ := h
  by_cases e : j = i
  · subst e; rw [setF_same] at m; exact .inr m
  · rw [setF_ne e] at m; exact .inl ⟨j, m⟩
theorem put_up {H : Hp} {p : Addr} {o : HO} {a : Addr} {u : HO} (e : H a = some u) (n : a ≠ p) : upd H p o a = some u := by rw [upd_ne n]; exact e
/-- a name's own thing is written: what stands in its top, and what is its own behind it -/
theorem Sta.put {ks : Nat → Kind} {pin : Nat → Option V} {B H : Hp} {σ : L2.St} {ρ : Env} {F : Nat → List Addr} (sta : Sta C ks pin B H σ ρ F) (hnb : ∀ j, (ks j).borrowed = false) {i : Nat} {d0 d : D} {p : Addr} {o : HO} {g : List Addr} {v : V}
    (e0 : gt ρ i = some d0) (hp : p ∈ F i) (hv : σ[i]? = some (some v)) (hr : vrep C.K (ks i) B (upd H p o) d v g) (hg : ∀ a ∈ g, ¬ FP F a ∨ a ∈ F i) (nB : ∀ a ∈ g, B a = none) (ho : NoTab o) :
    Sta C ks pin B (upd H p o) σ (st ρ i (some d)) (setF F i g) where
  len := by rw [st_length]; exact sta.len
  sub := fun a u e => by
    obtain ⟨h1, h2⟩ := sta.sub a u e
    refine ⟨put_up h1 fun z => ?_, h2⟩
    rw [z, sta.nB i p hp] at e; cases e
  tab := by
    obtain ⟨ob, h1, h2⟩ := sta.at hp
    intro q hq
    obtain ⟨ps, e1, e2, e3⟩ := sta.tab q hq
    have ne : ∀ b ps, H b = some (.tbl ps) → b ≠ p := fun b ps e z => by
      rw [z, h1] at e
      cases e
      exact h2.nt ps rfl
    refine ⟨ps, put_up e1 (ne _ _ e1), e2, fun pos cv hc => ?_⟩
    obtain ⟨c, e4, e5⟩ := e3 pos cv hc
    refine ⟨c, e4, put_up e5 fun z => ?_⟩
    rw [z, h1] at e5
    cases e5
    rcases h2 with ⟨_, e⟩ | ⟨_, e⟩ | ⟨_, e⟩ | ⟨_, e⟩ <;> cases e
  rep := fun j e ej => by
    by_cases n : j = i
    · subst n
      rw [gt_st] at ej
      rw [if_pos ⟨rfl, gt_lt e0⟩] at ej
      cases ej
      rw [setF_same]
      exact ⟨v, hv, hr⟩
    · rw [gt_st, if_neg (fun z => n z.1)] at ej
      obtain ⟨w, h1, h2⟩ := sta.rep j e ej
      rw [setF_ne n]
      refine ⟨w, h1, ?_⟩
      have np : ∀ a ∈ F j, a ≠ p := fun a m z => n (sta.dj j i p (z ▸ m) hp)
      have nbj := hnb j
      cases q : ks j <;> rw [q] at h2 nbj <;> simp only [vrep] at h2 ⊢
      · exact h2
      · exact h2
      · rcases h2 with h2 | ⟨r, r1, r2, r3⟩
        · exact .inl h2
        · exact .inr ⟨r, r1, r2, topAt_keep r3 (.of fun _ _ e _ => e) fun u e _ => put_up e (np r (by rw [r2]; exact List.mem_singleton.mpr rfl))⟩
      · exact own_keep e w (F j) h2 fun a m u e _ => put_up e (np a m)
      · cases nbj
      · cases nbj
  nf := fun j ej => by
    by_cases n : j = i
    · subst n
      rw [gt_st, if_pos ⟨rfl, gt_lt e0⟩] at ej; cases ej
    · rw [gt_st, if_neg (fun z => n z.1)] at ej
      rw [setF_ne n]; exact sta.nf j ej
  dj := fun j k a m m2 => by
    by_cases n : j = i <;> by_cases n2 : k = i
    · rw [n, n2]
    · subst n
      rw [setF_same] at m
      rw [setF_ne n2] at m2
      rcases hg a m with z | z
      · exact absurd ⟨k, m2⟩ z
      · exact sta.dj j k a z m2
    · subst n2
      rw [setF_same] at m2
      rw [setF_ne n] at m
      rcases hg a m2 with z | z
      · exact absurd ⟨j, m⟩ z
      · exact sta.dj j k a m z
    · rw [setF_ne n] at m
      rw [setF_ne n2] at m2
      exact sta.dj j k a m m2
  nB := fun j a m => by
    by_cases n : j = i
    · subst n; rw [setF_same] at m; exact nB a m
    · rw [setF_ne n] at m; exact sta.nB j a m
  pin := sta.pin
theorem Step.put {B H : Hp} {F : Nat → List Addr} {p : Addr} {o : HO} {i : Nat} {P' : Addr → Prop} (hp : p ∈ F i) (h : ∀ a, P' a → FP F a ∨ H a = none) : Step B H (FP F) B (upd H p o) P' where
  ex := fun _ _ e => e
  up := fun a u e n _ => put_up e fun z => n (by rw [z]; exact ⟨i, hp⟩)
  th := fun a h => by
    by_cases e : a = p
    · rw [e, upd_same]; simp
    · rw [upd_ne e]; exact h
  new := h
  newB := fun _ h => .inl h
/-- own lists, an item taken out -/
theorem owns_split {H : Hp} : ∀ {ds : List D} {xs : List V} {f : List Addr} (n : Nat) {d : D}, owns H ds xs f → ds[n]? = some d → ∃ x g1 g2, xs[n]? = some x ∧ own H d x g1 ∧ owns H (ds.eraseIdx n) (xs.eraseIdx n) g2 ∧ (∀ a ∈ g1, a ∈ f) ∧ (∀ a ∈ g2, a ∈ f) ∧ ∀ a ∈ g1, a ∉ g2
  | [], _, _, _, _, _, e => by simp at e
  | d :: ds, _, _, 0, d', h, e => by
    obtain ⟨x, r, g1, g2, rfl, rfl, h1, h2, dj⟩ := h
    simp at e; subst e
    exact ⟨x, g1, g2, rfl, h1, h2, fun a m => List.mem_append_left _ m, fun a m => List.mem_append_right _ m, dj⟩
  | d :: ds, _, _, n + 1, d', h, e => by
    obtain ⟨x, r, g1, g2, rfl, rfl, h1, h2, dj⟩ := h
    obtain ⟨y, f1, f2, e1, e2, e3, e4, e5, e6⟩ := owns_split n h2 (by simpa using e)
    refine ⟨y, f1, g1 ++ f2, by simpa using e1, e2, ⟨x, r.eraseIdx n, g1, f2, rfl, rfl, h1, e3, fun a m m2 => dj a m (e5 a m2)⟩, fun a m => List.mem_append_right _ (e4 a m), fun a m => ?_, fun a m m2 => ?_⟩
    · rcases List.mem_append.mp m with m | m
      · exact List.mem_append_left _ m
      · exact List.mem_append_right _ (e5 a m)
    · rcases List.mem_append.mp m2 with m2 | m2
      · exact dj a m2 (e4 a m)
      · exact e6 a m m2
theorem erase_last {α : Type} (l : List α) : l.eraseIdx (l.length - 1) = l.dropLast := by
  rw [List.dropLast_eq_take]
  cases l with
  | nil => rfl
  | cons x r => rw [List.eraseIdx_eq_take_drop_succ]; simp
theorem getLast_ix {α : Type} (l : List α) : l.getLast? = l[l.length - 1]? := List.getLast?_eq_getElem?
/-- an item taken out of a name's own list -/
theorem pop_core {ks : Nat → Kind} {pin : Nat → Option V} {B H : Hp} {σ : L2.St} {ρ : Env} {F : Nat → List Addr} {k : Kind} {Q : VK} (sta : Sta C ks pin B H σ ρ F) (hnb : ∀ j, (ks j).borrowed = false) {i n : Nat} {ds : List D} {d : D}
    (hk : (ks i = .top ∧ k = .sh) ∨ (ks i = .deep ∧ k = .deep)) (e0 : gt ρ i = some (.lst ds)) (en : ds[n]? = some d) (h : Post C ks pin σ B H F (st ρ i (some (.lst (ds.eraseIdx n)))) k d false Q) :
    ∃ p xs y, σ[i]? = some (some (.ref p)) ∧ H p = some (.lst xs) ∧ ds.length = xs.length ∧ xs[n]? = some y ∧ Q y (upd H p (.lst (xs.eraseIdx n))) := by
  obtain ⟨v, hv, r⟩ := sta.rep i _ e0
  rcases hk with ⟨hk, rfl⟩ | ⟨hk, rfl⟩ <;> rw [hk] at r
  · rcases r with r | ⟨p, rfl, ef, xs, t1, t2⟩
    · simp [scV] at r
    · obtain ⟨y, y1, y2⟩ := holds_get t2 en
      have mp : p ∈ F i := by rw [ef]; exact List.mem_singleton.mpr rfl
      have st := sta.put hnb (o := .lst (xs.eraseIdx n)) (d := .lst (ds.eraseIdx n)) (g := [p]) e0 mp hv (by rw [hk]; exact .inr ⟨p, rfl, rfl, _, upd_same, holds_eraseIdx n t2⟩) (fun a m => .inr (by rw [ef]; exact m)) (fun a m => by rw [List.mem_singleton.mp m]; exact sta.nB i p mp) nt_lst
      refine ⟨p, xs, y, hv, t1, holds_length t2, y1, h y B _ (setF F i [p]) [] (Step.put mp fun a z => z.elim (fun q => .inl ((setF_fp q).elim id fun m => by rw [List.mem_singleton.mp m]; exact ⟨i, mp⟩)) fun m => by cases m) st ⟨⟨y2, rfl⟩, nomem, nomem⟩ fun z => by cases z⟩
  · obtain ⟨p, xs, g, rfl, ef, t1, t2, t3⟩ := r
    obtain ⟨y, g1, g2, y1, y2, y3, y4, y5, y6⟩ := owns_split n t3 en
    have mp : p ∈ F i := by rw [ef]; exact List.mem_cons_self
    have mg : ∀ a ∈ g, a ∈ F i := fun a m => by rw [ef]; exact List.mem_cons_of_mem _ m
    have keep : ∀ a, a ∈ g → ∀ o, H a = some o → Lay o → upd H p (.lst (xs.eraseIdx n)) a = some o := fun a m o e _ => put_up e fun z => t2 (z ▸ m)
    have st := sta.put hnb (o := .lst (xs.eraseIdx n)) (d := .lst (ds.eraseIdx n)) (g := p :: g2) e0 mp hv (by rw [hk]; exact ⟨p, _, g2, rfl, rfl, upd_same, fun m => t2 (y5 p m), owns_keep _ _ _ y3 fun a m => keep a (y5 a m)⟩)
      (fun a m => .inr ((List.mem_cons.mp m).elim (fun e => by rw [e]; exact mp) fun m => mg a (y5 a m))) (fun a m => sta.nB i a ((List.mem_cons.mp m).elim (fun e => by rw [e]; exact mp) fun m => mg a (y5 a m))) nt_lst
    refine ⟨p, xs, y, hv, t1, owns_length t3, y1, h y B _ (setF F i (p :: g2)) g1 (Step.put mp fun a z => ?_) st ⟨own_keep _ _ _ y2 fun a m => keep a (y4 a m), fun a m z => ?_, fun a m => sta.nB i a (mg a (y4 a m))⟩ fun z => by cases z⟩
    · rcases z with z | m
      · rcases setF_fp z with q | m
        · exact .inl q
        · exact .inl ⟨i, (List.mem_cons.mp m).elim (fun e => by rw [e]; exact mp) fun m => mg a (y5 a m)⟩
      · exact .inl ⟨i, mg a (y4 a m)⟩
    · obtain ⟨j, mj⟩ := z
      by_cases n' : j = i
      · subst n'
        rw [setF_same] at mj
        rcases List.mem_cons.mp mj with e | mj
        · exact t2 (e ▸ y4 a m)
        · exact y6 a m mj
      · rw [setF_ne n'] at mj
        exact n' (sta.dj j i a mj (mg a (y4 a m)))
theorem snd_pop (i : Nat) : SndE C sg (.pop i) := by
  intro nb ks hnb pin W B H σ ρ F k Q hk sta h
  simp only [kE] at hk
  split at hk <;> try (simp only [reduceCtorEq] at hk)
  rename_i hb
  have hb' : nb = true := by cases nb <;> simp_all
  have hkk : (ks i = .top ∧ k = .sh) ∨ (ks i = .deep ∧ k = .deep) := by
    split at hk <;> simp only [reduceCtorEq, Option.some.injEq] at hk
    · rename_i e; exact .inl ⟨e, hk.symm⟩
    · rename_i e; exact .inr ⟨e, hk.symm⟩
  simp only [evE] at h
  split at h
  · rename_i ds e0
    split at h
    · rename_i d e1
      rw [getLast_ix] at e1
      rw [← erase_last] at h
      obtain ⟨p, xs, y, c1, c2, c3, c4, c5⟩ := pop_core sta (hnb hb') hkk e0 e1 h
      refine ⟨_, c1, .inl ⟨rfl, xs, .of c2⟩, p, xs, y, rfl, rfl, c2, by rw [← c3]; exact c4, ?_⟩
      rw [← erase_last, ← c3]; exact c5
    · exact h.elim
  · exact h.elim
end
end TW

namespace TW
open PySem L2
/-- the defs' reckonings are of their signatures -/
def SigOk (C : Ctx) (sg : Nat → Sig) : Prop := ∀ f, (∀ ds, (C.Φ f).run ds = .bad) ∨ ((C.Φ f).np = (sg f).np ∧ (C.Φ f).pk = (sg f).pk ∧ (C.Φ f).rk = (sg f).rk)
section
variable {C : Ctx} {sg : Nat → Sig}
theorem gt_map : ∀ (ds : List D) (i : Nat), gt (ds.map some) i = ds[i]?
  | [], _ => by simp [gt]
  | d :: r, 0 => rfl
  | d :: r, i + 1 => by simp only [List.map_cons, gt, gt_map r i, List.getElem?_cons_succ]
theorem HasL.opensA {B H : Hp} {F : Nat → List Addr} {g : List Addr} (nB : ∀ a ∈ g, B a = none) : ∀ {l : List Kind} {ds : List D} {vs : List V} {f : List Addr}, HasL C B H F l ds vs f → (∀ a ∈ f, a ∈ g) → (l.all fun k => !k.borrowed) = true → holds C.K (join B H g) ds vs
  | [], _, _, _, h, _, _ => by obtain ⟨rfl, rfl, rfl⟩ := h; rfl
  | k :: l, _, _, _, h, hg, j => by
    obtain ⟨d, r, v, s, f1, f2, rfl, rfl, rfl, h1, h2, _⟩ := h
    rw [List.all_cons, Bool.and_eq_true] at j
    have hk : k.le .sh = true := by
      have := j.1
      cases k <;> simp_all [Kind.le, Kind.borrowed]
    exact ⟨v, s, rfl, h1.openW (fun a m => hg a (List.mem_append_left _ m)) nB hk, HasL.opensA nB h2 (fun a m => hg a (List.mem_append_right _ m)) j.2⟩
theorem okP_at {s : Sig} {j i : Nat} (h : okP s j = true) (hi : i < s.np) (hj : j ≤ i) : s.pk i = .sh := by
  have := List.all_eq_true.mp h i (List.mem_range.mpr hi)
  rw [Bool.or_eq_true, decide_eq_true_iff] at this
  rcases this with t | t
  · omega
  · simpa using t
/-- a callee's state, all its parameters shared -/
theorem Sta.args {B H : Hp} {vs : List V} {ds : List D} {pk : Nat → Kind} (sub : Sub B H) (tab : NdefX.TabsN C.T H) (h : holds C.K B ds vs) (hp : ∀ i, i < ds.length → pk i = .sh) : Sta C pk (fun _ => none) B H (vs.map some) (ds.map some) (fun _ => []) where
  len := by rw [List.length_map, List.length_map, holds_length h]; exact Nat.le_refl _
  sub := sub
  tab := tab
  rep := fun i d e => by
    rw [gt_map] at e
    obtain ⟨v, h1, h2⟩ := holds_get h e
    refine ⟨v, by rw [List.getElem?_map, h1]; rfl, ?_⟩
    rw [hp i (List.getElem?_eq_some_iff.mp e).1]
    exact ⟨h2, rfl⟩
  nf := fun _ _ => rfl
  dj := fun _ _ _ m => by cases m
  nB := fun _ _ m => by cases m
  pin := fun _ _ z => by cases z
theorem noFP {a : Addr} (h : FP (fun _ => []) a) : False := by obtain ⟨_, m⟩ := h; cases m
theorem snd_call (so : SigOk C sg) {f : Nat} {es : IEs} (hes : SndEs C sg es) : SndE C sg (.call f es) := by
  intro nb ks hnb pin W B H σ ρ F k' Q hk sta h
  simp only [kE] at hk
  split at hk <;> try (simp only [reduceCtorEq] at hk)
  rename_i l hk1
  split at hk <;> simp only [reduceCtorEq, Option.some.injEq] at hk
  rename_i hl
  subst hk
  obtain ⟨hl1, hl2, hl3⟩ := hl
  refine hes nb ks hnb pin W B H σ ρ F l _ hk1 sta ?_
  simp only [evE, pureE] at h
  cases ev : evEs C.Φ es ρ with
  | bad => rw [ev] at h; exact h
  | exc c => rw [ev] at h; exact h
  | ok p =>
    obtain ⟨ds, ρ1⟩ := p
    rw [ev] at h
    simp only at h
    intro vs B1 H1 F1 fp st1 sta1 has1 pu1
    obtain ⟨a1, a2, a3, a4, a5⟩ := has1.all
    show spF C (C.Φ f) vs H1 Q (WE W σ)
    rcases so f with hb | ⟨s1, s2, s3⟩
    · rw [hb ds] at h; exact h.elim
    have hpk : ∀ i, i < ds.length → (C.Φ f).pk i = .sh := fun i hi => by rw [s2]; exact okP_at hl2 (by omega) (Nat.zero_le _)
    by_cases hA : (l.all fun k => !k.borrowed) = true
    · -- nothing borrowed: what is told may be of what was handed in
      refine ⟨ds, join B1 H1 fp, fun _ => [], by rw [s1]; omega, by rw [s1]; omega, Sta.args (join_sub sta1.sub a3) sta1.tab (has1.opensA a2 (fun _ m => m) hA) hpk, fun _ _ => rfl, ?_⟩
      cases er : (C.Φ f).run ds with
      | bad => rw [er] at h; exact h
      | exc c => rw [er] at h; exact fun H' x t => h H' (Xup.of st1 ⟨fun a o e n z => x.1 a o e (fun q => noFP q) z, x.2⟩) t
      | ok q =>
        obtain ⟨d, ms⟩ := q
        rw [er] at h
        simp only at h ⊢
        intro v B2 H2 F2 g st2 sta2 has2
        have stJ := st1.join a2 fun _ m => m
        have staJ := sta1.absorb a3 a1 a2
        have st2' : Step (join B1 H1 fp) H1 Nil B2 H2 (fun a => a ∈ g) := ⟨st2.ex, fun a o e _ z => st2.up a o e (fun q => noFP q) z, st2.th, fun a m => (st2.new a (.inr m)).imp (fun q => noFP q) id, fun a m => (st2.newB a m).imp id fun q => q.imp (fun q => noFP q) id⟩
        have sta3 := staJ.step st2' sta2.sub sta2.tab
        have gn : ∀ a ∈ g, H1 a = none := fun a m => (st2'.new a m).elim (fun z => z.elim) id
        rw [s3] at has2
        refine h v B2 H2 F1 g (Step.row (f := []) (stJ.less fun a z => z.elim id fun m => by cases m) ⟨st2'.ex, fun a o e _ z => st2'.up a o e (fun q => q) z, st2'.th, fun a z => z.elim .inl fun m => .inr (gn a m), fun a m => (st2'.newB a m).imp id fun q => .inr (q.elim (fun z => z.elim) id)⟩) sta3 ⟨has2.rep, fun a m z => ?_, has2.nB⟩ fun pu => ?_
        · obtain ⟨o, e, _⟩ := staJ.atF z
          rw [gn a m] at e; cases e
        · obtain ⟨u1, e1⟩ := pu1 pu
          exact ⟨u1.trans fun a o e n => st2'.up a o e (fun z => z) n, e1⟩
    · -- something borrowed: what is told is new, or a scalar
      have rk : (sg f).rk = .im ∨ (sg f).rk = .deep := hl3.resolve_left hA
      refine ⟨ds, vis H1 Nil, fun _ => [], by rw [s1]; omega, by rw [s1]; omega, Sta.args vis_sub sta1.tab (holds_mono vis_ext _ _ (has1.hold sta1.sub)) hpk, fun _ _ => rfl, ?_⟩
      cases er : (C.Φ f).run ds with
      | bad => rw [er] at h; exact h
      | exc c => rw [er] at h; exact fun H' x t => h H' (Xup.of st1 ⟨fun a o e n z => x.1 a o e (fun q => noFP q) z, x.2⟩) t
      | ok q =>
        obtain ⟨d, ms⟩ := q
        rw [er] at h
        simp only at h ⊢
        intro v B2 H2 F2 g st2 sta2 has2
        have up : Up H1 H2 := fun a o e z => st2.up a o e (fun q => noFP q) z
        have gn : ∀ a ∈ g, H1 a = none := fun a m => (st2.new a (.inr m)).elim (fun q => (noFP q).elim) id
        have st2' : Step B1 H1 Nil B1 H2 (fun a => a ∈ g) := ⟨fun _ _ e => e, fun a o e _ z => up a o e z, st2.th, fun a m => .inr (gn a m), fun a m => .inl m⟩
        have sta3 := sta1.step st2' (fun a o e => ⟨up a o (sta1.sub a o e).1 (sta1.sub a o e).2, (sta1.sub a o e).2⟩) sta2.tab
        rw [s3] at has2
        have hrep : vrep C.K (sg f).rk B1 H2 d v g := by
          have r := has2.rep
          rcases rk with e | e <;> rw [e] at r ⊢ <;> exact r
        refine h v B1 H2 F1 g (Step.row (f := []) (st1.less fun a z => z.elim .inl fun m => by cases m) ⟨st2'.ex, fun a o e _ z => up a o e z, st2'.th, fun a z => z.elim .inl fun m => .inr (gn a m), fun a m => .inl m⟩) sta3 ⟨hrep, fun a m z => ?_, fun a m => sta1.freeB (gn a m)⟩ fun pu => ?_
        · obtain ⟨o, e, _⟩ := sta1.atF z
          rw [gn a m] at e; cases e
        · obtain ⟨u1, e1⟩ := pu1 pu
          exact ⟨u1.trans up, e1⟩
end
end TW

namespace TW
open PySem L2
section
variable {C : Ctx} {sg : Nat → Sig}
def at0 (f : List Addr) : Nat → List Addr := fun j => if j = 0 then f else []
theorem at0_0 {f : List Addr} : at0 f 0 = f := rfl
theorem at0_n {f : List Addr} {j : Nat} (h : j ≠ 0) : at0 f j = [] := if_neg h
theorem snd_callM (so : SigOk C sg) {f i : Nat} {es : IEs} (hes : SndEs C sg es) : SndE C sg (.callM f i es) := by
  intro nb ks hnb pin W B H σ ρ F k' Q hk sta h
  simp only [kE] at hk
  split at hk <;> try (simp only [reduceCtorEq] at hk)
  rename_i l hk1
  split at hk <;> simp only [reduceCtorEq, Option.some.injEq] at hk
  rename_i hl
  subst hk
  obtain ⟨hn, ho, hl1, hp0, hl2, hA⟩ := hl
  have hnb := hnb hn
  simp only [evE] at h
  cases e0 : gt ρ i with
  | none => rw [e0] at h; exact h.elim
  | some dd =>
  rw [e0] at h
  simp only at h
  obtain ⟨x, hx, _⟩ := sta.rep i dd e0
  refine ⟨x, hx, ?_⟩
  refine hes nb ks (fun _ => hnb) pin W B H σ ρ F l _ hk1 sta ?_
  cases ev : evEs C.Φ es ρ with
  | bad => rw [ev] at h; exact h
  | exc c => rw [ev] at h; exact h
  | ok p =>
    obtain ⟨ds, ρ1⟩ := p
    rw [ev] at h
    simp only at h
    intro vs B1 H1 F1 fp st1 sta1 has1 pu1
    obtain ⟨a1, a2, a3, a4, a5⟩ := has1.all
    show spF C (C.Φ f) (x :: vs) H1 Q (WE W σ)
    cases e1 : gt ρ1 i with
    | none => rw [e1] at h; exact h.elim
    | some d0 =>
    rw [e1] at h
    simp only at h
    rcases so f with hb | ⟨s1, s2, s3⟩
    · rw [hb _] at h; exact h.elim
    obtain ⟨x', hx', rx⟩ := sta1.rep i d0 e1
    have ex : x' = x := by rw [hx] at hx'; simpa using hx'.symm
    subst ex
    have hpk : ∀ j, j < ds.length → (C.Φ f).pk (j + 1) = .sh := fun j hj => by rw [s2]; exact okP_at hl2 (by omega) (by omega)
    have stJ := st1.join a2 fun _ m => m
    have staJ := sta1.absorb a3 a1 a2
    have hs := has1.opensA a2 (fun _ m => m) hA
    refine ⟨d0 :: ds, join B1 H1 fp, at0 (F1 i), by rw [s1, List.length_cons]; omega, by rw [s1, List.length_cons]; omega, ⟨?_, staJ.sub, sta1.tab, ?_, ?_, ?_, ?_, fun _ _ z => by cases z⟩, ?_, ?_⟩
    · simp only [List.length_map, List.length_cons, holds_length hs, Nat.le_refl]
    · intro j d e
      cases j with
      | zero =>
        simp only [List.map_cons, gt, Option.some.injEq] at e
        subst e
        refine ⟨x', rfl, ?_⟩
        rw [at0_0, s2, hp0]
        exact vrep_B rx (join_ext a2)
      | succ j =>
        simp only [List.map_cons, gt] at e
        rw [gt_map] at e
        obtain ⟨v, v1, v2⟩ := holds_get hs e
        refine ⟨v, by simp only [List.map_cons, List.getElem?_cons_succ, List.getElem?_map, v1]; rfl, ?_⟩
        rw [at0_n (by omega), hpk j (List.getElem?_eq_some_iff.mp e).1]
        exact ⟨v2, rfl⟩
    · intro j e
      by_cases z : j = 0
      · subst z; simp [gt] at e
      · rw [at0_n z]
    · intro j k a m m2
      by_cases z : j = 0 <;> by_cases z2 : k = 0
      · rw [z, z2]
      · rw [at0_n z2] at m2; cases m2
      · rw [at0_n z] at m; cases m
      · rw [at0_n z] at m; cases m
    · intro j a m
      by_cases z : j = 0
      · subst z; exact staJ.nB i a m
      · rw [at0_n z] at m; cases m
    · intro j hj
      by_cases z : j = 0
      · subst z; rw [s2, hp0] at hj; exact absurd ho hj
      · rw [at0_n z]
    · cases er : (C.Φ f).run (d0 :: ds) with
      | bad => rw [er] at h; exact h.elim
      | exc c => rw [er] at h; exact h.elim
      | ok q =>
        obtain ⟨d, ms⟩ := q
        rw [er] at h
        have h : Post C ks pin σ B H F (st ρ1 i (gt ms 0)) (sg f).rk d false Q := h
        simp only
        intro v B2 H2 F2 g st2 sta2 has2
        have f0 : ∀ a, FP (at0 (F1 i)) a → a ∈ F1 i := fun a ⟨j, m⟩ => by
          by_cases z : j = 0
          · subst z; exact m
          · rw [at0_n z] at m; cases m
        have hi : i < ρ1.length := gt_lt e1
        have n2 : ∀ a, a ∈ F2 0 → a ∈ F1 i ∨ H1 a = none := fun a m => (st2.new a (.inl ⟨0, m⟩)).imp (f0 a) id
        have ng : ∀ a, a ∈ g → a ∈ F1 i ∨ H1 a = none := fun a m => (st2.new a (.inr m)).imp (f0 a) id
        have off : ∀ j a, j ≠ i → a ∈ F1 j → a ∉ F1 i ∧ ∃ o, H1 a = some o ∧ Lay o := fun j a n m => ⟨fun z => n (sta1.dj j i a m z), sta1.at m⟩
        refine h v B2 H2 (setF F1 i (F2 0)) g (Step.row (f := []) (stJ.less fun a z => z.elim id fun m => by cases m) ⟨st2.ex, fun a o e n z => st2.up a o e (fun q => n ⟨i, f0 a q⟩) z, st2.th, fun a z => ?_, fun a z => (st2.newB a z).imp id fun q => q.imp (fun q => ⟨i, f0 a q⟩) id⟩) ⟨?_, sta2.sub, sta2.tab, ?_, ?_, ?_, ?_, sta1.pin⟩ ⟨?_, ?_, has2.nB⟩ fun z => by cases z
        · rcases z with z | m
          · rcases setF_fp z with q | m
            · exact .inl q
            · exact (n2 a m).imp (fun m => ⟨i, m⟩) id
          · exact (ng a m).imp (fun m => ⟨i, m⟩) id
        · rw [st_length]; exact sta1.len
        · intro j e ej
          by_cases n : j = i
          · subst n
            rw [gt_st, if_pos ⟨rfl, hi⟩] at ej
            obtain ⟨w, w1, w2⟩ := sta2.rep 0 e ej
            simp only [List.map_cons, List.getElem?_cons_zero, Option.some.injEq] at w1
            subst w1
            rw [s2, hp0] at w2
            rw [setF_same]
            exact ⟨x', hx', w2⟩
          · rw [gt_st, if_neg (fun z => n z.1)] at ej
            obtain ⟨w, w1, w2⟩ := staJ.rep j e ej
            rw [setF_ne n]
            exact ⟨w, w1, vrep_step w2 st2 (fun a m q => (off j a n m).1 (f0 a q)) fun z => by rw [hnb j] at z; cases z⟩
        · intro j ej
          by_cases n : j = i
          · subst n
            rw [gt_st, if_pos ⟨rfl, hi⟩] at ej
            rw [setF_same]; exact sta2.nf 0 ej
          · rw [gt_st, if_neg (fun z => n z.1)] at ej
            rw [setF_ne n]; exact sta1.nf j ej
        · intro j k a m m2
          by_cases n : j = i <;> by_cases n' : k = i
          · rw [n, n']
          · subst n
            rw [setF_same] at m
            rw [setF_ne n'] at m2
            obtain ⟨q1, o, q2, _⟩ := off k a n' m2
            rcases n2 a m with z | z
            · exact absurd z q1
            · rw [q2] at z; cases z
          · subst n'
            rw [setF_same] at m2
            rw [setF_ne n] at m
            obtain ⟨q1, o, q2, _⟩ := off j a n m
            rcases n2 a m2 with z | z
            · exact absurd z q1
            · rw [q2] at z; cases z
          · rw [setF_ne n] at m
            rw [setF_ne n'] at m2
            exact sta1.dj j k a m m2
        · intro j a m
          by_cases n : j = i
          · subst n; rw [setF_same] at m; exact sta2.nB 0 a m
          · rw [setF_ne n] at m
            obtain ⟨q1, o, q2, _⟩ := off j a n m
            cases eb : B2 a with
            | none => rfl
            | some ob =>
              rcases st2.newB a (by rw [eb]; simp) with z | z | z
              · exact absurd (staJ.nB j a m) z
              · exact absurd (f0 a z) q1
              · rw [q2] at z; cases z
        · rw [← s3]; exact has2.rep
        · rintro a m ⟨j, mj⟩
          by_cases n : j = i
          · subst n; rw [setF_same] at mj; exact has2.dj a m ⟨0, mj⟩
          · rw [setF_ne n] at mj
            obtain ⟨q1, o, q2, _⟩ := off j a n mj
            rcases ng a m with z | z
            · exact absurd z q1
            · rw [q2] at z; cases z
def atK (k : Nat) (f : List Addr) : Nat → List Addr := fun j => if j = k then f else []
theorem atK_0 {k : Nat} {f : List Addr} : atK k f k = f := if_pos rfl
theorem atK_n {k : Nat} {f : List Addr} {j : Nat} (h : j ≠ k) : atK k f j = [] := if_neg h
theorem snd_callN (so : SigOk C sg) {f i : Nat} {es : IEs} (hes : SndEs C sg es) : SndE C sg (.callN f i es) := by
  intro nb ks hnb pin W B H σ ρ F k' Q hk sta h
  simp only [kE] at hk
  split at hk <;> try (simp only [reduceCtorEq] at hk)
  rename_i l hk1
  split at hk <;> simp only [reduceCtorEq, Option.some.injEq] at hk
  rename_i hl
  subst hk
  obtain ⟨hn, ho, hl1, hp0, hl2, hA⟩ := hl
  have hnb := hnb hn
  simp only [evE] at h
  refine hes nb ks (fun _ => hnb) pin W B H σ ρ F l _ hk1 sta ?_
  cases ev : evEs C.Φ es ρ with
  | bad => rw [ev] at h; exact h
  | exc c => rw [ev] at h; exact h
  | ok p =>
    obtain ⟨ds, ρ1⟩ := p
    rw [ev] at h
    simp only at h
    intro vs B1 H1 F1 fp st1 sta1 has1 pu1
    obtain ⟨a1, a2, a3, a4, a5⟩ := has1.all
    cases e1 : gt ρ1 i with
    | none => rw [e1] at h; exact h.elim
    | some d0 =>
    rw [e1] at h
    simp only at h
    rcases so f with hb | ⟨s1, s2, s3⟩
    · rw [hb _] at h; exact h.elim
    obtain ⟨x', hx', rx⟩ := sta1.rep i d0 e1
    refine ⟨x', hx', ?_⟩
    show spF C (C.Φ f) (vs ++ [x']) H1 Q (WE W σ)
    have hpk : ∀ j, j < ds.length → (C.Φ f).pk j = .sh := fun j hj => by
      rw [s2]
      have := List.all_eq_true.mp hl2 j (List.mem_range.mpr (by omega))
      simpa using this
    have hpK : (C.Φ f).pk ds.length = ks i := by
      rw [s2, ← hp0]
      congr 1
    have stJ := st1.join a2 fun _ m => m
    have staJ := sta1.absorb a3 a1 a2
    have hs := has1.opensA a2 (fun _ m => m) hA
    have lvs := holds_length hs
    have gA : ∀ j, j < ds.length → gt ((ds ++ [d0]).map some) j = ds[j]? := fun j hj => by rw [gt_map, List.getElem?_append_left hj]
    have gB : gt ((ds ++ [d0]).map some) ds.length = some d0 := by rw [gt_map, List.getElem?_append_right (Nat.le_refl _), Nat.sub_self]; rfl
    have gC : ∀ j, ds.length < j → gt ((ds ++ [d0]).map some) j = none := fun j hj => by rw [gt_map]; exact List.getElem?_eq_none (by rw [List.length_append, List.length_singleton]; omega)
    have vB : ((vs ++ [x']).map some)[ds.length]? = some (some x') := by rw [List.getElem?_map, List.getElem?_append_right (by omega), show ds.length - vs.length = 0 by omega]; rfl
    refine ⟨ds ++ [d0], join B1 H1 fp, atK ds.length (F1 i), by rw [s1, List.length_append, List.length_singleton]; omega, by rw [s1, List.length_append, List.length_singleton]; omega, ⟨?_, staJ.sub, sta1.tab, ?_, ?_, ?_, ?_, fun _ _ z => by cases z⟩, ?_, ?_⟩
    · simp only [List.length_map, List.length_append, List.length_singleton, lvs, Nat.le_refl]
    · intro j d e
      by_cases z : j = ds.length
      · subst z
        rw [gB] at e
        simp only [Option.some.injEq] at e
        subst e
        refine ⟨x', vB, ?_⟩
        rw [atK_0, hpK]
        exact vrep_B rx (join_ext a2)
      · by_cases lt : j < ds.length
        · rw [gA j lt] at e
          obtain ⟨v, v1, v2⟩ := holds_get hs e
          refine ⟨v, by rw [List.getElem?_map, List.getElem?_append_left (by omega), v1]; rfl, ?_⟩
          rw [atK_n z, hpk j lt]
          exact ⟨v2, rfl⟩
        · rw [gC j (by omega)] at e; cases e
    · intro j e
      by_cases z : j = ds.length
      · subst z; rw [gB] at e; cases e
      · rw [atK_n z]
    · intro j k a m m2
      by_cases z : j = ds.length <;> by_cases z2 : k = ds.length
      · rw [z, z2]
      · rw [atK_n z2] at m2; cases m2
      · rw [atK_n z] at m; cases m
      · rw [atK_n z] at m; cases m
    · intro j a m
      by_cases z : j = ds.length
      · subst z; rw [atK_0] at m; exact staJ.nB i a m
      · rw [atK_n z] at m; cases m
    · intro j hj
      by_cases z : j = ds.length
      · subst z; rw [hpK] at hj; exact absurd ho hj
      · rw [atK_n z]
    · cases er : (C.Φ f).run (ds ++ [d0]) with
      | bad => rw [er] at h; exact h.elim
      | exc c => rw [er] at h; exact h.elim
      | ok q =>
        obtain ⟨d, ms⟩ := q
        rw [er] at h
        have h : Post C ks pin σ B H F (st ρ1 i (gt ms ds.length)) (sg f).rk d false Q := h
        simp only
        intro v B2 H2 F2 g st2 sta2 has2
        have f0 : ∀ a, FP (atK ds.length (F1 i)) a → a ∈ F1 i := fun a ⟨j, m⟩ => by
          by_cases z : j = ds.length
          · subst z; rw [atK_0] at m; exact m
          · rw [atK_n z] at m; cases m
        have hi : i < ρ1.length := gt_lt e1
        have n2 : ∀ a, a ∈ F2 ds.length → a ∈ F1 i ∨ H1 a = none := fun a m => (st2.new a (.inl ⟨ds.length, m⟩)).imp (f0 a) id
        have ng : ∀ a, a ∈ g → a ∈ F1 i ∨ H1 a = none := fun a m => (st2.new a (.inr m)).imp (f0 a) id
        have off : ∀ j a, j ≠ i → a ∈ F1 j → a ∉ F1 i ∧ ∃ o, H1 a = some o ∧ Lay o := fun j a n m => ⟨fun z => n (sta1.dj j i a m z), sta1.at m⟩
        refine h v B2 H2 (setF F1 i (F2 ds.length)) g (Step.row (f := []) (stJ.less fun a z => z.elim id fun m => by cases m) ⟨st2.ex, fun a o e n z => st2.up a o e (fun q => n ⟨i, f0 a q⟩) z, st2.th, fun a z => ?_, fun a z => (st2.newB a z).imp id fun q => q.imp (fun q => ⟨i, f0 a q⟩) id⟩) ⟨?_, sta2.sub, sta2.tab, ?_, ?_, ?_, ?_, sta1.pin⟩ ⟨?_, ?_, has2.nB⟩ fun z => by cases z
        · rcases z with z | m
          · rcases setF_fp z with q | m
            · exact .inl q
            · exact (n2 a m).imp (fun m => ⟨i, m⟩) id
          · exact (ng a m).imp (fun m => ⟨i, m⟩) id
        · rw [st_length]; exact sta1.len
        · intro j e ej
          by_cases n : j = i
          · subst n
            rw [gt_st, if_pos ⟨rfl, hi⟩] at ej
            obtain ⟨w, w1, w2⟩ := sta2.rep ds.length e ej
            rw [vB] at w1
            simp only [Option.some.injEq] at w1
            subst w1
            rw [hpK] at w2
            rw [setF_same]
            exact ⟨x', hx', w2⟩
          · rw [gt_st, if_neg (fun z => n z.1)] at ej
            obtain ⟨w, w1, w2⟩ := staJ.rep j e ej
            rw [setF_ne n]
            exact ⟨w, w1, vrep_step w2 st2 (fun a m q => (off j a n m).1 (f0 a q)) fun z => by rw [hnb j] at z; cases z⟩
        · intro j ej
          by_cases n : j = i
          · subst n
            rw [gt_st, if_pos ⟨rfl, hi⟩] at ej
            rw [setF_same]; exact sta2.nf ds.length ej
          · rw [gt_st, if_neg (fun z => n z.1)] at ej
            rw [setF_ne n]; exact sta1.nf j ej
        · intro j k a m m2
          by_cases n : j = i <;> by_cases n' : k = i
          · rw [n, n']
          · subst n
            rw [setF_same] at m
            rw [setF_ne n'] at m2
            obtain ⟨q1, o, q2, _⟩ := off k a n' m2
            rcases n2 a m with z | z
            · exact absurd z q1
            · rw [q2] at z; cases z
          · subst n'
            rw [setF_same] at m2
            rw [setF_ne n] at m
            obtain ⟨q1, o, q2, _⟩ := off j a n m
            rcases n2 a m2 with z | z
            · exact absurd z q1
            · rw [q2] at z; cases z
          · rw [setF_ne n] at m
            rw [setF_ne n'] at m2
            exact sta1.dj j k a m m2
        · intro j a m
          by_cases n : j = i
          · subst n; rw [setF_same] at m; exact sta2.nB ds.length a m
          · rw [setF_ne n] at m
            obtain ⟨q1, o, q2, _⟩ := off j a n m
            cases eb : B2 a with
            | none => rfl
            | some ob =>
              rcases st2.newB a (by rw [eb]; simp) with z | z | z
              · exact absurd (staJ.nB j a m) z
              · exact absurd (f0 a z) q1
              · rw [q2] at z; cases z
        · rw [← s3]; exact has2.rep
        · rintro a m ⟨j, mj⟩
          by_cases n : j = i
          · subst n; rw [setF_same] at mj; exact has2.dj a m ⟨ds.length, mj⟩
          · rw [setF_ne n] at mj
            obtain ⟨q1, o, q2, _⟩ := off j a n mj
            rcases ng a m with z | z
            · exact absurd z q1
            · rw [q2] at z; cases z
theorem HasL.split {B H : Hp} {F : Nat → List Addr} {k : Kind} : ∀ {l : List Kind} {ds : List D} {vs : List V} {f : List Addr}, HasL C B H F (l ++ [k]) ds vs f →
    ∃ ds1 d vs1 v f1 f2, ds = ds1 ++ [d] ∧ vs = vs1 ++ [v] ∧ f = f1 ++ f2 ∧ HasL C B H F l ds1 vs1 f1 ∧ Has C B H F k d v f2 ∧ ∀ a ∈ f1, a ∉ f2
  | [], _, _, _, h => by
    obtain ⟨d, r, v, s, f1, f2, rfl, rfl, rfl, h1, h2, h3⟩ := h
    obtain ⟨rfl, rfl, rfl⟩ := h2
    exact ⟨[], d, [], v, [], f1, rfl, rfl, by simp, ⟨rfl, rfl, rfl⟩, h1, nomem⟩
  | _ :: l, _, _, _, h => by
    obtain ⟨d, r, v, s, f1, f2, rfl, rfl, rfl, h1, h2, h3⟩ := h
    obtain ⟨ds1, d', vs1, v', g1, g2, rfl, rfl, rfl, k1, k2, k3⟩ := HasL.split h2
    refine ⟨d :: ds1, d', v :: vs1, v', f1 ++ g1, g2, rfl, rfl, by simp, ⟨d, ds1, v, vs1, f1, g1, rfl, rfl, rfl, h1, k1, fun a m z => h3 a m (List.mem_append_left _ z)⟩, k2, fun a m z => ?_⟩
    rcases List.mem_append.mp m with m | m
    · exact h3 a m (List.mem_append_right _ z)
    · exact k3 a m z
/-- things that are not the frame's change -/
theorem Sta.stepP {ks : Nat → Kind} {pin : Nat → Option V} {B H B' H' : Hp} {σ : L2.St} {ρ : Env} {F : Nat → List Addr} {P P' : Addr → Prop} (hnb : ∀ j, (ks j).borrowed = false) (s : Sta C ks pin B H σ ρ F) (t : Step B H P B' H' P') (sub : Sub B' H') (tab : NdefX.TabsN C.T H') (hP : ∀ a, FP F a → ¬ P a) : Sta C ks pin B' H' σ ρ F where
  len := s.len
  sub := sub
  tab := tab
  rep := fun i d e => let ⟨v, h1, h2⟩ := s.rep i d e; ⟨v, h1, vrep_step h2 t (fun a m => hP a ⟨i, m⟩) fun z => by rw [hnb i] at z; cases z⟩
  nf := s.nf
  dj := s.dj
  nB := fun i a m => by
    cases e : B' a with
    | none => rfl
    | some o =>
      obtain ⟨o', ho, _⟩ := s.at m
      rcases t.newB a (by rw [e]; simp) with q | q | q
      · exact absurd (s.nB i a m) q
      · exact absurd q (hP a ⟨i, m⟩)
      · rw [ho] at q; cases q
  pin := s.pin
/-- the last of what is handed in is one's own, and new -/
theorem snd_callT (so : SigOk C sg) {f : Nat} {es : IEs} (hes : SndEs C sg es) : SndE C sg (.callT f es) := by
  intro nb ks hnb pin W B H σ ρ F k' Q hk sta h
  simp only [kE] at hk
  split at hk <;> try (simp only [reduceCtorEq] at hk)
  rename_i l hk1
  split at hk <;> try (simp only [reduceCtorEq] at hk)
  rename_i k hlast
  split at hk <;> simp only [reduceCtorEq, Option.some.injEq] at hk
  rename_i hl
  subst hk
  obtain ⟨hn, ho, hl1, hp0, hl2, hA⟩ := hl
  have hnb := hnb hn
  obtain ⟨li, rfl⟩ : ∃ li, l = li ++ [k] := ⟨l.dropLast, by
    have ne : l ≠ [] := fun z => by rw [z] at hlast; cases hlast
    rw [List.getLast?_eq_some_getLast ne] at hlast
    rw [← Option.some.inj hlast]
    exact (List.dropLast_concat_getLast ne).symm⟩
  simp only [List.dropLast_concat, List.length_append, List.length_singleton, Nat.add_sub_cancel] at hl1 hp0 hl2 hA
  simp only [evE] at h
  refine hes nb ks (fun _ => hnb) pin W B H σ ρ F (li ++ [k]) _ hk1 sta ?_
  cases ev : evEs C.Φ es ρ with
  | bad => rw [ev] at h; exact h
  | exc c => rw [ev] at h; exact h
  | ok p =>
    obtain ⟨dss, ρ1⟩ := p
    rw [ev] at h
    simp only at h
    intro vss B1 H1 F1 fpp st1 sta1 has1 pu1
    obtain ⟨a1, a2, a3, a4, a5⟩ := has1.all
    obtain ⟨ds, d0, vs, x', fp, f2, rfl, rfl, rfl, hasL, hasX, dj12⟩ := has1.split
    obtain ⟨b1, b2, b3, b4, b5⟩ := hasL.all
    show spF C (C.Φ f) (vs ++ [x']) H1 Q (WE W σ)
    rcases so f with hb | ⟨s1, s2, s3⟩
    · rw [hb _] at h; exact h.elim
    have hpk : ∀ j, j < ds.length → (C.Φ f).pk j = .sh := fun j hj => by
      rw [s2]
      have := List.all_eq_true.mp hl2 j (List.mem_range.mpr (by omega))
      simpa using this
    have hpK : (C.Φ f).pk ds.length = k := by
      rw [s2, b4]; exact hp0
    have stJ := st1.join (g := fp) a2 fun _ m => List.mem_append_left _ m
    have staJ := sta1.absorb b3 b1 b2
    have hs := hasL.opensA b2 (fun _ m => m) hA
    have lvs := holds_length hs
    have gA : ∀ j, j < ds.length → gt ((ds ++ [d0]).map some) j = ds[j]? := fun j hj => by rw [gt_map, List.getElem?_append_left hj]
    have gB : gt ((ds ++ [d0]).map some) ds.length = some d0 := by rw [gt_map, List.getElem?_append_right (Nat.le_refl _), Nat.sub_self]; rfl
    have gC : ∀ j, ds.length < j → gt ((ds ++ [d0]).map some) j = none := fun j hj => by rw [gt_map]; exact List.getElem?_eq_none (by rw [List.length_append, List.length_singleton]; omega)
    have vB : ((vs ++ [x']).map some)[ds.length]? = some (some x') := by rw [List.getElem?_map, List.getElem?_append_right (by omega), show ds.length - vs.length = 0 by omega]; rfl
    have f2B : ∀ a ∈ f2, join B1 H1 fp a = none := fun a m => by rw [join_out fun z => dj12 a z m]; exact hasX.nB a m
    refine ⟨ds ++ [d0], join B1 H1 fp, atK ds.length f2, by rw [s1, List.length_append, List.length_singleton]; omega, by rw [s1, List.length_append, List.length_singleton]; omega, ⟨?_, staJ.sub, sta1.tab, ?_, ?_, ?_, ?_, fun _ _ z => by cases z⟩, ?_, ?_⟩
    · simp only [List.length_map, List.length_append, List.length_singleton, lvs, Nat.le_refl]
    · intro j d e
      by_cases z : j = ds.length
      · subst z
        rw [gB] at e
        simp only [Option.some.injEq] at e
        subst e
        refine ⟨x', vB, ?_⟩
        rw [atK_0, hpK]
        exact vrep_B hasX.rep (join_ext b2)
      · by_cases lt : j < ds.length
        · rw [gA j lt] at e
          obtain ⟨v, v1, v2⟩ := holds_get hs e
          refine ⟨v, by rw [List.getElem?_map, List.getElem?_append_left (by omega), v1]; rfl, ?_⟩
          rw [atK_n z, hpk j lt]
          exact ⟨v2, rfl⟩
        · rw [gC j (by omega)] at e; cases e
    · intro j e
      by_cases z : j = ds.length
      · subst z; rw [gB] at e; cases e
      · rw [atK_n z]
    · intro j k a m m2
      by_cases z : j = ds.length <;> by_cases z2 : k = ds.length
      · rw [z, z2]
      · rw [atK_n z2] at m2; cases m2
      · rw [atK_n z] at m; cases m
      · rw [atK_n z] at m; cases m
    · intro j a m
      by_cases z : j = ds.length
      · subst z; rw [atK_0] at m; exact f2B a m
      · rw [atK_n z] at m; cases m
    · intro j hj
      by_cases z : j = ds.length
      · subst z; rw [hpK] at hj; exact absurd ho hj
      · rw [atK_n z]
    · cases er : (C.Φ f).run (ds ++ [d0]) with
      | bad => rw [er] at h; exact h.elim
      | exc c => rw [er] at h; exact h.elim
      | ok q =>
        obtain ⟨d, ms⟩ := q
        rw [er] at h
        have h : Post C ks pin σ B H F ρ1 (sg f).rk d false Q := h
        simp only
        intro v B2 H2 F2 g st2 sta2 has2
        have f0 : ∀ a, FP (atK ds.length f2) a → a ∈ f2 := fun a ⟨j, m⟩ => by
          by_cases z : j = ds.length
          · subst z; rw [atK_0] at m; exact m
          · rw [atK_n z] at m; cases m
        have off : ∀ a, FP F1 a → ¬ FP (atK ds.length f2) a := fun a z q => hasX.dj a (f0 a q) z
        have sta3 := staJ.stepP hnb st2 sta2.sub sta2.tab off
        have ng : ∀ a, a ∈ g → a ∈ f2 ∨ H1 a = none := fun a m => (st2.new a (.inr m)).imp (f0 a) id
        have stJ' : Step B H (FP F) (join B1 H1 fp) H1 (fun a => FP F1 a ∨ a ∈ f2) := ⟨stJ.ex, stJ.up, stJ.th, fun a z => z.elim (fun q => stJ.new a q) fun m => st1.new a (.inr (List.mem_append_right _ m)), stJ.newB⟩
        have st2' : Step (join B1 H1 fp) H1 (fun a => FP F1 a ∨ a ∈ f2) B2 H2 (fun a => FP F1 a ∨ a ∈ g) := ⟨st2.ex, fun a o e n z => st2.up a o e (fun q => n (.inr (f0 a q))) z, st2.th, fun a z => z.elim (fun q => .inl (.inl q)) fun m => (ng a m).imp .inr id, fun a z => (st2.newB a z).imp id fun q => q.imp (fun q => .inr (f0 a q)) id⟩
        refine h v B2 H2 F1 g (stJ'.trans st2') sta3 ⟨by rw [← s3]; exact has2.rep, fun a m z => ?_, has2.nB⟩ fun z => by simp at z
        rcases ng a m with q | q
        · exact hasX.dj a q z
        · obtain ⟨o, e, _⟩ := sta1.atF z
          rw [q] at e; cases e
theorem snd_popAt {i : Nat} {a : IE} (ha : SndE C sg a) : SndE C sg (.popAt i a) := by
  intro nb ks hnb pin W B H σ ρ F k Q hk sta h
  simp only [kE] at hk
  split at hk <;> try (simp only [reduceCtorEq] at hk)
  rename_i hb
  have hb' : nb = true := by cases nb <;> simp_all
  have hkk : ∃ k1, kE sg nb ks a = some k1 ∧ ((ks i = .top ∧ k = .sh) ∨ (ks i = .deep ∧ k = .deep)) := by
    split at hk <;> simp only [reduceCtorEq, Option.some.injEq] at hk
    · rename_i e1 e2; exact ⟨_, e2, .inl ⟨e1, hk.symm⟩⟩
    · rename_i e1 e2; exact ⟨_, e2, .inr ⟨e1, hk.symm⟩⟩
  obtain ⟨k1, hk1, hkk⟩ := hkk
  simp only [evE] at h
  cases e0 : gt ρ i with
  | none => rw [e0] at h; exact h.elim
  | some dd =>
  rw [e0] at h
  cases dd with
  | lst ds0 =>
    simp only at h
    obtain ⟨x, hx, rx⟩ := sta.rep i _ e0
    have hh := vrep_hold sta.sub rx
    simp only [hold] at hh
    obtain ⟨p0, xs0, rfl, t1, _⟩ := hh
    refine ⟨_, hx, .inl ⟨rfl, xs0, .of t1⟩, ?_⟩
    refine ha nb ks hnb pin W B H σ ρ F k1 _ hk1 sta ?_
    cases ev : evE C.Φ a ρ with
    | bad => rw [ev] at h; exact h
    | exc c => rw [ev] at h; exact h
    | ok q =>
      obtain ⟨e, ρ1⟩ := q
      rw [ev] at h
      show Post C ks pin σ B H F ρ1 k1 e (pureE sg a) _
      intro u B1 H1 F1 f1 st1 sta1 has1 pu1
      cases e with
      | int kk =>
        simp only at h
        have gu := vrep_hold sta1.sub has1.rep
        simp only [hold] at gu
        subst gu
        split at h
        · rename_i hb2
          split at h
          · rename_i ds e1
            split at h
            · rename_i n en
              split at h
              · rename_i d ed
                have h : Post C ks pin σ B H F _ k d _ Q := h
                have hps := Post.shift (pb := false) h st1 fun z => by simp [pureE] at z
                obtain ⟨p, xs, y, c1, c2, c3, c4, c5⟩ := pop_core sta1 (hnb hb') hkk e1 ed hps
                have : p = p0 := by rw [hx] at c1; simpa using c1.symm
                subst this
                obtain ⟨s1, s2, s3, s4⟩ := ixN_seq (show ixN ds.length kk = some n from en)
                exact ⟨p, xs, kk, n, y, rfl, rfl, c2, by omega, by omega, by rw [← c3]; exact s1, c4, c5⟩
              · exact h.elim
            · exact h.elim
          · exact h.elim
        · exact h.elim
      | _ => exact h.elim
  | _ => exact h.elim
end
end TW

namespace TW
open PySem L2
section
variable {C : Ctx} {sg : Nat → Sig}
theorem set_get {σ : L2.St} {i j : Nat} {x : Option V} : (σ.set i x)[j]? = if j = i ∧ i < σ.length then some x else σ[j]? := by
  by_cases e : j = i
  · subst e
    by_cases l : j < σ.length
    · rw [if_pos ⟨rfl, l⟩, List.getElem?_set_self l]
    · rw [if_neg (fun z => l z.2), List.getElem?_eq_none (by rw [List.length_set]; omega), List.getElem?_eq_none (by omega)]
  · rw [if_neg (fun z => e z.1), List.getElem?_set_ne (Ne.symm e)]
/-- a name is given -/
theorem Sta.bind {ks : Nat → Kind} {pin : Nat → Option V} {B H : Hp} {σ : L2.St} {ρ : Env} {F : Nat → List Addr} (sta : Sta C ks pin B H σ ρ F) {i : Nat} {d : D} {v : V} {g : List Addr}
    (hr : vrep C.K (ks i) B H d v g) (hg : ∀ a ∈ g, ¬ FP F a) (nB : ∀ a ∈ g, B a = none) (hp : pin i = none) :
    ∃ F', Sta C ks pin B H (σ.set i (some v)) (st ρ i (some d)) F' ∧ ∀ a, FP F' a → FP F a ∨ a ∈ g := by
  have pn : ∀ j w, pin j = some w → (σ.set i (some v))[j]? = some (some w) := fun j w e => by
    have n : j ≠ i := fun z => by rw [z, hp] at e; cases e
    rw [set_get, if_neg fun z => n z.1]; exact sta.pin j w e
  by_cases li : i < ρ.length
  · refine ⟨setF F i g, ⟨by rw [st_length, List.length_set]; exact sta.len, sta.sub, sta.tab, fun j e ej => ?_, fun j ej => ?_, fun j k a m m2 => ?_, fun j a m => ?_, pn⟩, fun a z => setF_fp z⟩
    · by_cases n : j = i
      · subst n
        rw [gt_st, if_pos ⟨rfl, li⟩] at ej
        cases ej
        rw [setF_same]
        exact ⟨v, by rw [set_get, if_pos ⟨rfl, Nat.lt_of_lt_of_le li sta.len⟩], hr⟩
      · rw [gt_st, if_neg (fun z => n z.1)] at ej
        rw [setF_ne n, set_get, if_neg (fun z => n z.1)]
        exact sta.rep j e ej
    · by_cases n : j = i
      · subst n
        rw [gt_st, if_pos ⟨rfl, li⟩] at ej; cases ej
      · rw [gt_st, if_neg (fun z => n z.1)] at ej
        rw [setF_ne n]; exact sta.nf j ej
    · by_cases n : j = i <;> by_cases n2 : k = i
      · rw [n, n2]
      · subst n
        rw [setF_same] at m
        rw [setF_ne n2] at m2
        exact absurd ⟨k, m2⟩ (hg a m)
      · subst n2
        rw [setF_same] at m2
        rw [setF_ne n] at m
        exact absurd ⟨j, m⟩ (hg a m2)
      · rw [setF_ne n] at m
        rw [setF_ne n2] at m2
        exact sta.dj j k a m m2
    · by_cases n : j = i
      · subst n; rw [setF_same] at m; exact nB a m
      · rw [setF_ne n] at m; exact sta.nB j a m
  · have es : st ρ i (some d) = ρ := by
      have : ∀ (ρ : Env) (i : Nat), ¬ i < ρ.length → st ρ i (some d) = ρ := fun ρ => by
        induction ρ with
        | nil => intro i _; rfl
        | cons x r ih =>
          intro i h
          cases i with
          | zero => exact absurd (Nat.succ_pos _) h
          | succ i =>
            have := ih i (by simp only [List.length_cons] at h; omega)
            simp only [st, this]
      exact this ρ i li
    rw [es]
    refine ⟨F, ⟨by rw [List.length_set]; exact sta.len, sta.sub, sta.tab, fun j e ej => ?_, sta.nf, sta.dj, sta.nB, pn⟩, fun a z => .inl z⟩
    have n : j ≠ i := fun z => li (z ▸ gt_lt ej)
    rw [set_get, if_neg (fun z => n z.1)]
    exact sta.rep j e ej
/-- where the items of such a thing are known -/
def hB (s : Kind) (B H : Hp) : Hp := if s = .bo then H else B
theorem vrep_hB {s : Kind} (hs : s = .sh ∨ s = .bo) {K : PySem.W.Frag} {B H : Hp} {d : D} {v : V} (h : hold K (hB s B H) d v) : vrep K s B H d v [] := by
  rcases hs with rfl | rfl
  · exact ⟨h, rfl⟩
  · exact ⟨h, rfl⟩
theorem hB_ext {s : Kind} {B H : Hp} (sub : Sub B H) : Ext (hB s B H) H := by
  unfold hB
  split
  · exact .of fun _ _ e _ => e
  · exact sub.ext
theorem hB_one {s : Kind} {B H : Hp} : (s = .bo ∧ hB s B H = H) ∨ hB s B H = B := by
  unfold hB
  split
  · rename_i e; exact .inl ⟨e, rfl⟩
  · exact .inr rfl
/-- several names are given -/
theorem tgs_ok {s : Kind} (hs : s = .sh ∨ s = .bo) {ks : Nat → Kind} {pin : Nat → Option V} {B H : Hp} : ∀ (is : List Nat) {ds : List D} {xs : List V} {σ : L2.St} {ρ ρ' : Env} {F : Nat → List Addr} {Q : L2.St → Hp → Prop}, Sta C ks pin B H σ ρ F →
    holds C.K (hB s B H) ds xs → (∀ i ∈ is, ks i = s) → (∀ i ∈ is, pin i = none) → sts ρ is ds = some ρ' →
    (∀ σ' F', Sta C ks pin B H σ' ρ' F' → (∀ a, FP F' a → FP F a) → σ'.length = σ.length → (∀ j, j ∉ is → σ'[j]? = σ[j]?) → Q σ' H) → gNs is xs σ H Q
  | [], ds, xs, σ, ρ, ρ', F, Q, sta, h, _, _, e, q => by
    cases ds with
    | nil =>
      simp only [sts, Option.some.injEq] at e
      subst e
      exact ⟨h, q σ F sta (fun _ z => z) rfl fun _ _ => rfl⟩
    | cons => simp [sts] at e
  | i :: is, ds, xs, σ, ρ, ρ', F, Q, sta, h, hk, hp, e, q => by
    cases ds with
    | nil => simp [sts] at e
    | cons d ds =>
      simp only [sts] at e
      obtain ⟨x, r, rfl, h1, h2⟩ := h
      obtain ⟨F1, sta1, f1⟩ := sta.bind (i := i) (d := d) (v := x) (g := []) (by rw [hk i List.mem_cons_self]; exact vrep_hB hs h1) nomem nomem (hp i List.mem_cons_self)
      refine ⟨x, r, rfl, tgs_ok hs is sta1 h2 (fun j m => hk j (List.mem_cons_of_mem _ m)) (fun j m => hp j (List.mem_cons_of_mem _ m)) e fun σ' F' st' f' l' g' => q σ' F' st' (fun a z => (f1 a (f' a z)).elim id fun m => by cases m) (by rw [l', List.length_set]) fun j n => ?_⟩
      rw [g' j (fun m => n (List.mem_cons_of_mem _ m)), set_get, if_neg (fun z => n (by rw [z.1]; exact List.mem_cons_self))]
/-- a target is given, its data shared or borrowed -/
theorem tg_ok {s : Kind} (hs : s = .sh ∨ s = .bo) {ks : Nat → Kind} {pin : Nat → Option V} {B H : Hp} {t : Tg} {d : D} {v : V} {σ : L2.St} {ρ ρ' : Env} {F : Nat → List Addr} {Q : L2.St → Hp → Prop} (sta : Sta C ks pin B H σ ρ F)
    (h : hold C.K (hB s B H) d v) (hk : ∀ i ∈ t.names, ks i = s) (hp : ∀ i ∈ t.names, pin i = none) (e : t.put d ρ = some ρ')
    (q : ∀ σ' F', Sta C ks pin B H σ' ρ' F' → (∀ a, FP F' a → FP F a) → σ'.length = σ.length → (∀ j, j ∉ t.names → σ'[j]? = σ[j]?) → Q σ' H) : rdTg C.K t v σ H Q := by
  cases t with
  | nm i =>
    simp only [Tg.put, Option.some.injEq] at e
    subst e
    obtain ⟨F1, sta1, f1⟩ := sta.bind (i := i) (d := d) (v := v) (g := []) (by rw [hk i (List.mem_singleton.mpr rfl)]; exact vrep_hB hs h) nomem nomem (hp i (List.mem_singleton.mpr rfl))
    refine q _ F1 sta1 (fun a z => (f1 a z).elim id fun m => by cases m) (by rw [List.length_set]) fun j n => ?_
    rw [set_get, if_neg (fun z => n (List.mem_singleton.mpr z.1))]
  | tup is =>
    cases d <;> simp only [Tg.put, reduceCtorEq] at e
    obtain ⟨p, xs, rfl, e2, e3⟩ := h
    rcases hB_ext sta.sub p _ e2 nt_tup with e4 | ⟨_, _, z, _⟩
    · have : ∀ (is : List Nat) (ρ : Env) (ds : List D), sts ρ is ds = some ρ' → ds.length = is.length := fun is => by
        induction is with
        | nil => intro ρ ds e; cases ds <;> simp [sts] at e; rfl
        | cons i is ih => intro ρ ds e; cases ds <;> simp [sts] at e; simp [ih _ _ e]
      exact ⟨p, xs, rfl, .of e4, by rw [← holds_length e3]; exact this _ _ _ e, tgs_ok hs is sta e3 hk hp e q⟩
    · cases z
  | lsp is =>
    cases d <;> simp only [Tg.put, reduceCtorEq] at e
    obtain ⟨p, xs, rfl, e2, e3⟩ := h
    rcases hB_ext sta.sub p _ e2 nt_lst with e4 | ⟨_, _, z, _⟩
    · have : ∀ (is : List Nat) (ρ : Env) (ds : List D), sts ρ is ds = some ρ' → ds.length = is.length := fun is => by
        induction is with
        | nil => intro ρ ds e; cases ds <;> simp [sts] at e; rfl
        | cons i is ih => intro ρ ds e; cases ds <;> simp [sts] at e; simp [ih _ _ e]
      exact ⟨p, xs, rfl, .of e4, by rw [← holds_length e3]; exact this _ _ _ e, tgs_ok hs is sta e3 hk hp e q⟩
    · cases z
end
end TW

namespace TW
open PySem L2
section
variable {C : Ctx} {sg : Nat → Sig}
/-- a walk over the data ds -/
structure SrcOk (C : Ctx) (s : Kind) (B H : Hp) (ds : List D) (J : It) (G : Hp → Prop) (Y : Nat → Hp → V → Hp → Prop) (b : Bool) : Prop where
  w : Walk J ds.length G Y
  g1 : ∀ Hx, Up H Hx → G Hx
  g2 : b = true → ∀ Hx, Sub B Hx → G Hx
  it : ∀ i Hx x H', i < ds.length → Y i Hx x H' → H' = Hx ∧ ∃ d, ds[i]? = some d ∧ hold C.K (hB s B H) d x
  xs : ∃ xs : List V, holds C.K (hB s B H) ds xs ∧ ∀ i Hx x H', i < ds.length → Y i Hx x H' → xs[i]? = some x
def FinSrc (C : Ctx) (k : Sk) (ks : Nat → Kind) (pin : Nat → Option V) (σ : L2.St) (B H : Hp) (F : Nat → List Addr) (W : WX) (ka : Kind) (pu : Bool) (r : Res (List D × Env)) (R : It → Hp → Prop) : Prop := match r with
  | .ok (ds, ρ') => ∀ J G Y B' H' F', Step B H (FP F) B' H' (FP F') → Sta C ks pin B' H' σ ρ' F' → (pu = true → Up H H' ∧ F' = F) → SrcOk C (k.src ka) B' H' ds J G Y (k.okS ka) → R J H'
  | .exc c => ∀ H', Xup F H H' → NdefX.TabsN C.T H' → W (.ref (C.cls c)) none σ H'
  | .bad => False
theorem rng_len (a b : Int) : (rng a b 1).length = (b - a).toNat := by
  unfold rng
  rw [if_pos (by decide), List.length_map, List.length_range, Int.ediv_one]
  congr 1; omega
theorem rng_get {a b : Int} {i : Nat} (h : i < (b - a).toNat) : (rng a b 1)[i]? = some (a + i) := by
  unfold rng
  rw [if_pos (by decide), List.getElem?_map, List.getElem?_range (by rw [Int.ediv_one]; omega)]
  simp
theorem isC_of {e : IE} (h : e.isC = true) : ∃ d, e = .cst d := by
  cases e <;> simp only [IE.isC, Bool.false_eq_true] at h
  exact ⟨_, rfl⟩
theorem rng_ok {s : Kind} {B H : Hp} {a b : Int} {ba : Bool} : SrcOk C s B H ((rng a b 1).map .int) (Itr a (b - a).toNat) (fun _ => True) (YFn fun i => .int (a + (i : Nat))) ba where
  w := by
    rw [List.length_map, rng_len]
    exact walk_range
  g1 := fun _ _ => trivial
  g2 := fun _ _ _ => trivial
  it := fun i Hx x H' hi y => by
    rw [List.length_map, rng_len] at hi
    refine ⟨y.1, .int (a + i), by rw [List.getElem?_map, rng_get hi]; rfl, ?_⟩
    rw [y.2]; rfl
  xs := ⟨(rng a b 1).map V.int, holds_ints _, fun i Hx x H' hi y => by
    rw [List.length_map, rng_len] at hi
    rw [y.2, List.getElem?_map, rng_get hi]; rfl⟩
theorem rngC_get {a b c : Int} {i : Nat} (hc : 0 < c) (h : i < (rng a b c).length) : (rng a b c)[i]? = some (a + i * c) := by
  unfold rng at h ⊢
  rw [if_pos hc] at h ⊢
  rw [List.length_map, List.length_range] at h
  rw [List.getElem?_map, List.getElem?_range h] <;> rfl
theorem rngC_ok {s : Kind} {B H : Hp} {a b c : Int} {ba : Bool} (hc : 0 < c) : SrcOk C s B H ((rng a b c).map .int) (Itc a c (rng a b c).length) (fun _ => True) (YFn fun i => .int (a + (i : Nat) * c)) ba where
  w := by
    rw [List.length_map]
    exact walk_rangeC
  g1 := fun _ _ => trivial
  g2 := fun _ _ _ => trivial
  it := fun i Hx x H' hi y => by
    rw [List.length_map] at hi
    refine ⟨y.1, .int (a + i * c), by rw [List.getElem?_map, rngC_get hc hi]; rfl, ?_⟩
    rw [y.2]; rfl
  xs := ⟨(rng a b c).map V.int, holds_ints _, fun i Hx x H' hi y => by
    rw [List.length_map] at hi
    rw [y.2, List.getElem?_map, rngC_get hc hi]; rfl⟩
theorem rgc_ok {m n c : Int} (h1 : -big ≤ n) (h2 : n ≤ lim) (h3 : -1000 ≤ m) (h4 : m ≤ lim) (h5 : 0 < c) (h6 : c ≤ 1000) : RgC m n c (rng m n c).length := by
  have e : ((rng m n c).length : Int) = Builtin.Range.rangeSize m n c := by
    unfold rng Builtin.Range.rangeSize
    rw [if_pos h5, if_pos h5, List.length_map, List.length_range]
    split
    · rename_i q
      have : (n - m + c - 1) / c = (n - m - 1) / c + 1 := by
        rw [show n - m + c - 1 = n - m - 1 + c * 1 by omega, Int.add_mul_ediv_left _ _ (by omega)]
      have p : 0 ≤ (n - m - 1) / c := Int.ediv_nonneg (by omega) (by omega)
      rw [this]; omega
    · rename_i q
      have : (n - m + c - 1) / c ≤ 0 := by
        have z := Int.ediv_lt_of_lt_mul (a := n - m + c - 1) (b := 1) h5 (by omega)
        omega
      omega
  refine ⟨by omega, by omega, ?_, e.symm⟩
  unfold lim at h2 h4
  unfold big at h1
  have p1 : Builtin.Range.rangeSize m n c ≤ n - m + 1 ∨ Builtin.Range.rangeSize m n c = 0 := by
    unfold Builtin.Range.rangeSize
    rw [if_pos h5]
    split
    · refine .inl ?_
      have : (n - m - 1) / c ≤ n - m - 1 := Int.ediv_le_self _ (by omega)
      omega
    · exact .inr rfl
  have p2 : 0 ≤ Builtin.Range.rangeSize m n c := by rw [← e]; omega
  have b2 : (2 : Int) ^ 63 = 9223372036854775808 := by decide
  unfold Builtin.Range.small
  simp only [Builtin.Range.rangeFitsLong, Bool.and_eq_true, Bool.or_eq_true, decide_eq_true_eq, beq_iff_eq, show c > 0 from h5, if_true, b2]
  refine ⟨?_, ?_⟩
  all_goals first
    | omega
    | (refine ⟨?_, ?_⟩ <;> omega)
theorem ints_get {ns : List Int} {i : Nat} {x : V} (h : (ns.map V.int)[i]? = some x) : ∃ n, (ns.map D.int)[i]? = some (.int n) ∧ x = .int n := by
  rw [List.getElem?_map] at h ⊢
  cases e : ns[i]? with
  | none => rw [e] at h; cases h
  | some n => rw [e] at h; cases h; exact ⟨n, rfl, rfl⟩
theorem okS_le {k : Kind} (h : Sk.okS .lst k = true) : k.le .sh = true := by
  cases k <;> simp_all [Sk.okS, Kind.le]
theorem snd_src {k : Sk} {a b c : IE} (ha : SndE C sg a) (hb : SndE C sg b) (hc : SndE C sg c) {nb : Bool} {ks : Nat → Kind} (hnb : nb = true → ∀ j, (ks j).borrowed = false) {pin : Nat → Option V} {W : WX} {B H : Hp} {σ : L2.St} {ρ : Env} {F : Nat → List Addr} {ka kb kc : Kind} {R : It → Hp → Prop}
    (e1 : kE sg nb ks a = some ka) (e2 : kE sg nb ks b = some kb) (e3 : kE sg nb ks c = some kc) (hd : k.dum a b c = true) (np : k.pure = true) (sta : Sta C ks pin B H σ ρ F)
    (h : FinSrc C k ks pin σ B H F W ka (pureE sg a && pureE sg b && pureE sg c) (srcRes k (evE C.Φ a ρ) (evE C.Φ b) (evE C.Φ c)) R) : iSrc C.K k (rdE C a W) (rdE C b W) (rdE C c W) σ H R := by
  cases k with
  | dic i => simp [Sk.pure] at np
  | r3 =>
    refine ha nb ks hnb pin W B H σ ρ F ka _ e1 sta ?_
    cases ev : evE C.Φ a ρ with
    | bad => rw [ev] at h; exact h
    | exc c => rw [ev] at h; exact h
    | ok q =>
      obtain ⟨x, ρ1⟩ := q
      rw [ev] at h
      simp only [srcRes] at h
      intro v B1 H1 F1 f1 st1 sta1 has1 pu1
      refine hb nb ks hnb pin W B1 H1 σ ρ1 F1 kb _ e2 sta1 ?_
      cases ev2 : evE C.Φ b ρ1 with
      | bad => rw [ev2] at h; exact h
      | exc c => rw [ev2] at h; exact fun H' x t => h H' (x.of st1) t
      | ok q =>
        obtain ⟨y, ρ2⟩ := q
        rw [ev2] at h
        simp only at h
        intro v2 B2 H2 F2 f2 st2 sta2 has2 pu2
        refine hc nb ks hnb pin W B2 H2 σ ρ2 F2 kc _ e3 sta2 ?_
        cases ev3 : evE C.Φ c ρ2 with
        | bad => rw [ev3] at h; exact h
        | exc c => rw [ev3] at h; exact fun H' x t => h H' ((x.of st2).of st1) t
        | ok q =>
          obtain ⟨z, ρ3⟩ := q
          rw [ev3] at h
          cases x <;> try exact h.elim
          cases y <;> try exact h.elim
          cases z <;> try exact h.elim
          rename_i m n cc
          intro v3 B3 H3 F3 f3 st3 sta3 has3 pu3
          simp only [srcOf] at h
          split at h
          · rename_i hz
            split at hz <;> simp only [reduceCtorEq, Option.some.injEq] at hz
            rename_i bd
            subst hz
            have g1 := vrep_hold sta1.sub has1.rep
            have g2 := vrep_hold sta2.sub has2.rep
            have g3 := vrep_hold sta3.sub has3.rep
            simp only [hold] at g1 g2 g3
            subst g1; subst g2; subst g3
            refine ⟨m, n, cc, (rng m n cc).length, rfl, rgc_ok bd.2.1 bd.1 bd.2.2.1 bd.2.2.2.1 bd.2.2.2.2.1 bd.2.2.2.2.2, ?_⟩
            exact h _ _ _ B3 H3 F3 (((st1.row st2).row st3).less fun a z => .inl z) sta3 (fun z => by
              simp only [Bool.and_eq_true] at z
              obtain ⟨u1, w1⟩ := pu1 z.1.1
              obtain ⟨u2, w2⟩ := pu2 z.1.2
              obtain ⟨u3, w3⟩ := pu3 z.2
              exact ⟨(u1.trans u2).trans u3, (w3.trans w2).trans w1⟩) (rngC_ok bd.2.2.2.2.1)
          · exact h.elim
  | r2 =>
    obtain ⟨d3, rfl⟩ := isC_of hd
    refine ha nb ks hnb pin W B H σ ρ F ka _ e1 sta ?_
    cases ev : evE C.Φ a ρ with
    | bad => rw [ev] at h; exact h
    | exc c => rw [ev] at h; exact h
    | ok q =>
      obtain ⟨x, ρ1⟩ := q
      rw [ev] at h
      simp only [srcRes] at h
      intro v B1 H1 F1 f1 st1 sta1 has1 pu1
      refine hb nb ks hnb pin W B1 H1 σ ρ1 F1 kb _ e2 sta1 ?_
      cases ev2 : evE C.Φ b ρ1 with
      | bad => rw [ev2] at h; exact h
      | exc c => rw [ev2] at h; exact fun H' x t => h H' (x.of st1) t
      | ok q =>
        obtain ⟨y, ρ2⟩ := q
        rw [ev2] at h
        simp only [evE] at h
        intro v2 B2 H2 F2 f2 st2 sta2 has2 pu2
        cases x <;> try exact h.elim
        cases y <;> try exact h.elim
        rename_i m n
        simp only [srcOf] at h
        split at h
        · rename_i hz
          split at hz <;> simp only [reduceCtorEq, Option.some.injEq] at hz
          rename_i bd
          subst hz
          have g1 := vrep_hold sta1.sub has1.rep
          have g2 := vrep_hold sta2.sub has2.rep
          simp only [hold] at g1 g2
          subst g1; subst g2
          unfold big lim at bd
          refine ⟨m, n, rfl, ⟨by omega, by omega, by omega, by omega⟩, ?_⟩
          exact h _ _ _ B2 H2 F2 ((st1.row st2).less fun a z => .inl z) sta2 (fun z => by
            simp only [Bool.and_eq_true] at z
            obtain ⟨u1, w1⟩ := pu1 z.1.1
            obtain ⟨u2, w2⟩ := pu2 z.1.2
            exact ⟨u1.trans u2, w2.trans w1⟩) rng_ok
        · exact h.elim
  | r1 =>
    obtain ⟨hd1, hd2⟩ := Bool.and_eq_true_iff.mp hd
    obtain ⟨d2, rfl⟩ := isC_of hd1
    obtain ⟨d3, rfl⟩ := isC_of hd2
    refine ha nb ks hnb pin W B H σ ρ F ka _ e1 sta ?_
    cases ev : evE C.Φ a ρ with
    | bad => rw [ev] at h; exact h
    | exc c => rw [ev] at h; exact h
    | ok q =>
      obtain ⟨x, ρ1⟩ := q
      rw [ev] at h
      simp only [srcRes, evE] at h
      intro v B1 H1 F1 f1 st1 sta1 has1 pu1
      cases x <;> try exact h.elim
      rename_i n
      simp only [srcOf] at h
      split at h
      · rename_i hz
        split at hz <;> simp only [reduceCtorEq, Option.some.injEq] at hz
        rename_i bd
        subst hz
        have g1 := vrep_hold sta1.sub has1.rep
        simp only [hold] at g1
        subst g1
        unfold big lim at bd
        refine ⟨n, rfl, by omega, by omega, ?_⟩
        have e : n.toNat = (n - 0).toNat := by rw [Int.sub_zero]
        rw [e]
        exact h _ _ _ B1 H1 F1 (st1.less fun a z => .inl z) sta1 (fun z => by
          simp only [Bool.and_eq_true] at z
          exact pu1 z.1.1) rng_ok
      · exact h.elim
  | str =>
    obtain ⟨hd1, hd2⟩ := Bool.and_eq_true_iff.mp hd
    obtain ⟨d2, rfl⟩ := isC_of hd1
    obtain ⟨d3, rfl⟩ := isC_of hd2
    refine ha nb ks hnb pin W B H σ ρ F ka _ e1 sta ?_
    cases ev : evE C.Φ a ρ with
    | bad => rw [ev] at h; exact h
    | exc c => rw [ev] at h; exact h
    | ok q =>
      obtain ⟨x, ρ1⟩ := q
      rw [ev] at h
      simp only [srcRes, evE] at h
      intro v B1 H1 F1 f1 st1 sta1 has1 pu1
      cases x <;> try exact h.elim
      rename_i s
      simp only [srcOf] at h
      split at h
      · rename_i hz
        split at hz <;> simp only [reduceCtorEq, Option.some.injEq] at hz
        subst hz
        have g1 := vrep_hold sta1.sub has1.rep
        simp only [hold] at g1
        subst g1
        refine ⟨s, rfl, ?_⟩
        have sl : (signs s).length = s.cps.size := by simp [signs, tlS]
        refine h _ _ _ B1 H1 F1 (st1.less fun a z => .inl z) sta1 (fun z => by
          simp only [Bool.and_eq_true] at z
          exact pu1 z.1.1) ⟨by rw [sl]; exact walk_str, fun _ _ => trivial, fun _ _ _ => trivial, fun i Hx x H' hi y => ?_, ?_⟩
        · obtain ⟨e, c, hc, rfl⟩ := y
          refine ⟨e, .str (mkS [c]), ?_, rfl⟩
          unfold signs
          rw [List.getElem?_map]
          have : (tlS s)[i]? = some c := by rw [tlS, Array.getElem?_toList]; exact hc
          rw [this]; rfl
        · refine ⟨(tlS s).map fun c => V.str (mkS [c]), ?_, fun i Hx x H' hi y => ?_⟩
          · unfold signs
            generalize tlS s = l
            induction l with
            | nil => rfl
            | cons c l ih => exact ⟨_, _, rfl, rfl, ih⟩
          · obtain ⟨e, c, hc, rfl⟩ := y
            rw [List.getElem?_map]
            have : (tlS s)[i]? = some c := by rw [tlS, Array.getElem?_toList]; exact hc
            rw [this]; rfl
      · exact h.elim
  | lst =>
    obtain ⟨hd1, hd2⟩ := Bool.and_eq_true_iff.mp hd
    obtain ⟨d2, rfl⟩ := isC_of hd1
    obtain ⟨d3, rfl⟩ := isC_of hd2
    refine ha nb ks hnb pin W B H σ ρ F ka _ e1 sta ?_
    cases ev : evE C.Φ a ρ with
    | bad => rw [ev] at h; exact h
    | exc c => rw [ev] at h; exact h
    | ok q =>
      obtain ⟨x, ρ1⟩ := q
      rw [ev] at h
      simp only [srcRes, evE] at h
      intro v B1 H1 F1 f1 st1 sta1 has1 pu1
      have stJ := st1.join (g := f1) has1.nB fun _ m => m
      have staJ := sta1.absorb has1.at has1.dj has1.nB
      obtain ⟨rb, rn⟩ := has1.read sta1.sub
      have hB_join : ∀ {s : Kind}, s ≠ .bo → hB s (join B1 H1 f1) H1 = join B1 H1 f1 := fun n => by unfold hB; rw [if_neg n]
      have pu : (pureE sg a && pureE sg (.cst d2) && pureE sg (.cst d3)) = true → Up H H1 ∧ F1 = F := fun z => by
        simp only [Bool.and_eq_true] at z
        exact pu1 z.1.1
      cases x with
      | lst ds =>
        simp only [srcOf] at h
        have key : ∃ p xs, v = .ref p ∧ H1 p = some (.lst xs) ∧ holds C.K (hB (Sk.src .lst ka) (join B1 H1 f1) H1) ds xs := by
          by_cases eb : ka = .bo
          · subst eb
            obtain ⟨p, xs, w1, w2, w3⟩ := rb rfl
            exact ⟨p, xs, w1, w2, holds_mono (.of fun a o e _ => (vis_some e).2.1) _ _ w3⟩
          · obtain ⟨p, xs, w1, w2, w3⟩ := rn eb
            have : Sk.src .lst ka ≠ .bo := by cases ka <;> simp_all [Sk.src, Kind.kid]
            exact ⟨p, xs, w1, w2, by rw [hB_join this]; exact w3⟩
        obtain ⟨p, xs, rfl, t1, t2⟩ := key
        refine ⟨p, rfl, ⟨xs, .of t1⟩, h _ _ _ _ H1 F1 stJ staJ pu ⟨by rw [holds_length t2]; exact walk_list (K := C.K) (a := p) (xs := xs), fun Hx e => e.ext.sq (.of t1), fun l Hx e => ?_, fun i Hx x H' hi y => ?_, ?_⟩⟩
        · have o := has1.open_ (okS_le l)
          obtain ⟨p', xs', w1, w2, _⟩ := o
          cases w1
          have w4 := (staJ.sub _ _ w2).1
          rw [t1] at w4; cases w4
          exact .of (e _ _ w2).1
        · obtain ⟨d, z1, z2⟩ := holds_get' t2 y.2
          exact ⟨y.1, d, z1, z2⟩
        · exact ⟨xs, t2, fun i Hx x H' _ y => y.2⟩
      | scr ns =>
        simp only [srcOf] at h
        have key : ∃ p, v = .ref p ∧ SqL C.K H1 p (ns.map V.int) := by
          by_cases eb : ka = .bo
          · exact rb eb
          · exact rn eb
        obtain ⟨p, rfl, t1⟩ := key
        refine ⟨p, rfl, ⟨_, t1⟩, h _ _ (YAt (ns.map V.int)) _ H1 F1 stJ staJ pu ⟨?_, fun Hx e => e.ext.sq t1, fun l Hx e => ?_, fun i Hx x H' hi y => ?_, ?_⟩⟩
        · have := walk_list (K := C.K) (a := p) (xs := ns.map V.int)
          rw [List.length_map] at this ⊢
          exact this
        · have o := has1.open_ (okS_le l)
          obtain ⟨p', w1, w2⟩ := o
          cases w1
          exact e.ext.sq w2
        · obtain ⟨n, z1, rfl⟩ := ints_get y.2
          exact ⟨y.1, _, z1, rfl⟩
        · exact ⟨_, holds_ints ns, fun i Hx x H' _ y => y.2⟩
      | _ => exact h.elim
end
end TW

namespace TW
open PySem L2
section
variable {C : Ctx} {sg : Nat → Sig}
/-- the frame without some slots' own things -/
def outF (F : Nat → List Addr) (is : List Nat) : Nat → List Addr := fun j => if j ∈ is then [] else F j
theorem outF_in {F : Nat → List Addr} {is : List Nat} {j : Nat} (h : j ∈ is) : outF F is j = [] := if_pos h
theorem outF_out {F : Nat → List Addr} {is : List Nat} {j : Nat} (h : j ∉ is) : outF F is j = F j := if_neg h
theorem outF_fp {F : Nat → List Addr} {is : List Nat} {a : Addr} (h : FP (outF F is) a) : FP F a := by
  obtain ⟨j, m⟩ := h
  by_cases e : j ∈ is
  · rw [outF_in e] at m; cases m
  · rw [outF_out e] at m; exact ⟨j, m⟩
theorem wipeE_length (ρ : Env) : ∀ is, (wipeE ρ is).length = ρ.length
  | [] => rfl
  | i :: is => by simp only [wipeE, st_length, wipeE_length ρ is]
theorem wipeE_in {ρ : Env} {j : Nat} : ∀ {is : List Nat}, j ∈ is → gt (wipeE ρ is) j = none
  | [], h => by cases h
  | i :: is, h => by
    simp only [wipeE, gt_st]
    by_cases e : j = i
    · by_cases l : i < (wipeE ρ is).length
      · rw [if_pos ⟨e, l⟩]
      · rw [if_neg (fun z => l z.2)]
        cases q : gt (wipeE ρ is) j with
        | none => rfl
        | some d => exact absurd (e ▸ gt_lt q) l
    · rw [if_neg (fun z => e z.1)]
      exact wipeE_in ((List.mem_cons.mp h).resolve_left e)
theorem wipeE_out {ρ : Env} {j : Nat} : ∀ {is : List Nat}, j ∉ is → gt (wipeE ρ is) j = gt ρ j
  | [], _ => rfl
  | i :: is, h => by
    have e : j ≠ i := fun z => h (by rw [z]; exact List.mem_cons_self)
    simp only [wipeE, gt_st]
    rw [if_neg (fun z => e z.1)]
    exact wipeE_out fun m => h (List.mem_cons_of_mem _ m)
theorem wipe_in {σ : L2.St} {j : Nat} : ∀ {is : List Nat}, j ∈ is → (wipe σ is)[j]? = (σ[j]?).map fun _ => none
  | [], h => by cases h
  | i :: is, h => by
    unfold wipe
    rw [set_get]
    by_cases e : j = i
    · by_cases l : i < (wipe σ is).length
      · rw [if_pos ⟨e, l⟩]
        rw [wipe_length] at l
        rw [List.getElem?_eq_getElem (by omega)]; rfl
      · rw [if_neg (fun z => l z.2), List.getElem?_eq_none (by omega)]
        rw [wipe_length] at l
        rw [List.getElem?_eq_none (by omega)]; rfl
    · rw [if_neg (fun z => e z.1)]
      exact wipe_in ((List.mem_cons.mp h).resolve_left e)
/-- only the block's names were touched -/
theorem wipe_back {σ σ' : L2.St} {is : List Nat} (hl : σ'.length = (wipe σ is).length) (h : ∀ j, j ∉ is → σ'[j]? = (wipe σ is)[j]?) : wipe σ' is = wipe σ is := by
  apply List.ext_getElem?
  intro j
  by_cases m : j ∈ is
  · rw [wipe_in m, wipe_in m]
    rw [wipe_length] at hl
    by_cases l : j < σ.length
    · rw [List.getElem?_eq_getElem l, List.getElem?_eq_getElem (by omega)]; rfl
    · rw [List.getElem?_eq_none (by omega), List.getElem?_eq_none (by omega)]
  · rw [L2.wipe_out m, h j m]
theorem Sta.wiped {ks : Nat → Kind} {pin : Nat → Option V} {B H : Hp} {σ : L2.St} {ρ : Env} {F : Nat → List Addr} (sta : Sta C ks pin B H σ ρ F) (is : List Nat) (s : Kind) : Sta C (setK ks is s) (fun _ => none) B H (wipe σ is) (wipeE ρ is) (outF F is) where
  len := by rw [wipeE_length, wipe_length]; exact sta.len
  sub := sta.sub
  tab := sta.tab
  rep := fun j d e => by
    by_cases m : j ∈ is
    · rw [wipeE_in m] at e; cases e
    · rw [wipeE_out m] at e
      rw [L2.wipe_out m, outF_out m]
      unfold setK
      rw [if_neg m]
      exact sta.rep j d e
  nf := fun j e => by
    by_cases m : j ∈ is
    · exact outF_in m
    · rw [wipeE_out m] at e; rw [outF_out m]; exact sta.nf j e
  dj := fun j k a m m2 => by
    by_cases n : j ∈ is
    · rw [outF_in n] at m; cases m
    · by_cases n2 : k ∈ is
      · rw [outF_in n2] at m2; cases m2
      · rw [outF_out n] at m; rw [outF_out n2] at m2; exact sta.dj j k a m m2
  nB := fun j a m => by
    by_cases n : j ∈ is
    · rw [outF_in n] at m; cases m
    · rw [outF_out n] at m; exact sta.nB j a m
  pin := fun _ _ z => by cases z
theorem Step.row0 {B H B1 H1 B2 H2 : Hp} {P1 P2 : Addr → Prop} (s : Step B H Nil B1 H1 P1) (t : Step B1 H1 Nil B2 H2 P2) : Step B H Nil B2 H2 (fun a => P1 a ∨ P2 a) where
  ex := fun a o e => t.ex a o (s.ex a o e)
  up := fun a o e n z => t.up a o (s.up a o e n z) (fun q => q) z
  th := fun a h => t.th a (s.th a h)
  new := fun a h => h.elim (s.new a) fun q => (t.new a q).imp (fun z => z) fun r => by
    cases e : H a with
    | none => rfl
    | some o => exact absurd r (s.th a (by rw [e]; simp))
  newB := fun a h => by
    rcases t.newB a h with q | q | q
    · exact s.newB a q
    · exact q.elim
    · refine .inr (.inr ?_)
      cases r : H a with
      | none => rfl
      | some o => exact absurd q (s.th a (by rw [r]; simp))
/-- what a pure reckoning does to the heap -/
theorem Step.pure_ {ks : Nat → Kind} {pin : Nat → Option V} {B H B1 H1 : Hp} {σ : L2.St} {ρ1 : Env} {F F1 : Nat → List Addr} {f : List Addr} {k : Kind} {d : D} {v : V} (st : Step B H (FP F) B1 H1 (fun a => FP F1 a ∨ a ∈ f)) (sta1 : Sta C ks pin B1 H1 σ ρ1 F1)
    (has : Has C B1 H1 F1 k d v f) (up : Up H H1 ∧ F1 = F) : Step B H Nil B1 H1 (fun a => a ∈ f) where
  ex := st.ex
  up := fun a o e _ z => up.1 a o e z
  th := st.th
  new := fun a m => (st.new a (.inr m)).elim (fun z => absurd (up.2 ▸ z) (has.dj a m)) .inr
  newB := fun a h => by
    rcases st.newB a h with q | q | q
    · exact .inl q
    · rw [← up.2] at q
      obtain ⟨j, m⟩ := q
      exact absurd (sta1.nB j a m) h
    · exact .inr (.inr q)
theorem tabs_upd {H : Hp} {p : Addr} {o ob : HO} (t : NdefX.TabsN C.T H) (h1 : H p = some ob) (h2 : Lay ob ∨ ∃ u w, ob = .frz u w) : NdefX.TabsN C.T (upd H p o) := by
  intro q hq
  obtain ⟨ps, e1, e2, e3⟩ := t q hq
  have ne : ∀ b ps, H b = some (.tbl ps) → b ≠ p := fun b ps e z => by
    rw [z, h1] at e
    cases e
    rcases h2 with h2 | ⟨_, _, h2⟩
    · exact h2.nt ps rfl
    · cases h2
  refine ⟨ps, put_up e1 (ne _ _ e1), e2, fun pos cv hc => ?_⟩
  obtain ⟨c, e4, e5⟩ := e3 pos cv hc
  refine ⟨c, e4, put_up e5 fun z => ?_⟩
  rw [z, h1] at e5
  cases e5
  rcases h2 with (⟨_, e⟩ | ⟨_, e⟩ | ⟨_, e⟩ | ⟨_, e⟩) | ⟨_, _, e⟩ <;> cases e
/-- what is gathered so far -/
def Acc (C : Ctx) (rk : Kind) (B H : Hp) (ds : List D) (acc : List V) (g : List Addr) : Prop := match rk with
  | .deep => owns H ds acc g
  | _ => holds C.K B ds acc ∧ g = []
theorem Acc.step {rk : Kind} {B H B1 H1 : Hp} {ds : List D} {acc : List V} {g : List Addr} {P : Addr → Prop} (h : Acc C rk B H ds acc g) (s : Step B H Nil B1 H1 P) : Acc C rk B1 H1 ds acc g := by
  have e : Ext B B1 := .of fun a o q _ => s.ex a o q
  cases rk <;> simp only [Acc] at h ⊢
  case deep => exact owns_keep _ _ _ h fun a m o q l => s.up a o q (fun z => z) l.nt
  all_goals exact ⟨holds_mono e _ _ h.1, h.2⟩
theorem Acc.at {rk : Kind} {B H : Hp} {ds : List D} {acc : List V} {g : List Addr} (h : Acc C rk B H ds acc g) : ∀ a ∈ g, ∃ o, H a = some o ∧ Lay o := by
  cases rk <;> simp only [Acc] at h
  case deep => exact owns_at _ _ _ h
  all_goals (intro a m; rw [h.2] at m; cases m)
theorem Acc.length {rk : Kind} {B H : Hp} {ds : List D} {acc : List V} {g : List Addr} (h : Acc C rk B H ds acc g) : ds.length = acc.length := by
  cases rk <;> simp only [Acc] at h
  case deep => exact owns_length h
  all_goals exact holds_length h.1
theorem owns_append {H : Hp} : ∀ {ds es : List D} {xs ys : List V} {f g : List Addr}, owns H ds xs f → owns H es ys g → (∀ a ∈ f, a ∉ g) → owns H (ds ++ es) (xs ++ ys) (f ++ g)
  | [], _, _, _, _, _, h, k, _ => by obtain ⟨rfl, rfl⟩ := h; exact k
  | d :: ds, es, _, ys, _, g, h, k, n => by
    obtain ⟨x, r, g1, g2, rfl, rfl, h1, h2, h3⟩ := h
    refine ⟨x, r ++ ys, g1, g2 ++ g, rfl, by rw [List.append_assoc], h1, owns_append h2 k fun a m => n a (List.mem_append_right _ m), fun a m z => ?_⟩
    rcases List.mem_append.mp z with z | z
    · exact h3 a m z
    · exact n a (List.mem_append_left _ m) z
theorem owns_one {H : Hp} {d : D} {v : V} {f : List Addr} (h : own H d v f) : owns H [d] [v] f := ⟨v, [], f, [], rfl, by simp, h, ⟨rfl, rfl⟩, fun _ _ z => by cases z⟩
/-- one more -/
theorem Acc.snoc {rk k' : Kind} {B H : Hp} {ds : List D} {acc : List V} {g f : List Addr} {d : D} {v : V} (hk : (rk = .deep ∧ k' = .deep) ∨ (rk = .top ∧ k' = .sh)) (h : Acc C rk B H ds acc g) (hv : vrep C.K k' B H d v f) (n : ∀ a ∈ g, a ∉ f) : Acc C rk B H (ds ++ [d]) (acc ++ [v]) (g ++ f) := by
  rcases hk with ⟨rfl, rfl⟩ | ⟨rfl, rfl⟩
  · exact owns_append h (owns_one hv) n
  · obtain ⟨h1, rfl⟩ := h
    obtain ⟨h2, rfl⟩ := hv
    exact ⟨holds_append h1 (holds_one h2), rfl⟩
theorem Acc.put {rk : Kind} {B H : Hp} {ds : List D} {acc : List V} {g : List Addr} {p : Addr} {o : HO} (h : Acc C rk B H ds acc g) (n : p ∉ g) : Acc C rk B (upd H p o) ds acc g := by
  cases rk <;> simp only [Acc] at h ⊢
  case deep => exact owns_keep _ _ _ h fun a m u q l => put_up q fun z => n (z ▸ m)
  all_goals exact h
/-- between a comprehension's turns -/
structure Turn (C : Ctx) (rk : Kind) (B0 H0 : Hp) (p : Addr) (n : Nat) (H : Hp) (B : Hp) (ds : List D) (acc : List V) (g : List Addr) : Prop where
  st : Step B0 H0 Nil B H (fun a => a ∈ g ∨ a = p)
  sub : Sub B H
  tab : NdefX.TabsN C.T H
  bp : B p = none
  hp : H p = some (.lst acc)
  le : acc.length ≤ n
  acc : Acc C rk B H ds acc g
  g : ∀ a ∈ g, a ≠ p ∧ B a = none
theorem Turn.step {rk : Kind} {B0 H0 B1 H1 : Hp} {p : Addr} {n : Nat} {H : Hp} {B : Hp} {ds : List D} {acc : List V} {g f : List Addr} (t : Turn C rk B0 H0 p n H B ds acc g) (s : Step B H Nil B1 H1 (fun a => a ∈ f)) (sub : Sub B1 H1) (tab : NdefX.TabsN C.T H1) : Turn C rk B0 H0 p n H1 B1 ds acc g where
  st := (t.st.row0 s).less fun a z => .inl z
  sub := sub
  tab := tab
  bp := by
    cases e : B1 p with
    | none => rfl
    | some o =>
      rcases s.newB p (by rw [e]; simp) with q | q | q
      · exact absurd t.bp q
      · exact q.elim
      · rw [t.hp] at q; cases q
  hp := s.up p _ t.hp (fun z => z) nt_lst
  le := t.le
  acc := t.acc.step s
  g := fun a m => ⟨(t.g a m).1, by
    cases e : B1 a with
    | none => rfl
    | some o =>
      obtain ⟨o', h', _⟩ := t.acc.at a m
      rcases s.newB a (by rw [e]; simp) with q | q | q
      · exact absurd (t.g a m).2 q
      · exact q.elim
      · rw [h'] at q; cases q⟩
theorem Turn.more {rk : Kind} {B0 H0 : Hp} {p : Addr} {n : Nat} {H : Hp} {B : Hp} {ds : List D} {acc : List V} {g : List Addr} (t : Turn C rk B0 H0 p n H B ds acc g) : Turn C rk B0 H0 p (n + 1) H B ds acc g :=
  ⟨t.st, t.sub, t.tab, t.bp, t.hp, Nat.le_succ_of_le t.le, t.acc, t.g⟩
/-- an item behind the others -/
theorem Turn.snoc {rk k' : Kind} {B0 H0 : Hp} {p : Addr} {n : Nat} {H : Hp} {B B1 H1 : Hp} {ds : List D} {acc : List V} {g f : List Addr} {d : D} {v : V} (hk : (rk = .deep ∧ k' = .deep) ∨ (rk = .top ∧ k' = .sh)) (hp0 : H0 p = none)
    (t : Turn C rk B0 H0 p n H B ds acc g) (s : Step B H Nil B1 H1 (fun a => a ∈ f)) (sub : Sub B1 H1) (tab : NdefX.TabsN C.T H1) (hv : vrep C.K k' B1 H1 d v f) (nB : ∀ a ∈ f, B1 a = none) :
    Turn C rk B0 H0 p (n + 1) (upd H1 p (.lst (acc ++ [v]))) B1 (ds ++ [d]) (acc ++ [v]) (g ++ f) := by
  have t1 := t.step s sub tab
  have nf : ∀ a ∈ f, H a = none := fun a m => (s.new a m).elim (fun z => z.elim) fun z => z
  have pf : p ∉ f := fun m => by
    have := nf p m
    rw [t.hp] at this; cases this
  have pg : p ∉ g := fun m => (t.g p m).1 rfl
  have gf : ∀ a ∈ g, a ∉ f := fun a m z => by
    obtain ⟨o, e, _⟩ := t.acc.at a m
    rw [nf a z] at e; cases e
  refine ⟨⟨t1.st.ex, fun a o e n z => ?_, fun a h => ?_, fun a h => ?_, t1.st.newB⟩, fun a o e => ?_, tabs_upd tab t1.hp (.inl (.inl ⟨_, rfl⟩)), t1.bp, upd_same, ?_, ?_, fun a m => ?_⟩
  · exact put_up (t1.st.up a o e n z) fun q => by rw [q, hp0] at e; cases e
  · by_cases e : a = p
    · rw [e, upd_same]; simp
    · rw [upd_ne e]; exact t1.st.th a h
  · rcases h with h | h
    · rcases List.mem_append.mp h with h | h
      · exact t.st.new a (.inl h)
      · refine .inr ?_
        cases e : H0 a with
        | none => rfl
        | some o => exact absurd (nf a h) (t.st.th a (by rw [e]; simp))
    · exact t.st.new a (.inr h)
  · obtain ⟨h1, h2⟩ := sub a o e
    exact ⟨put_up h1 (fun q => by rw [q, t1.bp] at e; cases e), h2⟩
  · rw [List.length_append]; have := t.le; simp; omega
  · exact (t1.acc.snoc hk hv gf).put fun m => (List.mem_append.mp m).elim pg pf
  · rcases List.mem_append.mp m with m | m
    · exact t1.g a m
    · exact ⟨fun z => pf (z ▸ m), nB a m⟩
end
end TW

namespace TW
open PySem L2
section
variable {C : Ctx} {sg : Nat → Sig}
theorem lcK_of {ke rk : Kind} (h : lcK ke = some rk) : ∃ k2, ke.le k2 = true ∧ ((rk = .deep ∧ k2 = .deep) ∨ (rk = .top ∧ k2 = .sh)) := by
  cases ke <;> simp only [lcK, reduceCtorEq, Option.some.injEq] at h <;> subst h
  · exact ⟨.deep, rfl, .inl ⟨rfl, rfl⟩⟩
  · exact ⟨.sh, rfl, .inr ⟨rfl, rfl⟩⟩
  · exact ⟨.sh, rfl, .inr ⟨rfl, rfl⟩⟩
  · exact ⟨.deep, rfl, .inl ⟨rfl, rfl⟩⟩
/-- a comprehension's loop -/
theorem lc_loop {t : Tg} {test elt : IE} (ht : SndE C sg test) (he : SndE C sg elt) {ks : Nat → Kind} {pin : Nat → Option V} {B H : Hp} {σ : L2.St} {ρ : Env} {F : Nat → List Addr} {s kt ke rk : Kind} {ds rs : List D} {J : It} {G : Hp → Prop} {Y : Nat → Hp → V → Hp → Prop} {ba : Bool} {p : Addr} {Qd : Hp → Prop}
    (hs : s = .sh ∨ s = .bo) (hkt : kE sg false (setK ks t.names s) test = some kt) (hke : kE sg false (setK ks t.names s) elt = some ke) (pt : pureE sg test = true) (pe : pureE sg elt = true) (sta : Sta C ks pin B H σ ρ F)
    (so : SrcOk C s B H ds J G Y ba) (hlim : ds.length ≤ lim) (hl : lcGo t.put (evE C.Φ test) (evE C.Φ elt) ds (wipeE ρ t.names) = .ok rs) (hrk : lcK ke = some rk) (hp : H p = none)
    (hq : ∀ B' H' acc g, Turn C rk B H p ds.length H' B' rs acc g → Qd H') :
    ∃ W : Nat → Nat → Hp → Prop, (∃ m, W 0 m (upd H p (.lst []))) ∧ ∀ i m H, W i m H →
      (J.stop i H ∧ Qd H) ∨ (J.go i H ∧ ∃ Nx : Hp → Prop, (∀ H', Nx H' → ∃ m', m' < m ∧ W (i + 1) m' H') ∧ ∀ x H', J.yld i H x H' → rdTg C.K t x (wipe σ t.names) H' fun σ2 H2 => wipe σ2 t.names = wipe σ t.names ∧ tB (rdE C test Wno) σ2 H2 fun b H3 =>
        if b = true then rdE C elt Wno σ2 H3 fun y H4 => ∃ acc, H4 p = some (.lst acc) ∧ acc.length < sizeLine ∧ Nx (upd H4 p (.lst (acc ++ [y]))) else Nx H3) := by
  obtain ⟨k2, kl, kk⟩ := lcK_of hrk
  refine lc_it so.w (fun i H' => ∃ B' done acc g rest, lcGo t.put (evE C.Φ test) (evE C.Φ elt) (ds.drop i) (wipeE ρ t.names) = .ok rest ∧ rs = done ++ rest ∧ Turn C rk B H p i H' B' done acc g) ?_ ?_ ?_ ?_
  · refine ⟨B, [], [], [], rs, hl, rfl, ⟨⟨fun _ _ e => e, fun a o e _ _ => upd_up hp a o e, fun a h => ?_, fun a z => z.elim (fun m => by cases m) fun e => .inr (by rw [e]; exact hp), fun _ h => .inl h⟩, fun a o e => ⟨upd_up hp a o (sta.sub a o e).1, (sta.sub a o e).2⟩, sta.tab.ext (upd_up hp), sta.freeB hp, upd_same, Nat.le_refl _, ?_, nomem⟩⟩
    · by_cases e : a = p
      · rw [e, upd_same]; simp
      · rw [upd_ne e]; exact h
    · rcases kk with ⟨rfl, _⟩ | ⟨rfl, _⟩ <;> exact ⟨rfl, rfl⟩
  · rintro i H' hi ⟨B', done, acc, g, rest, _, _, t'⟩
    exact so.g1 H' fun a o e n => t'.st.up a o e (fun z => z) n
  · rintro i x H1 H1' hi ⟨B1, done, acc, g, rest, hr, ers, t1⟩ y
    obtain ⟨rfl, d, hd, hx⟩ := so.it i _ x _ hi y
    have up1 : Up H H1' := fun a o e n => t1.st.up a o e (fun z => z) n
    have hx1 : hold C.K (hB s B1 H1') d x := by
      refine hold_mono ?_ _ _ hx
      rcases hs with rfl | rfl
      · exact .of fun a o e _ => t1.st.ex a o e
      · exact up1.ext
    have edr : ds.drop i = d :: ds.drop (i + 1) := by
      rw [List.drop_eq_getElem_cons hi]
      rw [List.getElem?_eq_getElem hi] at hd
      rw [Option.some.inj hd]
    rw [edr] at hr
    simp only [lcGo] at hr
    cases ep : t.put d (wipeE ρ t.names) with
    | none => rw [ep] at hr; cases hr
    | some ρ1 =>
    rw [ep] at hr
    simp only at hr
    have sta1 := (sta.wiped t.names s).step t1.st t1.sub t1.tab
    refine tg_ok hs sta1 hx1 (fun j m => by unfold setK; rw [if_pos m]) (fun _ _ => rfl) ep fun σ2 F2 sta2 f2 l2 g2 => ⟨wipe_back l2 g2, ?_⟩
    refine ht false _ (fun z => by cases z) _ Wno B1 H1' σ2 ρ1 F2 kt _ hkt sta2 ?_
    cases et : evE C.Φ test ρ1 with
    | bad => rw [et] at hr; cases hr
    | exc c => rw [et] at hr; cases hr
    | ok q =>
    obtain ⟨b, ρ2⟩ := q
    rw [et] at hr
    intro v3 B3 H3 F3 f3 st3 sta3 has3 pu3
    have t3 := t1.step (st3.pure_ sta3 has3 (pu3 pt)) sta3.sub sta3.tab
    have gb := vrep_hold sta3.sub has3.rep
    cases b with
    | bl b =>
      simp only [hold] at gb
      refine ⟨b, gb, ?_⟩
      cases b with
      | false =>
        rw [if_neg (by simp)]
        simp only at hr
        exact ⟨B3, done, acc, g, rest, hr, ers, t3.more⟩
      | true =>
        rw [if_pos rfl]
        simp only at hr
        refine he false _ (fun z => by cases z) _ Wno B3 H3 σ2 ρ2 F3 ke _ hke sta3 ?_
        cases ee : evE C.Φ elt ρ2 with
        | bad => rw [ee] at hr; cases hr
        | exc c => rw [ee] at hr; cases hr
        | ok q =>
        obtain ⟨w, ρ3⟩ := q
        rw [ee] at hr
        simp only at hr
        cases el : lcGo t.put (evE C.Φ test) (evE C.Φ elt) (ds.drop (i + 1)) (wipeE ρ t.names) with
        | bad => rw [el] at hr; cases hr
        | exc c => rw [el] at hr; cases hr
        | ok r =>
        rw [el] at hr
        simp only [Res.ok.injEq] at hr
        subst hr
        refine Post.le (k' := k2) ?_ kl
        intro v4 B4 H4 F4 f4 st4 sta4 has4 pu4
        have t4 := t3.snoc kk hp (st4.pure_ sta4 has4 (pu4 pe)) sta4.sub sta4.tab has4.rep has4.nB
        have t34 := t3.step (st4.pure_ sta4 has4 (pu4 pe)) sta4.sub sta4.tab
        refine ⟨acc, t34.hp, Nat.lt_of_le_of_lt t3.le (Nat.lt_of_lt_of_le hi (Nat.le_trans hlim (by decide))), B4, done ++ [w], acc ++ [v4], g ++ f4, r, rfl, by rw [ers, List.append_assoc]; rfl, t4⟩
    | _ => exact absurd hr (by simp)
  · rintro H' ⟨B', done, acc, g, rest, hr, ers, t'⟩
    rw [List.drop_length] at hr
    simp only [lcGo, Res.ok.injEq] at hr
    subst hr
    rw [List.append_nil] at ers
    subst ers
    exact hq B' H' acc g t'
/-- what a comprehension gives -/
theorem Turn.rep {rk : Kind} {B0 H0 : Hp} {p : Addr} {n : Nat} {H : Hp} {B : Hp} {ds : List D} {acc : List V} {g : List Addr} (hk : rk = .deep ∨ rk = .top) (t : Turn C rk B0 H0 p n H B ds acc g) : ∃ f, (∀ a, a ∈ f → a ∈ g ∨ a = p) ∧ (∀ a ∈ f, B a = none) ∧ vrep C.K rk B H (.lst ds) (.ref p) f := by
  rcases hk with rfl | rfl
  · refine ⟨p :: g, fun a m => (List.mem_cons.mp m).symm, fun a m => (List.mem_cons.mp m).elim (fun e => by rw [e]; exact t.bp) fun m => (t.g a m).2, p, acc, g, rfl, rfl, t.hp, fun m => (t.g p m).1 rfl, t.acc⟩
  · exact ⟨[p], fun a m => .inr (List.mem_singleton.mp m), fun a m => by rw [List.mem_singleton.mp m]; exact t.bp, .inr ⟨p, rfl, rfl, acc, t.hp, t.acc.1⟩⟩
/-! ### a dict is walked: it is locked -/
theorem Sta.lock {ks : Nat → Kind} {pin : Nat → Option V} {B H : Hp} {σ : L2.St} {ρ : Env} {F : Nat → List Addr} (sta : Sta C ks pin B H σ ρ F) (hnb : ∀ j, (ks j).borrowed = false) {i : Nat} {kd : List (Int × D)} (hk : ks i = .top) (e0 : gt ρ i = some (.dic kd)) :
    ∃ p kvs, σ[i]? = some (some (.ref p)) ∧ H p = some (.dK kvs) ∧ holdK C.K B kd kvs ∧ p ∈ F i ∧ B p = none ∧ ∀ od, Sta C (setK ks [i] .sh) pin (upd B p (.frz od (.dK kvs))) (upd H p (.frz od (.dK kvs))) σ ρ (outF F [i]) := by
  obtain ⟨v, hv, r⟩ := sta.rep i _ e0
  rw [hk] at r
  rcases r with r | ⟨p, rfl, ef, kvs, t1, t2⟩
  · simp [scV] at r
  have mp : p ∈ F i := by rw [ef]; exact List.mem_singleton.mpr rfl
  have bp := sta.nB i p mp
  have eB : ∀ {o : HO} (a : Addr) (u : HO), B a = some u → upd B p o a = some u := fun a u e => by rw [upd_ne (fun z => by rw [z, bp] at e; cases e)]; exact e
  refine ⟨p, kvs, hv, t1, t2, mp, bp, fun od => ⟨sta.len, fun a o e => ?_, tabs_upd sta.tab t1 (.inl (.inr (.inr (.inl ⟨_, rfl⟩)))), fun j d ej => ?_, fun j ej => ?_, fun j k a m m2 => ?_, fun j a m => ?_, sta.pin⟩⟩
  · by_cases n : a = p
    · subst n
      rw [upd_same] at e ⊢
      cases e
      exact ⟨rfl, nt_frz⟩
    · rw [upd_ne n] at e ⊢
      exact sta.sub a o e
  · obtain ⟨w, w1, w2⟩ := sta.rep j d ej
    refine ⟨w, w1, ?_⟩
    by_cases n : j = i
    · subst n
      have : setK ks [j] .sh j = .sh := if_pos (List.mem_singleton.mpr rfl)
      rw [this, outF_in (List.mem_singleton.mpr rfl)]
      rw [e0] at ej
      cases ej
      rw [hv] at w1
      cases w1
      exact ⟨⟨p, kvs, rfl, .inr ⟨od, upd_same⟩, holdK_mono (.of fun a o e _ => eB a o e) _ _ t2⟩, rfl⟩
    · have nm : j ∉ [i] := fun m => n (List.mem_singleton.mp m)
      have : setK ks [i] .sh j = ks j := if_neg nm
      rw [this, outF_out nm]
      have np : ∀ a ∈ F j, a ≠ p := fun a m z => n (sta.dj j i p (z ▸ m) mp)
      have nbj := hnb j
      cases q : ks j <;> rw [q] at w2 nbj <;> simp only [vrep] at w2 ⊢
      · exact w2
      · exact ⟨hold_mono (.of fun a o e _ => eB a o e) _ _ w2.1, w2.2⟩
      · rcases w2 with w2 | ⟨r, r1, r2, r3⟩
        · exact .inl w2
        · exact .inr ⟨r, r1, r2, topAt_keep r3 (.of fun a o e _ => eB a o e) fun u e _ => put_up e (np r (by rw [r2]; exact List.mem_singleton.mpr rfl))⟩
      · exact own_keep d w (F j) w2 fun a m u e _ => put_up e (np a m)
      · cases nbj
      · cases nbj
  · by_cases n : j ∈ [i]
    · exact outF_in n
    · rw [outF_out n]; exact sta.nf j ej
  · by_cases n : j ∈ [i]
    · rw [outF_in n] at m; cases m
    · by_cases n2 : k ∈ [i]
      · rw [outF_in n2] at m2; cases m2
      · rw [outF_out n] at m; rw [outF_out n2] at m2; exact sta.dj j k a m m2
  · by_cases n : j ∈ [i]
    · rw [outF_in n] at m; cases m
    · rw [outF_out n] at m
      rw [upd_ne (fun z => n (List.mem_singleton.mpr (sta.dj j i a m (by rw [z]; exact mp))))]
      exact sta.nB j a m
theorem unlock_ext {B : Hp} {p : Addr} {od : Obj} {kvs : List (Key × V)} (h : B p = some (.frz od (.dK kvs))) : Ext B (upd B p (.dK kvs)) := fun a o e n => by
  by_cases z : a = p
  · subst z
    rw [h] at e
    cases e
    exact .inr ⟨od, kvs, rfl, upd_same⟩
  · exact .inl (put_up e z)
theorem Sta.unlock {ks : Nat → Kind} {pin : Nat → Option V} {B H : Hp} {σ : L2.St} {ρ : Env} {F : Nat → List Addr} {i : Nat} {p : Addr} {od : Obj} {kvs : List (Key × V)} (sta : Sta C (setK ks [i] .sh) pin B H σ ρ F) (hnb : ∀ j, (ks j).borrowed = false)
    (hb : B p = some (.frz od (.dK kvs))) : Sta C ks pin (upd B p (.dK kvs)) (upd H p (.dK kvs)) σ (st ρ i none) (outF F [i]) := by
  have hh := (sta.sub _ _ hb).1
  have np : ∀ j a, a ∈ F j → a ≠ p := fun j a m z => by
    have := sta.nB j a m
    rw [z, hb] at this; cases this
  refine ⟨by rw [st_length]; exact sta.len, fun a o e => ?_, tabs_upd sta.tab hh (.inr ⟨_, _, rfl⟩), fun j d ej => ?_, fun j ej => ?_, fun j k a m m2 => ?_, fun j a m => ?_, sta.pin⟩
  · by_cases n : a = p
    · subst n
      rw [upd_same] at e ⊢
      cases e
      exact ⟨rfl, nt_dK⟩
    · rw [upd_ne n] at e ⊢
      exact sta.sub a o e
  · rw [gt_st] at ej
    split at ej
    · cases ej
    · rename_i n
      have nj : j ∉ [i] := fun m => n ⟨List.mem_singleton.mp m, by rw [← List.mem_singleton.mp m]; exact gt_lt ej⟩
      obtain ⟨w, w1, w2⟩ := sta.rep j d ej
      have : setK ks [i] .sh j = ks j := if_neg nj
      rw [this] at w2
      refine ⟨w, w1, ?_⟩
      rw [outF_out nj]
      have nbj := hnb j
      cases q : ks j <;> rw [q] at w2 nbj <;> simp only [vrep] at w2 ⊢
      · exact w2
      · exact ⟨hold_mono (unlock_ext hb) _ _ w2.1, w2.2⟩
      · rcases w2 with w2 | ⟨r, r1, r2, r3⟩
        · exact .inl w2
        · exact .inr ⟨r, r1, r2, topAt_keep r3 (unlock_ext hb) fun u e _ => put_up e (np j r (by rw [r2]; exact List.mem_singleton.mpr rfl))⟩
      · exact own_keep d w (F j) w2 fun a m u e _ => put_up e (np j a m)
      · cases nbj
      · cases nbj
  · by_cases n : j ∈ [i]
    · exact outF_in n
    · rw [outF_out n]
      rw [gt_st, if_neg (fun z => n (List.mem_singleton.mpr z.1))] at ej
      exact sta.nf j ej
  · by_cases n : j ∈ [i]
    · rw [outF_in n] at m; cases m
    · by_cases n2 : k ∈ [i]
      · rw [outF_in n2] at m2; cases m2
      · rw [outF_out n] at m; rw [outF_out n2] at m2; exact sta.dj j k a m m2
  · by_cases n : j ∈ [i]
    · rw [outF_in n] at m; cases m
    · rw [outF_out n] at m
      rw [upd_ne (np j a m)]; exact sta.nB j a m
theorem keys_get : ∀ {kd : List (Int × D)} {kvs : List (Key × V)} {B : Hp} {i : Nat} {kk : Key} {v : V}, holdK C.K B kd kvs → kvs[i]? = some (kk, v) → ∃ n, (kd.map fun k => D.int k.1)[i]? = some (.int n) ∧ kV kk = .int n
  | [], _, _, _, _, _, h, e => by simp only [holdK] at h; subst h; simp at e
  | (n, d) :: r, _, _, 0, _, _, h, e => by
    simp only [holdK] at h
    obtain ⟨x, r', rfl, h1, h2⟩ := h
    simp at e
    exact ⟨n, rfl, by rw [← e.1]; rfl⟩
  | (n, d) :: r, _, _, i + 1, _, _, h, e => by
    simp only [holdK] at h
    obtain ⟨x, r', rfl, h1, h2⟩ := h
    exact keys_get (i := i) h2 (by simpa using e)
theorem keys_holds : ∀ {kd : List (Int × D)} {kvs : List (Key × V)} {B B' : Hp}, holdK C.K B kd kvs → holds C.K B' (kd.map fun k => .int k.1) (kvs.map fun k => kV k.1)
  | [], _, _, _, h => by simp only [holdK] at h; subst h; rfl
  | (n, d) :: r, _, _, _, h => by
    simp only [holdK] at h
    obtain ⟨x, r', rfl, h1, h2⟩ := h
    exact ⟨.int n, _, rfl, rfl, keys_holds h2⟩
theorem keys_ok {B H : Hp} {p : Addr} {od : Obj} {kd : List (Int × D)} {kvs : List (Key × V)} (hh : H p = some (.frz od (.dK kvs))) (hb : B p = some (.frz od (.dK kvs))) (h : holdK C.K B kd kvs) {ba : Bool} :
    SrcOk C .sh B H (kd.map fun k => .int k.1) (Itk p od kvs) (fun Hx => Hx p = some (.frz od (.dK kvs))) (fun i H x H' => H' = H ∧ ∃ k v, kvs[i]? = some (k, v) ∧ x = kV k) ba where
  w := by
    rw [List.length_map, holdK_length h]
    exact walk_keys
  g1 := fun Hx e => e _ _ hh nt_frz
  g2 := fun _ Hx e => (e _ _ hb).1
  it := fun i Hx x H' _ y => by
    obtain ⟨e, kk, v, e1, e2⟩ := y
    obtain ⟨n, z1, z2⟩ := keys_get h e1
    exact ⟨e, _, z1, by rw [e2, z2]; rfl⟩
  xs := ⟨kvs.map fun k => kV k.1, keys_holds h, fun i Hx x H' _ y => by
    obtain ⟨e, kk, v, e1, e2⟩ := y
    rw [List.getElem?_map, e1, e2]; rfl⟩
/-- from behind the lock -/
theorem Step.unlock {B H B1 H1 : Hp} {F F1 : Nat → List Addr} {i : Nat} {p : Addr} {od : Obj} {kvs : List (Key × V)} {f : List Addr} (mp : p ∈ F i) (bp : B p = none) (hp : H p = some (.dK kvs))
    (st : Step (upd B p (.frz od (.dK kvs))) (upd H p (.frz od (.dK kvs))) (FP (outF F [i])) B1 H1 (fun a => FP F1 a ∨ a ∈ f)) : Step B H (FP F) (upd B1 p (.dK kvs)) (upd H1 p (.dK kvs)) (fun a => FP (outF F1 [i]) a ∨ a ∈ f) where
  ex := fun a o e => by
    have n : a ≠ p := fun z => by rw [z, bp] at e; cases e
    exact put_up (st.ex a o (put_up e n)) n
  up := fun a o e n z => by
    have n' : a ≠ p := fun z => n ⟨i, z ▸ mp⟩
    exact put_up (st.up a o (put_up e n') (fun q => n (outF_fp q)) z) n'
  th := fun a h => by
    by_cases n : a = p
    · rw [n, upd_same]; simp
    · rw [upd_ne n]; exact st.th a (by rw [upd_ne n]; exact h)
  new := fun a z => by
    have z' : FP F1 a ∨ a ∈ f := z.imp outF_fp fun m => m
    rcases st.new a z' with q | q
    · exact .inl (outF_fp q)
    · by_cases n : a = p
      · rw [n, upd_same] at q; cases q
      · rw [upd_ne n] at q; exact .inr q
  newB := fun a h => by
    by_cases n : a = p
    · exact .inr (.inl ⟨i, n ▸ mp⟩)
    · rw [upd_ne n] at h
      rcases st.newB a h with q | q | q
      · rw [upd_ne n] at q; exact .inl q
      · exact .inr (.inl (outF_fp q))
      · rw [upd_ne n] at q; exact .inr (.inr q)
end
end TW

namespace TW
open PySem L2
section
variable {C : Ctx} {sg : Nat → Sig}
theorem lcK_top {ke rk : Kind} (h : lcK ke = some rk) : rk = .deep ∨ rk = .top := by
  obtain ⟨_, _, h | h⟩ := lcK_of h
  · exact .inl h.1
  · exact .inr h.1
theorem src_two {k : Sk} {ka : Kind} : k.src ka = .sh ∨ k.src ka = .bo := by
  cases k <;> cases ka <;> simp [Sk.src, Kind.kid]
theorem snd_lc {k : Sk} {a b c test elt : IE} {t : Tg} (ha : SndE C sg a) (hb : SndE C sg b) (hc : SndE C sg c) (ht : SndE C sg test) (he : SndE C sg elt) : SndE C sg (.lc k a b c t test elt) := by
  intro nb ks hnb pin W B H σ ρ F k' Q hk sta h
  simp only [kE] at hk
  split at hk <;> try (simp only [reduceCtorEq] at hk)
  rename_i ka kb kc e1 e2 e3
  split at hk <;> try (simp only [reduceCtorEq] at hk)
  rename_i cond
  simp only [Bool.and_eq_true] at cond
  obtain ⟨⟨⟨⟨⟨⟨c1, c2⟩, c3⟩, c4⟩, c5⟩, c6⟩, c7⟩ := cond
  split at hk <;> try (simp only [reduceCtorEq] at hk)
  rename_i kt ke e4 e5
  split at hk <;> try (simp only [reduceCtorEq] at hk)
  rename_i cke
  simp only [evE] at h
  by_cases np : k.pure = true
  · have el : ∀ u : TE, lockIf k u = u := fun u => by cases k <;> simp_all [lockIf, Sk.pure]
    have ek : k.ks ks = ks := by cases k <;> simp_all [Sk.ks, Sk.pure]
    have eo : ∀ ρ, k.out ρ = ρ := fun ρ => by cases k <;> simp_all [Sk.out, Sk.pure]
    rw [ek] at e4 e5
    simp only [rdE]
    rw [el]
    refine snd_src (W := W) ha hb hc hnb e1 e2 e3 c1 np sta ?_
    cases er : srcRes k (evE C.Φ a ρ) (evE C.Φ b) (evE C.Φ c) with
    | bad => rw [er] at h; exact h
    | exc c => rw [er] at h; exact h
    | ok q =>
    obtain ⟨ds, ρ3⟩ := q
    rw [er] at h
    simp only at h
    split at h
    · rename_i hlim
      cases eg : lcGo t.put (evE C.Φ test) (evE C.Φ elt) ds (wipeE ρ3 t.names) with
      | bad => rw [eg] at h; exact h.elim
      | exc c => rw [eg] at h; exact h.elim
      | ok rs =>
      rw [eg] at h
      intro J G Y B3 H3 F3 st3 sta3 pu3 so p hp
      refine lc_loop ht he src_two e4 e5 c6 c7 sta3 so hlim eg hk hp fun B' H' acc g tn => ?_
      obtain ⟨f, f1, f2, f3⟩ := tn.rep (lcK_top hk)
      have fn : ∀ a ∈ f, H3 a = none := fun a m => (tn.st.new a (f1 a m)).elim (fun z => z.elim) fun z => z
      have stT : Step B3 H3 (FP F3) B' H' (fun a => FP F3 a ∨ a ∈ f) := ⟨tn.st.ex, fun a o e _ z => tn.st.up a o e (fun q => q) z, tn.st.th, fun a z => z.imp (fun q => q) fun m => fn a m, fun a z => (tn.st.newB a z).imp (fun q => q) fun q => .inr (q.elim (fun z => z.elim) fun z => z)⟩
      refine h (.ref p) B' H' F3 f (Step.row (f := []) (st3.less fun a z => z.elim (fun q => q) fun m => by cases m) stT) (sta3.step tn.st tn.sub tn.tab) ⟨f3, fun a m z => ?_, f2⟩ fun pu => ?_
      · obtain ⟨o, e, _⟩ := sta3.atF z
        rw [fn a m] at e; cases e
      · simp only [pureE, Bool.and_eq_true] at pu
        obtain ⟨⟨⟨⟨⟨_, p1⟩, p2⟩, p3⟩, _⟩, _⟩ := pu
        obtain ⟨u1, u2⟩ := pu3 (by rw [p1, p2, p3]; rfl)
        exact ⟨u1.trans fun a o e n => tn.st.up a o e (fun z => z) n, u2⟩
    · exact h.elim
  · cases k with
    | dic i =>
      have nbt : nb = true := by cases nb <;> simp_all [Sk.pure]
      have hnb := hnb nbt
      simp only [Sk.dum, Bool.and_eq_true] at c1
      obtain ⟨⟨k1, k2⟩, k3⟩ := c1
      obtain ⟨da, rfl⟩ := isC_of k1
      obtain ⟨db, rfl⟩ := isC_of k2
      obtain ⟨dc, rfl⟩ := isC_of k3
      simp only [Sk.okD, Bool.and_eq_true, beq_iff_eq, Bool.not_eq_true'] at c2
      obtain ⟨d1, d2⟩ := c2
      simp only [evE, srcRes, srcOf, Sk.out] at h
      split at h
      · rename_i hsr
        split at hsr <;> simp only [reduceCtorEq, Res.ok.injEq, Prod.mk.injEq] at hsr
        rename_i hs2
        split at hs2 <;> simp only [reduceCtorEq, Option.some.injEq] at hs2
        rename_i kd e0
        obtain ⟨z1, z2⟩ := hsr
        subst z2
        subst hs2
        subst z1
        split at h
        · rename_i hlim
          split at h
          · rename_i rs eg
            obtain ⟨p0, kvs, w1, w2, w3, w4, w5, w6⟩ := sta.lock hnb d1 e0
            refine ⟨p0, .dK kvs, w2, by trivial, fun od => ?_⟩
            have staL := w6 od
            refine ⟨.ref p0, w1, p0, od, rfl, .inl ⟨kvs, upd_same, fun p hp => ?_⟩⟩
            have hB : holdK C.K (upd B p0 (.frz od (.dK kvs))) kd kvs := holdK_mono (.of fun a o e _ => put_up e fun z => by rw [z, w5] at e; cases e) _ _ w3
            refine lc_loop ht he (.inl rfl) e4 e5 c6 c7 staL (keys_ok (ba := true) upd_same upd_same hB) hlim eg hk hp fun B' H' acc g tn => ?_
            have hf : H' p0 = some (.frz od (.dK kvs)) := tn.st.up _ _ upd_same (fun z => z) nt_frz
            have hb' : B' p0 = some (.frz od (.dK kvs)) := tn.st.ex _ _ upd_same
            refine ⟨hf, ?_⟩
            obtain ⟨f, f1, f2, f3⟩ := tn.rep (lcK_top hk)
            have fn : ∀ a ∈ f, upd H p0 (.frz od (.dK kvs)) a = none := fun a m => (tn.st.new a (f1 a m)).elim (fun z => z.elim) fun z => z
            have fp0 : ∀ a ∈ f, a ≠ p0 := fun a m z => by
              have := fn a m
              rw [z, upd_same] at this; cases this
            have stT : Step (upd B p0 (.frz od (.dK kvs))) (upd H p0 (.frz od (.dK kvs))) (FP (outF F [i])) B' H' (fun a => FP (outF F [i]) a ∨ a ∈ f) := ⟨tn.st.ex, fun a o e _ z => tn.st.up a o e (fun q => q) z, tn.st.th, fun a z => z.imp (fun q => q) fun m => fn a m, fun a z => (tn.st.newB a z).imp (fun q => q) fun q => .inr (q.elim (fun z => z.elim) fun z => z)⟩
            have rkd : k' = .deep := by
              simp only [Sk.pure, Bool.false_or, Bool.or_eq_true, beq_iff_eq] at cke
              rcases cke with rfl | rfl <;> simp only [lcK, Option.some.injEq] at hk <;> exact hk.symm
            subst rkd
            have fn0 : ∀ a ∈ f, H a = none := fun a m => by
              have := fn a m
              rw [upd_ne (fp0 a m)] at this; exact this
            have up0 : ∀ a o, H a = some o → NoTab o → (upd H' p0 (.dK kvs)) a = some o := fun a o e z => by
              by_cases n : a = p0
              · subst n
                rw [w2] at e; cases e; exact upd_same
              · exact put_up (tn.st.up a o (put_up e n) (fun q => q) z) n
            have th0 : ∀ a, H a ≠ none → (upd H' p0 (.dK kvs)) a ≠ none := fun a z => by
              by_cases n : a = p0
              · rw [n, upd_same]; simp
              · rw [upd_ne n]; exact tn.st.th a (by rw [upd_ne n]; exact z)
            have st0 : Step B H Nil B (upd H' p0 (.dK kvs)) (fun a => a ∈ f) := ⟨fun a o e => e, fun a o e _ z => up0 a o e z, th0, fun a m => .inr (fn0 a m), fun a z => .inl z⟩
            have stF : Step B H (FP F) B (upd H' p0 (.dK kvs)) (fun a => FP F a ∨ a ∈ f) := ⟨fun a o e => e, fun a o e _ z => up0 a o e z, th0, fun a z => z.imp (fun q => q) fun m => fn0 a m, fun a z => .inl z⟩
            have sub0 : Sub B (upd H' p0 (.dK kvs)) := fun a o e => ⟨up0 a o (sta.sub a o e).1 (sta.sub a o e).2, (sta.sub a o e).2⟩
            refine h (.ref p) B _ F f stF (sta.step st0 sub0 (tabs_upd tn.tab hf (.inr ⟨_, _, rfl⟩))) ⟨own_keep _ _ _ f3 fun a m o e _ => put_up e (fp0 a m), fun a m z => ?_, fun a m => ?_⟩ fun pu => by simp [pureE, Sk.pure] at pu
            · obtain ⟨o, e, _⟩ := sta.atF z
              rw [fn0 a m] at e; cases e
            · cases e : B a with
              | none => rfl
              | some o =>
                have := (sta.sub a o e).1
                rw [fn0 a m] at this; cases this
          · exact h.elim
        · exact h.elim
      · rename_i hsr
        split at hsr <;> simp only [reduceCtorEq] at hsr
      · exact h.elim
    | _ => simp [Sk.pure] at np
theorem snd_idxV {i : Nat} {e : IE} (he : SndE C sg e) : SndE C sg (.idxV i e) := by
  intro nb ks hnb pin W B H σ ρ F k' Q hk sta h
  simp only [kE] at hk
  split at hk <;> try (simp only [reduceCtorEq] at hk)
  rename_i l hl
  simp only [Option.some.injEq] at hk
  subst hk
  simp only [evE] at h
  split at h
  rotate_left
  · exact h.elim
  rename_i d0 e0
  obtain ⟨v, hv, r0⟩ := sta.rep i d0 e0
  show tVar i σ H fun x H1 => rdE C e W σ H1 fun y H2 => r2 C.K .subL x y H2 Q
  refine ⟨v, hv, ?_⟩
  refine he nb ks hnb pin W B H σ ρ F l _ hl sta ?_
  cases ev : evE C.Φ e ρ with
  | bad => rw [ev] at h; exact h
  | exc c => rw [ev] at h; exact h
  | ok q =>
    obtain ⟨d1, ρ1⟩ := q
    rw [ev] at h
    intro u B1 H1 F1 f st1 sta1 has1 pu1
    show r2 C.K .subL v u H1 Q
    simp only at h
    cases e1 : gt ρ1 i with
    | none => rw [e1] at h; exact h.elim
    | some ds =>
    rw [e1] at h
    simp only at h
    cases er : Op2.run .subL ds d1 with
    | bad => rw [er] at h; exact h.elim
    | exc c => rw [er] at h; exact h.elim
    | ok x =>
    rw [er] at h
    simp only at h
    split at h
    rotate_left
    · exact h.elim
    rename_i hx
    obtain ⟨v', hv', r1⟩ := sta1.rep i _ e1
    rw [hv] at hv'
    cases hv'
    have g1 := vrep_hold sta1.sub r1
    have g2 := vrep_hold sta1.sub has1.rep
    obtain ⟨w, hw, q⟩ := op2_kid (o := .subL) rfl er (hold_1 vis_sub (vis_hold g1)) (hold_1 vis_sub (vis_hold g2))
    exact q Q (Post.sc h (sc_of hw hx) st1 sta1 pu1)
end
end TW

namespace TW
open PySem L2
theorem sortV_map {α β : Type} (g : α → β) (l : List α) (ks : List Int) : sortV (l.map g) ks = (sortV l ks).map g := by
  unfold sortV
  have e : (l.map g).zip ks = (l.zip ks).map fun p => (g p.1, p.2) := by
    rw [List.zip_map_left]
    exact List.map_congr_left fun _ _ => rfl
  rw [e, ← List.map_mergeSort (r := fun (a b : α × Int) => decide (a.2 ≤ b.2)) (s := fun (a b : β × Int) => decide (a.2 ≤ b.2)) (f := fun p => (g p.1, p.2)) (fun _ _ _ _ => rfl), List.map_map, List.map_map]
  rfl
section
variable {C : Ctx} {sg : Nat → Sig}
theorem noF {a : Addr} (h : FP (fun _ => ([] : List Addr)) a) : False := by
  obtain ⟨_, m⟩ := h; cases m
/-- what stands while a lambda's calls run -/
def GdK (C : Ctx) (q : Str) (c' : Addr) (B H H' : Hp) : Prop := ∃ B', Step B H Nil B' H' Nil ∧ Sub B' H' ∧ NdefX.TabsN C.T H' ∧ H' c' = some (LamX.CodeO c' q)
theorem GdK.up {q : Str} {c' : Addr} {B H H' : Hp} (g : GdK C q c' B H H') : Up H H' := by
  obtain ⟨B', st, _⟩ := g
  exact fun a o e n => st.up a o e (fun z => z) n
theorem code_nt {c' : Addr} {q : Str} : NoTab (LamX.CodeO c' q) := fun ps z => LamX.codeO_ne ps z
theorem lend_rep {K : PySem.W.Frag} {k : Kind} {B H : Hp} {d : D} {v : V} {f : List Addr} (s : Sub B H) (h : vrep K k B H d v f) (hk : k.borrowed = true → f = []) : vrep K (lendK k) B H d v [] := by
  cases k <;> simp only [lendK, vrep] at h ⊢
  · exact ⟨h.1, trivial⟩
  · exact ⟨h.1, trivial⟩
  · rcases h with ⟨h, _⟩ | ⟨p, e, _, t⟩
    · exact .inl ⟨h, trivial⟩
    · exact .inr ⟨p, e, trivial, t⟩
  · exact ⟨own_hold d v f h fun _ _ _ e _ => e, trivial⟩
  · rcases h with ⟨h, _⟩ | ⟨p, e, _, t⟩
    · exact .inl ⟨h, trivial⟩
    · exact .inr ⟨p, e, trivial, t⟩
  · exact ⟨h.1, trivial⟩
theorem bor_nil {K : PySem.W.Frag} {k : Kind} {B H : Hp} {d : D} {v : V} {f : List Addr} (h : vrep K k B H d v f) (hk : k.borrowed = true) : f = [] := by
  cases k <;> simp [Kind.borrowed] at hk <;> simp only [vrep] at h
  · rcases h with ⟨_, e⟩ | ⟨_, _, e, _⟩ <;> exact e
  · exact h.2
theorem gt_mapJ {js : List Nat} {ρ : Env} {i : Nat} {d : D} (h : gt (js.map (gt ρ)) i = some d) : ∃ j, js[i]? = some j ∧ gt ρ j = some d := by
  induction js generalizing i with
  | nil => simp [gt] at h
  | cons j js ih =>
    cases i with
    | zero => exact ⟨j, rfl, h⟩
    | succ i => exact ih (by simpa [gt] using h)
/-- the state in which the lambda's body runs -/
theorem Sta.lam {ks : Nat → Kind} {pin : Nat → Option V} {B H : Hp} {σ : L2.St} {ρ : Env} {F : Nat → List Addr} (sta : Sta C ks pin B H σ ρ F) (js : List Nat) {s : Kind} (hs : s = .sh ∨ s = .bo) {d : D} {x : V} (hx : hold C.K (hB s B H) d x) :
    Sta C (keyK ks js s) (fun _ => none) B H (some x :: js.map (NdefX.slotAt σ)) (some d :: js.map (gt ρ)) (fun _ => []) where
  len := by simp
  sub := sta.sub
  tab := sta.tab
  rep := fun i e h => by
    cases i with
    | zero =>
      simp only [gt, Option.some.injEq] at h
      subst h
      refine ⟨x, rfl, ?_⟩
      rcases hs with rfl | rfl
      · exact ⟨hx, rfl⟩
      · exact ⟨hx, rfl⟩
    | succ i =>
      obtain ⟨j, h1, h2⟩ := gt_mapJ (by simpa [gt] using h)
      obtain ⟨v, w1, w2⟩ := sta.rep j e h2
      refine ⟨v, ?_, ?_⟩
      · rw [List.getElem?_cons_succ, List.getElem?_map, h1]
        exact congrArg some (NdefX.slotAt_of w1)
      · have : keyK ks js s (i + 1) = lendK (ks j) := by simp only [keyK]; rw [h1]
        rw [this]
        exact lend_rep sta.sub w2 fun hb => bor_nil w2 hb
  nf := fun _ _ => rfl
  dj := fun _ _ _ m => nomatch m
  nB := fun _ _ m => nomatch m
  pin := fun _ _ z => nomatch z
theorem kvD_cases {d : D} {k : KV} (e : kvD d = some k) : (∃ n, d = .int n ∧ k = .i n) ∨ ∃ a b, d = .tup [.int a, .int b] ∧ k = .p a b := by
  unfold kvD at e
  split at e
  · exact .inl ⟨_, rfl, (Option.some.inj e).symm⟩
  · exact .inr ⟨_, _, rfl, (Option.some.inj e).symm⟩
  · cases e
theorem kv_hold {H : Hp} {d : D} {v : V} {k : KV} (h : hold C.K H d v) (e : kvD d = some k) : kvAt C.K H k v := by
  rcases kvD_cases e with ⟨n, rfl, rfl⟩ | ⟨a, b, rfl, rfl⟩
  · simp only [hold] at h; exact h
  · simp only [hold, holds] at h
    obtain ⟨p, xs, e1, h1, x1, r1, e2, e3, x2, r2, e4, e5, e6⟩ := h
    subst e6; subst e5; subst e4; subst e3; subst e2
    exact ⟨p, e1, .of h1⟩
theorem kvAt_up {H H' : Hp} {k : KV} {v : V} (u : Up H H') (h : kvAt C.K H k v) : kvAt C.K H' k v := by
  cases k with
  | i n => exact h
  | p a b =>
    obtain ⟨t, e, h⟩ := h
    refine ⟨t, e, ?_⟩
    rcases h with (h | ⟨o, h⟩) | h
    · exact .inl (.inl (u _ _ h nt_tup))
    · exact .inl (.inr ⟨o, u _ _ h nt_frz⟩)
    · exact .inr h
section
variable {ks : Nat → Kind} {pin : Nat → Option V} {B H : Hp} {σ : L2.St} {ρ : Env} {F : Nat → List Addr} {s kb : Kind} {js : List Nat} {body : IE} {q : Str} {c' : Addr}
/-- one call of the lambda -/
theorem key_call (hb : SndE C sg body) (hkb : kE sg false (keyK ks js s) body = some kb) (pb : pureE sg body = true) (sta : Sta C ks pin B H σ ρ F) (hs : s = .sh ∨ s = .bo) {d : D} {x : V} (hx : hold C.K (hB s B H) d x) {kd : D} {ρ' : Env} (ev : evE C.Φ body (some d :: js.map (gt ρ)) = .ok (kd, ρ'))
    {H1 : Hp} (g : GdK C q c' B H H1) {R : V → Hp → Prop} (hR : ∀ v H2, GdK C q c' B H H2 → Up H1 H2 → hold C.K H2 kd v → R v H2) : clR (rdE C body Wno) js q c' σ x H1 R := by
  obtain ⟨B1, st, sub, tab, hc⟩ := g
  refine ⟨hc, ?_⟩
  have sta1 := sta.step st sub tab
  have hx1 : hold C.K (hB s B1 H1) d x := by
    refine hold_mono ?_ _ _ hx
    rcases hs with rfl | rfl
    · exact .of fun a o e _ => st.ex a o e
    · exact .of fun a o e n => st.up a o e (fun z => z) n
  refine hb false _ (fun z => by cases z) _ Wno B1 H1 _ _ _ kb _ hkb (sta1.lam js hs hx1) ?_
  rw [ev]
  intro v B2 H2 F2 f2 st2 sta2 has2 pu2
  obtain ⟨u2, e2⟩ := pu2 pb
  subst e2
  have st2' : Step B1 H1 Nil B2 H2 Nil := ⟨st2.ex, fun a o e _ n => st2.up a o e (fun z => noF z) n, st2.th, fun a z => z.elim, fun a z => (st2.newB a z).imp id fun r => .inr (r.elim (fun z => (noF z).elim) id)⟩
  exact hR v H2 ⟨B2, st.trans st2', sta2.sub, sta2.tab, u2 _ _ hc code_nt⟩ u2 (vrep_hold (C := C) sta2.sub has2.rep)
/-- the best of what is left -/
theorem key_best (hb : SndE C sg body) (hkb : kE sg false (keyK ks js s) body = some kb) (pb : pureE sg body = true) (sta : Sta C ks pin B H σ ρ F) (hs : s = .sh ∨ s = .bo) {mx : Bool} {Q : VK} {r : D}
    (hq : ∀ v H2, GdK C q c' B H H2 → hold C.K (hB s B H) r v → Q v H2) : ∀ (ds : List D) (xs : List V) (kv : List KV) (db : D) (xb : V) (kb' : KV) (vb : V) (H1 : Hp), holds C.K (hB s B H) ds xs → hold C.K (hB s B H) db xb → keysGo (fun d => evE C.Φ body (some d :: js.map (gt ρ))) ds = some kv → bestGo mx db kb' ds kv = some r →
      GdK C q c' B H H1 → kvAt C.K H1 kb' vb → rBest C.K mx (GdK C q c' B H) (clR (rdE C body Wno) js q c' σ) xb kb' vb xs H1 Q
  | [], xs, kv, db, xb, kb', vb, H1, h, hd, hk, hr, g, hv => by
    simp only [holds] at h
    subst h
    simp only [keysGo, Option.some.injEq] at hk
    subst hk
    simp only [bestGo, Option.some.injEq] at hr
    subst hr
    exact ⟨g, hq xb H1 g hd⟩
  | d :: ds, xs, kv, db, xb, kb', vb, H1, h, hd, hk, hr, g, hv => by
    simp only [holds] at h
    obtain ⟨x, xr, rfl, h1, h2⟩ := h
    simp only [keysGo] at hk
    cases ev : evE C.Φ body (some d :: js.map (gt ρ)) with
    | bad => rw [ev] at hk; cases hk
    | exc c => rw [ev] at hk; cases hk
    | ok p =>
    obtain ⟨kd, ρ'⟩ := p
    rw [ev] at hk
    simp only at hk
    split at hk <;> simp only [reduceCtorEq, Option.some.injEq] at hk
    rename_i k l ek el
    subst hk
    simp only [bestGo] at hr
    refine ⟨g, key_call hb hkb pb sta hs h1 ev g fun v H2 g2 u2 hkd => ⟨g2, kvAt_up u2 hv, ?_⟩⟩
    have hk2 := kv_hold hkd ek
    cases eb : better mx k kb' with
    | none => rw [eb] at hr; cases hr
    | some b =>
      rw [eb] at hr
      refine ⟨k, b, hk2, eb, ?_⟩
      cases b with
      | true => exact key_best hb hkb pb sta hs hq ds xr l d x k v H2 h2 h1 el hr g2 hk2
      | false => exact key_best hb hkb pb sta hs hq ds xr l db xb kb' vb H2 h2 hd el hr g2 (kvAt_up u2 hv)
theorem key_keys (hb : SndE C sg body) (hkb : kE sg false (keyK ks js s) body = some kb) (pb : pureE sg body = true) (sta : Sta C ks pin B H σ ρ F) (hs : s = .sh ∨ s = .bo) : ∀ (ds : List D) (xs : List V) (kv : List KV) (ns : List Int) (H1 : Hp) {Q : List Int → Hp → Prop}, holds C.K (hB s B H) ds xs →
      keysGo (fun d => evE C.Φ body (some d :: js.map (gt ρ))) ds = some kv → intK kv = some ns → GdK C q c' B H H1 → (∀ H2, GdK C q c' B H H2 → Q ns H2) → rKeys (clR (rdE C body Wno) js q c' σ) xs H1 Q
  | [], xs, kv, ns, H1, Q, h, hk, hn, g, hq => by
    simp only [holds] at h
    subst h
    simp only [keysGo, Option.some.injEq] at hk
    subst hk
    simp only [intK, Option.some.injEq] at hn
    subst hn
    exact hq H1 g
  | d :: ds, xs, kv, ns, H1, Q, h, hk, hn, g, hq => by
    simp only [holds] at h
    obtain ⟨x, xr, rfl, h1, h2⟩ := h
    simp only [keysGo] at hk
    cases ev : evE C.Φ body (some d :: js.map (gt ρ)) with
    | bad => rw [ev] at hk; cases hk
    | exc c => rw [ev] at hk; cases hk
    | ok p =>
    obtain ⟨kd, ρ'⟩ := p
    rw [ev] at hk
    simp only at hk
    split at hk <;> simp only [reduceCtorEq, Option.some.injEq] at hk
    rename_i k l ek el
    subst hk
    refine key_call hb hkb pb sta hs h1 ev g fun v H2 g2 u2 hkd => ?_
    have hk2 := kv_hold hkd ek
    cases k with
    | p a b => simp [intK] at hn
    | i n =>
      simp only [intK, Option.map_eq_some_iff] at hn
      obtain ⟨m, hm, rfl⟩ := hn
      exact ⟨n, hk2, key_keys hb hkb pb sta hs ds xr l m H2 h2 el hm g2 fun H3 g3 => hq H3 g3⟩
/-- behind the making of the lambda -/
theorem GdK.made {f : Addr} {H1 : Hp} (sub : Sub B H) (M : Made C.T q H H1 f c') : GdK C q c' B H H1 :=
  ⟨B, ⟨fun _ _ e => e, fun a o e _ n => M.ext a o e n, fun a h z => h (M.no a z), fun a z => z.elim, fun a h => .inl h⟩, fun a o e => ⟨M.ext a o (sub a o e).1 (sub a o e).2, (sub a o e).2⟩, M.tab, M.code⟩
theorem src_walk {J : It} {G : Hp → Prop} {Y : Nat → Hp → V → Hp → Prop} {ba : Bool} {ds : List D} (so : SrcOk C s B H ds J G Y ba) : ∃ xs, holds C.K (hB s B H) ds xs ∧ WalkF J xs (GdK C q c' B H) := by
  obtain ⟨xs, h1, h2⟩ := so.xs
  have el := holds_length h1
  refine ⟨xs, h1, ⟨fun i x Hx g hx => so.w.goes i Hx (by rw [el]; exact (List.getElem?_eq_some_iff.mp hx).1) (so.g1 Hx g.up), fun Hx g => by rw [← el]; exact so.w.stops Hx (so.g1 Hx g.up), fun i x Hx y H' g hx hy => ?_⟩⟩
  have hi : i < ds.length := by rw [el]; exact (List.getElem?_eq_some_iff.mp hx).1
  have hY := so.w.yields i Hx y H' hi (so.g1 Hx g.up) hy
  refine ⟨(so.it i Hx y H' hi hY).1, ?_⟩
  have := h2 i Hx y H' hi hY
  rw [hx] at this
  exact (Option.some.inj this).symm
theorem keysGo_rest {f : D → Res (D × Env)} {d : D} {ds : List D} {kv : List KV} (h : keysGo f (d :: ds) = some kv) : ∃ kd ρ' k l, f d = .ok (kd, ρ') ∧ kvD kd = some k ∧ keysGo f ds = some l ∧ kv = k :: l := by
  simp only [keysGo] at h
  cases ev : f d with
  | bad => rw [ev] at h; cases h
  | exc c => rw [ev] at h; cases h
  | ok p =>
    obtain ⟨kd, ρ'⟩ := p
    rw [ev] at h
    simp only at h
    split at h <;> simp only [reduceCtorEq, Option.some.injEq] at h
    rename_i k l ek el
    exact ⟨kd, ρ', k, l, rfl, ek, el, h.symm⟩
/-- max, min: all of it -/
theorem key_rest {f : Addr} {H1 : Hp} (hb : SndE C sg body) (hkb : kE sg false (keyK ks js s) body = some kb) (pb : pureE sg body = true) (sta : Sta C ks pin B H σ ρ F) (hs : s = .sh ∨ s = .bo) {J : It} {G : Hp → Prop} {Y : Nat → Hp → V → Hp → Prop} {ba : Bool} {ds : List D} {kv : List KV} {Q : VK} {r : D} {o : Nat}
    (so : SrcOk C s B H ds J G Y ba) (hk : keysGo (fun d => evE C.Φ body (some d :: js.map (gt ρ))) ds = some kv) (ho : o < 2) (hr : keyRun o ds kv = some r) (M : Made C.T q H H1 f c') (hq : ∀ v H2, GdK C q c' B H H2 → hold C.K (hB s B H) r v → Q v H2) :
    ∃ (xs : List V) (Gd : Hp → Prop), WalkF J xs Gd ∧ Gd H1 ∧ keyTail C.K o (clR (rdE C body Wno) js q c' σ) xs Gd H1 Q := by
  obtain ⟨xs, hx, W⟩ := src_walk (q := q) (c' := c') so
  have g1 := GdK.made sta.sub M
  refine ⟨xs, GdK C q c' B H, W, g1, ?_⟩
  have two : ∀ mx : Bool, (∀ d r0 k l, ds = d :: r0 → kv = k :: l → bestGo mx d k r0 l = some r) → ds ≠ [] → ∃ x r, xs = x :: r ∧ clR (rdE C body Wno) js q c' σ x H1 fun v H3 => GdK C q c' B H H3 ∧ ∃ k, kvAt C.K H3 k v ∧ rBest C.K mx (GdK C q c' B H) (clR (rdE C body Wno) js q c' σ) x k v r H3 Q := by
    intro mx hbm hne
    cases ds with
    | nil => exact absurd rfl hne
    | cons d r0 =>
      simp only [holds] at hx
      obtain ⟨x, xr, rfl, h1, h2⟩ := hx
      obtain ⟨kd, ρ', k, l, ev, ek, el, e2⟩ := keysGo_rest hk
      refine ⟨x, xr, rfl, key_call hb hkb pb sta hs h1 ev g1 fun v H2 g2 u2 hkd => ⟨g2, k, kv_hold hkd ek, ?_⟩⟩
      exact key_best hb hkb pb sta hs hq r0 xr l d x k v H2 h2 h1 el (hbm d r0 k l rfl e2) g2 (kv_hold hkd ek)
  have hne : ds ≠ [] := fun e => by
    subst e
    match o, ho with
    | 0, _ => simp [keyRun] at hr
    | 1, _ => simp [keyRun] at hr
  match o, ho with
  | 0, _ => exact two true (fun d r0 k l e1 e2 => by subst e1 e2; exact hr) hne
  | 1, _ => exact two false (fun d r0 k l e1 e2 => by subst e1 e2; exact hr) hne
end
theorem keyRun_two {ds : List D} {kv : List KV} {r : D} (h : keyRun 2 ds kv = some r) : ∃ is ns, ds = is.map D.int ∧ intK kv = some ns ∧ is.length ≤ lim ∧ r = .lst ((sortV is ns).map .int) := by
  simp only [keyRun] at h
  split at h <;> try (simp only [reduceCtorEq] at h)
  rename_i is ns e1 e2
  split at h <;> simp only [reduceCtorEq, Option.some.injEq] at h
  rename_i hl
  exact ⟨is, ns, ints_some e1, e2, hl, h.symm⟩
theorem snd_key {o : Nat} {k : Sk} {a b c body : IE} {js : List Nat} (ha : SndE C sg a) (hb : SndE C sg b) (hc : SndE C sg c) (he : SndE C sg body) : SndE C sg (.key o k a b c js body) := by
  intro nb ks hnb pin W B H σ ρ F k' Q hk sta h
  simp only [kE] at hk
  split at hk <;> try (simp only [reduceCtorEq] at hk)
  rename_i ka kb kc e1 e2 e3
  split at hk <;> try (simp only [reduceCtorEq] at hk)
  rename_i cond
  simp only [Bool.and_eq_true] at cond
  obtain ⟨⟨⟨⟨⟨⟨c1, c2⟩, c3⟩, c4⟩, c5⟩, c6⟩, c7⟩ := cond
  split at hk <;> try (simp only [reduceCtorEq, Option.some.injEq] at hk)
  rename_i ke e4
  subst hk
  simp only [evE] at h
  by_cases np : k.pure = true
  · have el : ∀ u : TE, lockIf k u = u := fun u => by cases k <;> simp_all [lockIf, Sk.pure]
    have ek : k.ks ks = ks := by cases k <;> simp_all [Sk.ks, Sk.pure]
    have eo : ∀ ρ, k.out ρ = ρ := fun ρ => by cases k <;> simp_all [Sk.out, Sk.pure]
    rw [ek] at e4
    simp only [rdE]
    rw [el]
    refine snd_src (W := W) ha hb hc hnb e1 e2 e3 c1 np sta ?_
    cases er : srcRes k (evE C.Φ a ρ) (evE C.Φ b) (evE C.Φ c) with
    | bad => rw [er] at h; exact h
    | exc c => rw [er] at h; exact h
    | ok q =>
    obtain ⟨ds, ρ3⟩ := q
    rw [er] at h
    simp only at h
    cases ekv : keysGo (fun d => evE C.Φ body (some d :: js.map (gt ρ3))) ds with
    | none => rw [ekv] at h; exact h.elim
    | some kv =>
      rw [ekv] at h
      simp only at h
      cases err : keyRun o ds kv with
      | none => rw [err] at h; exact h.elim
      | some r =>
        rw [err] at h
        simp only at h
        rw [eo] at h
        intro J G Y B3 H3 F3 st3 sta3 pu3 so
        refine ⟨sta3.tab, fun q f c' H4 M => ?_⟩
        -- what comes out, by the state
        have stU : ∀ {B5 H5}, Step B3 H3 Nil B5 H5 Nil → Step B H (FP F) B5 H5 (fun a => FP F3 a ∨ a ∈ []) := fun {B5 H5} t => by
          have stT : Step B3 H3 (FP F3) B5 H5 (fun a => FP F3 a ∨ a ∈ []) := ⟨t.ex, fun a o e _ z => t.up a o e (fun q => q) z, t.th, fun a z => z.elim .inl (fun m => nomatch m), fun a z => (t.newB a z).imp (fun q => q) fun q => .inr (q.elim (fun z => z.elim) fun z => z)⟩
          exact Step.row (f := []) (st3.less fun a z => z.elim (fun q => q) fun m => by cases m) stT
        have pu' : ∀ {H5}, Up H3 H5 → pureE sg (.key o k a b c js body) = true → Up H H5 ∧ F3 = F := fun {H5} u pu => by
          simp only [pureE, Bool.and_eq_true] at pu
          obtain ⟨⟨⟨⟨_, p1⟩, p2⟩, p3⟩, _⟩ := pu
          obtain ⟨u1, u2⟩ := pu3 (by rw [p1, p2, p3]; rfl)
          exact ⟨u1.trans u, u2⟩
        by_cases o2 : o = 2
        · subst o2
          rw [if_pos rfl] at h
          obtain ⟨is, ns, rfl, en, hl, rfl⟩ := keyRun_two err
          obtain ⟨xs, hx, Wk⟩ := src_walk (q := q) (c' := c') so
          have g1 := GdK.made sta3.sub M
          refine ⟨xs, _, Wk, g1, ?_⟩
          have ex := ints_holds hx
          subst ex
          refine ⟨by rw [List.length_map]; unfold lim at hl; omega, key_keys he e4 c6 sta3 src_two _ _ kv ns H4 hx ekv en g1 fun H5 g5 p hp => ?_⟩
          rw [sortV_map]
          have u5 := g5.up
          obtain ⟨B5, t5, s5, tb5, _⟩ := g5
          exact Post.newS h (stU t5) (sta3.step t5 s5 tb5) (pu' u5) hp
        · rw [if_neg o2] at h
          have o1 : o < 2 := by
            simp only [Bool.or_eq_true, decide_eq_true_eq] at c7
            rcases c7 with c7 | c7
            · exact c7
            · exact absurd (Bool.and_eq_true_iff.mp c7).1 (by simpa using o2)
          refine key_rest he e4 c6 sta3 src_two so ekv o1 err M fun v H5 g5 hv => ?_
          have u5 := g5.up
          obtain ⟨B5, t5, s5, tb5, _⟩ := g5
          refine h v B5 H5 F3 [] (stU t5) (sta3.step t5 s5 tb5) ⟨?_, nomem, nomem⟩ (pu' u5)
          rcases (src_two (k := k) (ka := ka)) with e | e
          · rw [e] at hv ⊢
            exact ⟨hold_mono (.of fun a o e _ => t5.ex a o e) _ _ hv, rfl⟩
          · rw [e] at hv ⊢
            exact ⟨hold_mono (.of fun a o e n => u5 a o e n) _ _ hv, rfl⟩
  · cases k with
    | dic i =>
      have nbt : nb = true := by cases nb <;> simp_all [Sk.pure]
      have hnb := hnb nbt
      simp only [Sk.dum, Bool.and_eq_true] at c1
      obtain ⟨⟨k1, k2⟩, k3⟩ := c1
      obtain ⟨da, rfl⟩ := isC_of k1
      obtain ⟨db, rfl⟩ := isC_of k2
      obtain ⟨dc, rfl⟩ := isC_of k3
      simp only [Sk.okD, Bool.and_eq_true, beq_iff_eq, Bool.not_eq_true'] at c2
      obtain ⟨d1, d2⟩ := c2
      have o1 : o < 2 := by
        simp only [Bool.or_eq_true, decide_eq_true_eq, Sk.isR1, Bool.and_false, Bool.false_eq_true, or_false] at c7
        exact c7
      have o2 : o ≠ 2 := by omega
      rw [if_neg o2] at h
      simp only [evE, srcRes, srcOf, Sk.out] at h
      split at h
      · rename_i hsr
        split at hsr <;> simp only [reduceCtorEq, Res.ok.injEq, Prod.mk.injEq] at hsr
        rename_i hs2
        split at hs2 <;> simp only [reduceCtorEq, Option.some.injEq] at hs2
        rename_i kd e0
        obtain ⟨z1, z2⟩ := hsr
        subst z2
        subst hs2
        subst z1
        cases ekv : keysGo (fun d => evE C.Φ body (some d :: js.map (gt ρ))) (kd.map fun k => .int k.1) with
        | none => rw [ekv] at h; exact h.elim
        | some kv =>
          rw [ekv] at h
          simp only at h
          cases err : keyRun o (kd.map fun k => .int k.1) kv with
          | none => rw [err] at h; exact h.elim
          | some r =>
            rw [err] at h
            simp only at h
            obtain ⟨p0, kvs, w1, w2, w3, w4, w5, w6⟩ := sta.lock hnb d1 e0
            refine ⟨p0, .dK kvs, w2, by trivial, fun od => ?_⟩
            have staL := w6 od
            refine ⟨.ref p0, w1, p0, od, rfl, .inl ⟨kvs, upd_same, staL.tab, fun q f c' H4 M => ?_⟩⟩
            have hB0 : holdK C.K (upd B p0 (.frz od (.dK kvs))) kd kvs := holdK_mono (.of fun a o e _ => put_up e fun z => by rw [z, w5] at e; cases e) _ _ w3
            refine key_rest he e4 c6 staL (.inl rfl) (keys_ok (ba := true) upd_same upd_same hB0) ekv o1 err M fun v H5 g5 hv => ?_
            have u5 := g5.up
            obtain ⟨B5, t5, s5, tb5, _⟩ := g5
            have hf : H5 p0 = some (.frz od (.dK kvs)) := u5 _ _ upd_same nt_frz
            have hb' : B5 p0 = some (.frz od (.dK kvs)) := t5.ex _ _ upd_same
            refine ⟨hf, ?_⟩
            have stT : Step (upd B p0 (.frz od (.dK kvs))) (upd H p0 (.frz od (.dK kvs))) (FP (outF F [i])) B5 H5 (fun a => FP (outF F [i]) a ∨ a ∈ []) := ⟨t5.ex, fun a o e _ z => t5.up a o e (fun q => q) z, t5.th, fun a z => z.elim .inl (fun m => nomatch m), fun a z => (t5.newB a z).imp (fun q => q) fun q => .inr (q.elim (fun z => z.elim) fun z => z)⟩
            have staT := (staL.step t5 s5 tb5).unlock hnb hb'
            have eoo : outF (outF F [i]) [i] = outF F [i] := funext fun j => by
              by_cases m : j ∈ [i]
              · rw [outF_in m, outF_in m]
              · rw [outF_out m]
            rw [eoo] at staT
            have stU := Step.unlock (i := i) w4 w5 w2 stT
            rw [eoo] at stU
            refine h v _ _ (outF F [i]) [] stU staT ⟨⟨?_, rfl⟩, nomem, nomem⟩ fun pu => by simp [pureE, Sk.pure] at pu
            exact hold_mono (unlock_ext hb') _ _ (hold_mono (.of fun a o e _ => t5.ex a o e) _ _ hv)
      · rename_i hsr
        split at hsr <;> simp only [reduceCtorEq] at hsr
      · exact h.elim
    | _ => simp [Sk.pure] at np
end
end TW

/-! ## texts -/
namespace TW
open PySem L2
theorem tlS_tl (s : Str) : tlS s = TL.tl s := rfl
theorem tlS_mk (l : List Nat) : tlS (mkS l) = l := rfl
theorem mkS_tl (s : Str) : mkS (tlS s) = s := TL.mk_tl s
theorem str_dec (n : Int) : Str.ofString (toString n) = mkS (decT n) := by
  refine TL.ext_tl ?_
  show _ = decT n
  unfold decT
  by_cases h : n < 0
  · rw [if_pos h, PyProof.Rows.toString_neg h, TL.tl_ofString]
    obtain ⟨k, hk⟩ : ∃ k : Nat, 0 - n = k := ⟨(0 - n).toNat, by omega⟩
    have e : n.natAbs = k := by omega
    rw [hk, e]
    have t := TL.tl_num k
    rw [TL.tl_ofString] at t
    rw [String.toList_append, List.map_append]
    rw [t]
    rfl
  · rw [if_neg h]
    obtain ⟨k, rfl⟩ : ∃ k : Nat, n = k := ⟨n.toNat, by omega⟩
    exact TL.tl_num k
theorem splT_spl (S : List Nat) : ∀ (l : List Nat) (k : Nat) (acc : List Nat), splT S k acc l = TL.spl S k acc l
  | [], k, acc => by cases k <;> rfl
  | c :: r, 0, acc => by
    show (if preT S (c :: r) = true then acc :: splT S (S.length - 1) [] r else splT S 0 (acc ++ [c]) r) = _
    rw [splT_spl S r, splT_spl S r]
    rfl
  | c :: r, k + 1, acc => splT_spl S r k acc
theorem glueT_join (S : List Nat) : ∀ l : List (List Nat), glueT S l = TL.joinL S l
  | [] => rfl
  | [_] => rfl
  | p :: q :: r => by
    show p ++ (S ++ glueT S (q :: r)) = p ++ (S ++ TL.joinL S (q :: r))
    rw [glueT_join S (q :: r)]
theorem one_of {s : Str} {c : Nat} (h : tlS s = [c]) : s = ⟨#[c]⟩ := TL.ext_tl h
theorem cut_cutS (s : Str) (lo hi : Option Int) : cutS s lo hi = mkS (cut (tlS s) lo hi) := by
  refine TL.ext_tl ?_
  have l : s.length = (tlS s).length := TL.len_tl s
  show (s.cps.toList.drop _).take _ = cut (tlS s) lo hi
  unfold cut
  rw [← clip_le _ _ (Nat.zero_le _), ← clip_le _ _ (Nat.le_refl _), l]
  rfl
theorem upper_of (c : Nat) (h : 97 ≤ c ∧ c ≤ 122) : Txt.upper (mkS [c]) = mkS [c - 32] := by
  have : ∀ k, k < 26 → Txt.upper (mkS [97 + k]) = mkS [97 + k - 32] := by decide +kernel
  have := this (c - 97) (by omega)
  rwa [show 97 + (c - 97) = c by omega] at this
theorem upper_nil : Txt.upper (mkS []) = mkS [] := by decide +kernel
theorem strs_some : ∀ {ds : List D} {ss : List Str}, strs? ds = some ss → ds = ss.map D.str
  | [], ss, h => by simp only [strs?, Option.some.injEq] at h; subst h; rfl
  | d :: r, ss, h => by
    cases d <;> simp only [strs?, reduceCtorEq, Option.map_eq_some_iff] at h
    obtain ⟨m, h1, rfl⟩ := h
    rw [strs_some h1]; rfl
theorem strs_holds {K : PySem.W.Frag} {B : Hp} : ∀ {ss : List Str} {xs : List V}, holds K B (ss.map D.str) xs → xs = ss.map V.str
  | [], _, h => by simp only [List.map_nil, holds] at h; exact h
  | n :: ns, _, h => by
    simp only [List.map_cons, holds, hold] at h
    obtain ⟨x, r, e1, e2, e3⟩ := h
    subst e1; subst e2
    rw [strs_holds e3]; rfl
theorem holds_strs {K : PySem.W.Frag} {B : Hp} : ∀ (ss : List Str), holds K B (ss.map D.str) (ss.map V.str)
  | [] => rfl
  | n :: ns => ⟨.str n, ns.map V.str, rfl, rfl, holds_strs ns⟩
theorem t1_ok {K : PySem.W.Frag} {H : Hp} {o : T1} {d x : D} {v : V} (hr : o.run d = some x) (h : hold K H d v) : ∃ w, scV x = some w ∧ ∀ Q : VK, Q w H → rT1 o v H Q := by
  cases o with
  | strI =>
    cases d <;> simp only [T1.run, reduceCtorEq] at hr
    split at hr <;> simp only [reduceCtorEq, Option.some.injEq] at hr
    rename_i n hl
    subst hr
    simp only [hold] at h
    subst h
    refine ⟨_, rfl, fun Q q => ⟨n, rfl, by omega, ?_⟩⟩
    show Q (.str (Str.ofString (toString n))) H
    rw [str_dec]; exact q
  | intS =>
    cases d <;> simp only [T1.run, reduceCtorEq] at hr
    split at hr <;> simp only [reduceCtorEq, Option.some.injEq] at hr
    rename_i s hl
    obtain ⟨h1, h2, h3⟩ := hl
    subst hr
    simp only [hold] at h
    subst h
    refine ⟨_, rfl, fun Q q => ⟨s, _, rfl, PySem.intText_digits (fun c hc => ?_) h1 (by omega), h3, q⟩⟩
    have := List.all_eq_true.mp h2 c hc
    simp only [Bool.and_eq_true, decide_eq_true_eq] at this
    exact this
  | upper =>
    cases d <;> simp only [T1.run, reduceCtorEq] at hr
    rename_i s
    simp only [hold] at h
    subst h
    split at hr
    · rename_i e
      simp only [Option.some.injEq] at hr
      subst hr
      have e1 : s = mkS [] := by rw [← mkS_tl s, e]
      refine ⟨_, rfl, fun Q q => ⟨⟨s, rfl⟩, s, rfl, rfl, ?_, ?_⟩⟩
      · rw [TL.len_tl, ← tlS_tl, e]; simp
      · rw [e1, upper_nil, ← e1]; exact q
    · rename_i c e
      split at hr <;> simp only [reduceCtorEq, Option.some.injEq] at hr
      rename_i hc
      subst hr
      have e1 : s = mkS [c] := by rw [← mkS_tl s, e]
      refine ⟨_, rfl, fun Q q => ⟨⟨s, rfl⟩, s, rfl, rfl, ?_, ?_⟩⟩
      · rw [TL.len_tl, ← tlS_tl, e]; simp
      · rw [e1, upper_of c hc]; exact q
    · cases hr
theorem t2_sc {K : PySem.W.Frag} {H : Hp} {o : T2} {s : Str} {d x : D} {u : V} (ho : o ≠ .split) (hr : o.run s d = some x) (h : hold K H d u) : ∃ w, scV x = some w ∧ ∀ Q : VK, Q w H → rT2 K o (.str s) u H Q := by
  cases o with
  | split => exact absurd rfl ho
  | inS =>
    cases d <;> simp only [T2.run, reduceCtorEq] at hr
    rename_i b
    simp only [hold] at h
    subst h
    split at hr <;> simp only [reduceCtorEq, Option.some.injEq] at hr
    rename_i c e
    subst hr
    exact ⟨_, rfl, fun Q q => ⟨c, b, by rw [one_of e], rfl, q⟩⟩
  | ninS =>
    cases d <;> simp only [T2.run, reduceCtorEq] at hr
    rename_i b
    simp only [hold] at h
    subst h
    split at hr <;> simp only [reduceCtorEq, Option.some.injEq] at hr
    rename_i c e
    subst hr
    exact ⟨_, rfl, fun Q q => ⟨c, b, by rw [one_of e], rfl, q⟩⟩
  | starts =>
    cases d <;> simp only [T2.run, reduceCtorEq] at hr
    rename_i b
    simp only [hold] at h
    subst h
    split at hr <;> simp only [reduceCtorEq, Option.some.injEq] at hr
    rename_i hb
    subst hr
    refine ⟨_, rfl, fun Q q => ⟨s, b, rfl, rfl, ?_⟩⟩
    have e : Txt.startswith s b = preT (tlS b) (tlS s) := by
      have i := TL.at_iff (x := s) (y := b) hb 0
      rw [List.drop_zero] at i
      unfold Txt.startswith
      rw [Bool.eq_iff_iff, Bool.and_eq_true, decide_eq_true_eq]
      exact i
    rw [e]; exact q
  | join =>
    cases d <;> simp only [T2.run, reduceCtorEq] at hr
    split at hr
    rotate_left
    · cases hr
    rename_i ss es
    split at hr <;> simp only [reduceCtorEq, Option.some.injEq] at hr
    rename_i hl
    subst hr
    have es := strs_some es
    subst es
    simp only [hold] at h
    obtain ⟨p, xs, rfl, h2, h3⟩ := h
    have := strs_holds h3
    subst this
    refine ⟨_, rfl, fun Q q => ⟨s, p, ss, rfl, rfl, .inl (.of h2), Nat.le_trans hl (by decide), ?_⟩⟩
    have e : Txt.join s ss = mkS (glueT (tlS s) (ss.map tlS)) := by
      refine TL.ext_tl ?_
      rw [TL.join_eq, TL.tl_join]
      exact (glueT_join _ _).symm
    rw [e]; exact q
  | lo =>
    cases d <;> simp only [T2.run, reduceCtorEq] at hr
    rename_i i
    simp only [hold] at h
    subst h
    split at hr <;> simp only [reduceCtorEq, Option.some.injEq] at hr
    rename_i hl
    subst hr
    exact ⟨_, rfl, fun Q q => ⟨i, rfl, s, rfl, szl hl, by rw [cut_cutS]; exact q⟩⟩
  | hi =>
    cases d <;> simp only [T2.run, reduceCtorEq] at hr
    rename_i i
    simp only [hold] at h
    subst h
    split at hr <;> simp only [reduceCtorEq, Option.some.injEq] at hr
    rename_i hl
    subst hr
    exact ⟨_, rfl, fun Q q => ⟨i, rfl, s, rfl, szl hl, by rw [cut_cutS]; exact q⟩⟩
theorem split_ok {K : PySem.W.Frag} {H : Hp} {s : Str} {d x : D} {u : V} (hr : T2.run .split s d = some x) (h : hold K H d u) : ∃ ss : List Str, x = .lst (ss.map D.str) ∧ ∀ Q : VK, (∀ p, H p = none → Q (.ref p) (upd H p (.lst (ss.map V.str)))) → rT2 K .split (.str s) u H Q := by
  cases d <;> simp only [T2.run, reduceCtorEq] at hr
  rename_i b
  simp only [hold] at h
  subst h
  split at hr <;> simp only [reduceCtorEq, Option.some.injEq] at hr
  rename_i hl
  obtain ⟨h1, h2, h3⟩ := hl
  subst hr
  refine ⟨(splT (tlS b) 0 [] (tlS s)).map mkS, by rw [List.map_map]; rfl, fun Q q => ⟨s, b, rfl, rfl, ?_, ?_, ?_⟩⟩
  · have : b.length ≠ 0 := by
      rw [TL.len_tl]
      exact fun z => h1 (List.length_eq_zero_iff.mp z)
    simp [this]
  · have e : lim + 2 ≤ sizeLine := by decide
    omega
  · have e : Txt.split s b = (splT (tlS b) 0 [] (tlS s)).map mkS := by
      refine TL.map_tl_inj ?_
      have k : b.cps.all (· < 256) = true := by
        rw [← Array.all_toList]
        exact h2
      rw [TL.split_spl s b h1 (TL.kind_ok k), List.map_map, ← splT_spl]
      have : (TL.tl ∘ mkS) = id := by funext l; rfl
      rw [this, List.map_id]
      rfl
    rw [e]; exact q
section
variable {C : Ctx} {sg : Nat → Sig}
/-- where a new list of texts comes out -/
theorem Post.newTx {ks : Nat → Kind} {pin : Nat → Option V} {B H B1 H1 : Hp} {σ : L2.St} {ρ' : Env} {F F1 : Nat → List Addr} {ss : List Str} {pu : Bool} {Q : VK} {f : List Addr} {p : Addr} (h : Post C ks pin σ B H F ρ' .deep (.lst (ss.map D.str)) pu Q)
    (st1 : Step B H (FP F) B1 H1 (fun a => FP F1 a ∨ a ∈ f)) (sta1 : Sta C ks pin B1 H1 σ ρ' F1) (pu1 : pu = true → Up H H1 ∧ F1 = F) (hp : H1 p = none) : Q (.ref p) (upd H1 p (.lst (ss.map V.str))) := by
  have st3 : Step B H (FP F) B1 (upd H1 p (.lst (ss.map V.str))) (fun a => FP F1 a ∨ a ∈ [p]) := by
    have := Step.row (f := []) (st1.less fun a z => z.elim .inl fun m => by cases m) (Step.new_ (F := F1) (B := B1) (o := .lst (ss.map V.str)) hp (f := [p]) fun a m => List.mem_singleton.mp m)
    exact this
  refine h (.ref p) _ _ F1 [p] st3 (sta1.new_ hp) ⟨⟨p, ss.map V.str, [], rfl, rfl, upd_same, by simp, owns_sc (fun d m => ?_) C.K B1 (holds_strs ss)⟩, fun a m => ?_, fun a m => ?_⟩ fun z => ⟨(pu1 z).1.trans fun a o e _ => upd_up hp a o e, (pu1 z).2⟩
  · obtain ⟨n, _, rfl⟩ := List.mem_map.mp m; rfl
  · rw [List.mem_singleton.mp m]; exact sta1.freeF hp
  · rw [List.mem_singleton.mp m]; exact sta1.freeB hp
theorem snd_t1 {o : T1} {a : IE} (ha : SndE C sg a) : SndE C sg (.t1 o a) := by
  intro nb ks hnb pin W B H σ ρ F k' Q hk sta h
  simp only [kE] at hk
  split at hk <;> simp only [reduceCtorEq, Option.some.injEq] at hk
  rename_i ka e1
  subst hk
  simp only [evE] at h
  refine ha nb ks hnb pin W B H σ ρ F ka _ e1 sta ?_
  cases ev : evE C.Φ a ρ with
  | bad => rw [ev] at h; exact h
  | exc c => rw [ev] at h; exact h
  | ok q =>
    obtain ⟨d, ρ1⟩ := q
    rw [ev] at h
    intro v B1 H1 F1 f st1 sta1 has1 pu1
    simp only at h
    cases er : o.run d with
    | none => rw [er] at h; exact h.elim
    | some x =>
    rw [er] at h
    obtain ⟨w, hw, q⟩ := t1_ok er (vrep_hold sta1.sub has1.rep)
    exact q Q (Post.sc h hw st1 sta1 pu1)
theorem andIf_mk {b : Bool} {p q : Prop} (h : p) (g : q) : andIf b p q := by cases b; exact g; exact ⟨h, g⟩
theorem snd_t2 {o : T2} {a b : IE} (ha : SndE C sg a) (hb : SndE C sg b) : SndE C sg (.t2 o a b) := by
  intro nb ks hnb pin W B H σ ρ F k' Q hk sta h
  simp only [kE] at hk
  split at hk <;> simp only [reduceCtorEq, Option.some.injEq] at hk
  rename_i ka kb e1 e2
  subst hk
  simp only [evE] at h
  refine ha nb ks hnb pin W B H σ ρ F ka _ e1 sta ?_
  cases ev : evE C.Φ a ρ with
  | bad => rw [ev] at h; exact h
  | exc c => rw [ev] at h; exact h
  | ok q =>
    obtain ⟨d, ρ1⟩ := q
    rw [ev] at h
    intro v B1 H1 F1 f1 st1 sta1 has1 pu1
    cases d with
    | str s =>
      have g := vrep_hold sta1.sub has1.rep
      simp only [hold] at g
      subst g
      refine andIf_mk ⟨s, rfl⟩ ?_
      simp only at h
      refine hb nb ks hnb pin W B1 H1 σ ρ1 F1 kb _ e2 sta1 ?_
      cases ev2 : evE C.Φ b ρ1 with
      | bad => rw [ev2] at h; exact h
      | exc c => rw [ev2] at h; exact fun H' x t => h H' (x.of st1) t
      | ok q =>
        obtain ⟨e, ρ2⟩ := q
        rw [ev2] at h
        intro u B2 H2 F2 f2 st2 sta2 has2 pu2
        simp only at h
        cases er : o.run s e with
        | none => rw [er] at h; exact h.elim
        | some x =>
        rw [er] at h
        have g2 := vrep_hold sta2.sub has2.rep
        have pu : pureE sg (.t2 o a b) = true → Up H H2 ∧ F2 = F := fun z => by
          simp only [pureE, Bool.and_eq_true] at z
          obtain ⟨u1, w1⟩ := pu1 z.1
          obtain ⟨u2, w2⟩ := pu2 z.2
          exact ⟨u1.trans u2, w2.trans w1⟩
        by_cases ho : o = .split
        · subst ho
          obtain ⟨ss, rfl, q⟩ := split_ok er g2
          exact q Q fun p hp => Post.newTx h (st1.row st2) sta2 pu hp
        · obtain ⟨w, hw, q⟩ := t2_sc ho er g2
          have kd : o.kd = .im := by cases o <;> first | rfl | exact absurd rfl ho
          rw [kd] at h
          exact q Q (Post.sc h hw (st1.row st2) sta2 pu)
    | _ => exact h.elim
theorem snd_t3 {a b c : IE} (ha : SndE C sg a) (hb : SndE C sg b) (hc : SndE C sg c) : SndE C sg (.t3 a b c) := by
  intro nb ks hnb pin W B H σ ρ F k' Q hk sta h
  simp only [kE] at hk
  split at hk <;> simp only [reduceCtorEq, Option.some.injEq] at hk
  rename_i ka kb kc e1 e2 e3
  subst hk
  simp only [evE] at h
  refine ha nb ks hnb pin W B H σ ρ F ka _ e1 sta ?_
  cases ev : evE C.Φ a ρ with
  | bad => rw [ev] at h; exact h
  | exc c => rw [ev] at h; exact h
  | ok q =>
    obtain ⟨d, ρ1⟩ := q
    rw [ev] at h
    intro v B1 H1 F1 f1 st1 sta1 has1 pu1
    cases d with
    | str s =>
      have g := vrep_hold sta1.sub has1.rep
      simp only [hold] at g
      subst g
      simp only at h
      refine hb nb ks hnb pin W B1 H1 σ ρ1 F1 kb _ e2 sta1 ?_
      cases ev2 : evE C.Φ b ρ1 with
      | bad => rw [ev2] at h; exact h
      | exc c => rw [ev2] at h; exact fun H' x t => h H' (x.of st1) t
      | ok q =>
        obtain ⟨e, ρ2⟩ := q
        rw [ev2] at h
        intro u B2 H2 F2 f2 st2 sta2 has2 pu2
        cases e with
        | int i =>
          have g2 := vrep_hold sta2.sub has2.rep
          simp only [hold] at g2
          subst g2
          simp only at h
          refine ⟨i, rfl, ?_⟩
          have st12 : Step B H (FP F) B2 H2 (fun a => FP F2 a ∨ a ∈ f1 ++ f2) := st1.row st2
          refine hc nb ks hnb pin W B2 H2 σ ρ2 F2 kc _ e3 sta2 ?_
          cases ev3 : evE C.Φ c ρ2 with
          | bad => rw [ev3] at h; exact h
          | exc c => rw [ev3] at h; exact fun H' x t => h H' (x.of st12) t
          | ok q =>
            obtain ⟨e', ρ3⟩ := q
            rw [ev3] at h
            intro u3 B3 H3 F3 f3 st3 sta3 has3 pu3
            cases e' with
            | int j =>
              have g3 := vrep_hold sta3.sub has3.rep
              simp only [hold] at g3
              subst g3
              simp only at h
              split at h
              · rename_i hl
                refine ⟨j, rfl, s, rfl, szl hl, ?_⟩
                rw [cut_cutS]
                exact Post.sc h rfl (st12.row st3) sta3 fun z => by
                  simp only [pureE, Bool.and_eq_true] at z
                  obtain ⟨u1, w1⟩ := pu1 z.1.1
                  obtain ⟨u2, w2⟩ := pu2 z.1.2
                  obtain ⟨u3, w3⟩ := pu3 z.2
                  exact ⟨(u1.trans u2).trans u3, (w3.trans w2).trans w1⟩
              · exact h.elim
            | _ => exact h.elim
        | _ => exact h.elim
    | _ => exact h.elim
end
end TW

namespace TW
open PySem L2
section
variable {C : Ctx} {sg : Nat → Sig}
/-- a thing that no name and nothing known tells of is written -/
theorem Sta.off {ks : Nat → Kind} {pin : Nat → Option V} {B H : Hp} {σ : L2.St} {ρ : Env} {F : Nat → List Addr} {p : Addr} {o ob : HO} (sta : Sta C ks pin B H σ ρ F) (hnb : ∀ j, (ks j).borrowed = false) (nf : ¬ FP F p) (bp : B p = none) (h1 : H p = some ob) (h2 : Lay ob) : Sta C ks pin B (upd H p o) σ ρ F where
  len := sta.len
  sub := fun a u e => by
    obtain ⟨h1, h2⟩ := sta.sub a u e
    exact ⟨put_up h1 (fun z => by rw [z, bp] at e; cases e), h2⟩
  tab := tabs_upd sta.tab h1 (.inl h2)
  rep := fun j d e => by
    obtain ⟨w, w1, w2⟩ := sta.rep j d e
    refine ⟨w, w1, ?_⟩
    have np : ∀ a ∈ F j, a ≠ p := fun a m z => nf ⟨j, z ▸ m⟩
    have nbj := hnb j
    cases q : ks j <;> rw [q] at w2 nbj <;> simp only [vrep] at w2 ⊢
    · exact w2
    · exact w2
    · rcases w2 with w2 | ⟨r, r1, r2, r3⟩
      · exact .inl w2
      · exact .inr ⟨r, r1, r2, topAt_keep r3 (.of fun _ _ e _ => e) fun u e _ => put_up e (np r (by rw [r2]; exact List.mem_singleton.mpr rfl))⟩
    · exact own_keep d w (F j) w2 fun a m u e _ => put_up e (np a m)
    · cases nbj
    · cases nbj
  nf := sta.nf
  dj := sta.dj
  nB := sta.nB
  pin := sta.pin
theorem snd_dic1 {a b : IE} (ha : SndE C sg a) (hb : SndE C sg b) : SndE C sg (.dic1 a b) := by
  intro nb ks hnb pin W B H σ ρ F k' Q hk sta h
  simp only [kE] at hk
  split at hk <;> try (simp only [reduceCtorEq] at hk)
  rename_i k hk1 hk2
  split at hk <;> simp only [reduceCtorEq, Option.some.injEq] at hk
  rename_i hp
  subst hk
  rw [Bool.and_eq_true] at hp
  have hnb' := hnb hp.1
  intro p hp0
  have sta0 := sta.new_ (o := .dK []) hp0
  have nF : ¬ FP F p := sta.freeF hp0
  refine ha nb ks hnb pin W B _ σ ρ F _ _ hk1 sta0 ?_
  simp only [evE] at h
  cases ev : evE C.Φ a ρ with
  | bad => rw [ev] at h; exact h
  | exc c =>
    rw [ev] at h
    exact fun H' x t => h H' ⟨fun a o e n z => x.1 a o (upd_up hp0 a o e) n z, fun a e => x.2 a (by
      by_cases n : a = p
      · rw [n, upd_same]; simp
      · rw [upd_ne n]; exact e)⟩ t
  | ok q =>
    obtain ⟨d, ρ1⟩ := q
    rw [ev] at h
    intro v B1 H1 F1 f1 st1 sta1 has1 pu1
    have g := vrep_hold sta1.sub has1.rep
    cases d with
    | int i =>
      simp only at h
      simp only [hold] at g
      subst g
      have ef1 : f1 = [] := has1.rep.2
      subst ef1
      refine hb nb ks hnb pin W B1 H1 σ ρ1 F1 _ _ hk2 sta1 ?_
      cases ev2 : evE C.Φ b ρ1 with
      | bad => rw [ev2] at h; exact h
      | exc c =>
        rw [ev2] at h
        refine fun H' x t => h H' ?_ t
        have x1 := x.of st1
        exact ⟨fun a o e n z => x1.1 a o (upd_up hp0 a o e) n z, fun a e => x1.2 a (by
          by_cases n : a = p
          · rw [n, upd_same]; simp
          · rw [upd_ne n]; exact e)⟩
      | ok q =>
      obtain ⟨d2, ρ2⟩ := q
      rw [ev2] at h
      simp only at h
      have h : Post C ks pin σ B H F ρ2 .top (.dic [(i, d2)]) (pureE sg (.dic1 a b)) Q := h
      intro v2 B2 H2 F2 f2 st2 sta2 has2 pu2
      have st := st1.row st2
      rw [List.nil_append] at st
      have p2 : H2 p = some (.dK []) := st.up p _ upd_same nF nt_dK
      have pF : ¬ FP F2 p := fun z => (st.new p (.inl z)).elim nF fun q => by rw [upd_same] at q; cases q
      have pf : p ∉ f2 := fun z => (st.new p (.inr z)).elim nF fun q => by rw [upd_same] at q; cases q
      have pB : B2 p = none := by
        cases e : B2 p with
        | none => rfl
        | some o =>
          rcases st.newB p (by rw [e]; simp) with q | q | q
          · exact absurd (sta.freeB hp0) q
          · exact absurd q nF
          · rw [upd_same] at q; cases q
      refine ⟨p2, [(.inl i, v2)], rfl, by simp, ?_⟩
      have stJ := st.join (g := f2) has2.nB fun _ m => m
      have staJ := sta2.absorb has2.at has2.dj has2.nB
      have pJ : join B2 H2 f2 p = none := by rw [join_out pf]; exact pB
      have staF := staJ.off (o := .dK (mergeK [] [(.inl i, v2)])) hnb' pF pJ p2 (.inr (.inr (.inl ⟨_, rfl⟩)))
      refine h (.ref p) _ _ F2 [p] ⟨stJ.ex, fun a o e n z => put_up (stJ.up a o (upd_up hp0 a o e) n z) (fun q => by rw [q, hp0] at e; cases e), fun a e => ?_, fun a z => ?_, fun a z => ?_⟩ staF ⟨.inr ⟨p, rfl, rfl, _, upd_same, v2, [], rfl, has2.open_ hp.2, rfl⟩, fun a m => ?_, fun a m => ?_⟩ fun pu => ?_
      · by_cases n : a = p
        · rw [n, upd_same]; simp
        · rw [upd_ne n]; exact stJ.th a (by rw [upd_ne n]; exact e)
      · rcases z with z | m
        · rcases stJ.new a z with q | q
          · exact .inl q
          · by_cases n : a = p
            · rw [n, upd_same] at q; cases q
            · rw [upd_ne n] at q; exact .inr q
        · rw [List.mem_singleton.mp m]; exact .inr hp0
      · rcases stJ.newB a z with q | q | q
        · exact .inl q
        · exact .inr (.inl q)
        · by_cases n : a = p
          · rw [n, upd_same] at q; cases q
          · rw [upd_ne n] at q; exact .inr (.inr q)
      · rw [List.mem_singleton.mp m]; exact pF
      · rw [List.mem_singleton.mp m]; exact pJ
      · simp only [pureE, Bool.and_eq_true] at pu
        obtain ⟨u1, e1⟩ := pu1 pu.1
        obtain ⟨u2, e2⟩ := pu2 pu.2
        exact ⟨fun a o e n => put_up (u2 a o (u1 a o (upd_up hp0 a o e) n) n) (fun q => by rw [q, hp0] at e; cases e), e2.trans e1⟩
    | _ => exact h.elim
theorem st_st : ∀ (ρ : Env) (i : Nat) (a b : Option D), st (st ρ i a) i b = st ρ i b
  | [], _, _, _ => rfl
  | _ :: _, 0, _, _ => rfl
  | x :: r, i + 1, a, b => by simp only [st, st_st r i a b]
/-- the block's name is given back -/
theorem Sta.fill {ks : Nat → Kind} {pin : Nat → Option V} {B H : Hp} {σ : L2.St} {ρ : Env} {F : Nat → List Addr} {t : Nat} (s : Sta C ks (fun _ => none) B H (wipe σ [t]) ρ F) (hg : gt ρ t = none) (hp : ∀ j v, pin j = some v → σ[j]? = some (some v)) : Sta C ks pin B H σ ρ F where
  len := by have := s.len; rw [wipe_length] at this; exact this
  sub := s.sub
  tab := s.tab
  rep := fun i d e => by
    obtain ⟨w, h1, h2⟩ := s.rep i d e
    have n : i ∉ [t] := fun z => by rw [List.mem_singleton.mp z, hg] at e; cases e
    rw [L2.wipe_out n] at h1
    exact ⟨w, h1, h2⟩
  nf := s.nf
  dj := s.dj
  nB := s.nB
  pin := hp
/-- a comprehension whose item may write -/
theorem snd_lcM {a elt : IE} {i : Nat} (ha : SndE C sg a) (he : SndE C sg elt) : SndE C sg (.lcM a i elt) := by
  intro nb ks hnb pin W B H σ ρ F k' Q hk sta h
  simp only [kE] at hk
  split at hk <;> try (simp only [reduceCtorEq] at hk)
  rename_i ka e1 e2
  split at hk <;> simp only [reduceCtorEq, Option.some.injEq] at hk
  rename_i cond
  obtain ⟨nbt, ki⟩ := cond
  subst hk
  subst nbt
  have hnb := hnb rfl
  have kb : setK ks [i] .sh = ks := funext fun j => by
    unfold setK
    split
    · rename_i m; rw [List.mem_singleton.mp m, ki]
    · rfl
  simp only [evE] at h
  have ec : evE C.Φ (.cst .non) = fun ρ => .ok (.non, ρ) := by funext ρ; simp only [evE]
  have so0 : iSrc C.K .r1 (rdE C a W) (rdE C (.cst .non) W) (rdE C (.cst .non) W) σ H (fun J H1 => ∀ D, H1 D = none → ∃ W : Nat → Nat → Hp → Prop, (∃ m, W 0 m (upd H1 D (.lst []))) ∧ ∀ j m H, W j m H →
  (J.stop j H ∧ Q (.ref D) H) ∨ (J.go j H ∧ ∃ Nx : Hp → Prop, (∀ H', Nx H' → ∃ m', m' < m ∧ W (j + 1) m' H') ∧ ∀ x H', J.yld j H x H' → rdTg C.K (.nm i) x (wipe σ [i]) H' fun σ2 H2 => wipe σ2 [i] = wipe σ [i] ∧ tB (rdE C (.cst (.bl true)) Wno) σ2 H2 fun b H3 =>
    if b = true then rdE C elt Wno σ2 H3 fun y H4 => ∃ acc, H4 D = some (.lst acc) ∧ acc.length < sizeLine ∧ Nx (upd H4 D (.lst (acc ++ [y]))) else Nx H3)) := by
    refine snd_src (k := .r1) (W := W) (b := .cst .non) (c := .cst .non) ha (snd_cst .non) (snd_cst .non) (nb := true) (fun _ => hnb) e1 (by rfl : kE sg true ks (.cst .non) = some .im) (by rfl : kE sg true ks (.cst .non) = some .im) rfl rfl sta ?_
    rw [ec]
    cases er : srcRes .r1 (evE C.Φ a ρ) (fun ρ => .ok (.non, ρ)) (fun ρ => .ok (.non, ρ)) with
    | bad => rw [er] at h; exact h
    | exc c => rw [er] at h; exact h
    | ok q =>
    obtain ⟨ds, ρ3⟩ := q
    rw [er] at h
    simp only at h
    split at h
    rotate_left
    · exact h.elim
    rename_i hlim
    cases eg : lcGoM i (evE C.Φ elt) ds (st ρ3 i none) with
    | none => rw [eg] at h; exact h.elim
    | some q =>
    obtain ⟨rs, ρ4⟩ := q
    rw [eg] at h
    simp only at h
    have sci : ∀ d ∈ ds, ∃ n, d = .int n := by
      intro d hd
      cases ea : evE C.Φ a ρ with
      | bad => rw [ea] at er; cases er
      | exc c => rw [ea] at er; cases er
      | ok q =>
      obtain ⟨x, ρ1⟩ := q
      rw [ea] at er
      simp only [srcRes] at er
      split at er <;> simp only [reduceCtorEq, Res.ok.injEq, Prod.mk.injEq] at er
      rename_i ds' es
      obtain ⟨rfl, rfl⟩ := er
      cases x <;> simp only [srcOf, reduceCtorEq] at es
      split at es <;> simp only [reduceCtorEq, Option.some.injEq] at es
      subst es
      obtain ⟨n, _, rfl⟩ := List.mem_map.mp hd
      exact ⟨n, rfl⟩
    intro J G Y B3 H3 F3 st3 sta3 pu3 so p hp
    have staW := sta3.wiped [i] .sh
    rw [kb] at staW
    refine lc_it so.w (fun j H' => ∃ ρe B' F' done acc rest, lcGoM i (evE C.Φ elt) (ds.drop j) ρe = some (rest, ρ4) ∧ rs = done ++ rest ∧ Step B3 H3 (FP F3) B' H' (fun a => FP F' a ∨ a = p) ∧ Sta C ks (fun _ => none) B' H' (wipe σ [i]) (st ρe i none) F' ∧ H' p = some (.lst acc) ∧ acc.length ≤ j ∧ owns H' done acc [] ∧ ¬ FP F' p ∧ B' p = none) ?_ ?_ ?_ ?_
    · refine ⟨st ρ3 i none, B3, outF F3 [i], [], [], rs, eg, rfl, ?_, ?_, upd_same, Nat.le_refl _, ⟨rfl, rfl⟩, fun z => sta3.freeF hp (outF_fp z), sta3.freeB hp⟩
      · exact (Step.new_ (f := [p]) hp fun a m => List.mem_singleton.mp m).less fun a z => z.imp outF_fp fun e => List.mem_singleton.mpr e
      · rw [st_st]
        exact staW.new_ hp
    · rintro j H' hj ⟨ρe, B', F', done, acc, rest, _, _, st', sta', _⟩
      exact so.g2 rfl H' fun a o e => sta'.sub a o (st'.ex a o e)
    · rintro j x H1 H1' hj ⟨ρe, B1, F1, done, acc, rest, hr, ers, st1, sta1, hp1, hl1, ow1, nf1, nb1⟩ y
      obtain ⟨rfl, d, hd, hx⟩ := so.it j _ x _ hj y
      obtain ⟨n, rfl⟩ := sci d (List.mem_of_getElem? hd)
      have hx1 : hold C.K (hB .sh B1 H1') (.int n) x := by simp only [hold] at hx ⊢; exact hx
      have edr : ds.drop j = .int n :: ds.drop (j + 1) := by
        rw [List.drop_eq_getElem_cons hj]
        rw [List.getElem?_eq_getElem hj] at hd
        rw [Option.some.inj hd]
      rw [edr] at hr
      simp only [lcGoM] at hr
      refine tg_ok (t := .nm i) (.inl rfl) sta1 hx1 (fun j m => by rw [List.mem_singleton.mp m]; exact ki) (fun _ _ => rfl) (ρ' := st ρe i (some (.int n))) (by simp only [Tg.put, st_st]) fun σ2 F2 sta2 f2 l2 g2 => ⟨wipe_back l2 g2, ?_⟩
      refine ⟨.bl true, rfl, true, rfl, ?_⟩
      simp only [↓reduceIte]
      refine he true ks (fun _ => hnb) (fun _ => none) Wno B1 H1' σ2 (st ρe i (some (.int n))) F2 .im _ e2 sta2 ?_
      cases ee : evE C.Φ elt (st ρe i (some (.int n))) with
      | bad => rw [ee] at hr; cases hr
      | exc c => rw [ee] at hr; cases hr
      | ok q =>
      obtain ⟨w, ρ5⟩ := q
      rw [ee] at hr
      simp only at hr
      split at hr
      rotate_left
      · cases hr
      cases el : lcGoM i (evE C.Φ elt) (ds.drop (j + 1)) ρ5 with
      | none => rw [el] at hr; cases hr
      | some q =>
      obtain ⟨r, ρ6⟩ := q
      rw [el] at hr
      simp only [Option.some.injEq, Prod.mk.injEq] at hr
      obtain ⟨rfl, rfl⟩ := hr
      intro v4 B4 H4 F4 f4 st4 sta4 has4 pu4
      obtain ⟨sv, rfl⟩ := has4.rep
      have hp4 : H4 p = some (.lst acc) := st4.up p _ hp1 (fun z => nf1 (f2 p z)) nt_lst
      have nf4 : ¬ FP F4 p := fun z => (st4.new p (.inl z)).elim (fun q => nf1 (f2 p q)) fun q => by rw [hp1] at q; cases q
      have nb4 : B4 p = none := by
        cases e : B4 p with
        | none => rfl
        | some o =>
          rcases st4.newB p (by rw [e]; simp) with q | q | q
          · exact absurd nb1 q
          · exact absurd (f2 p q) nf1
          · rw [hp1] at q; cases q
      have h30 : ∀ a, H1' a = none → H3 a = none := fun a z => by
        cases e : H3 a with
        | none => rfl
        | some o => exact absurd z (st1.th a (by rw [e]; simp))
      have staW4 := sta4.wiped [i] .sh
      rw [kb, wipe_back l2 g2] at staW4
      refine ⟨acc, hp4, Nat.lt_of_le_of_lt hl1 (Nat.lt_of_lt_of_le hj (Nat.le_trans hlim (by decide))), ρ5, B4, outF F4 [i], done ++ [w], acc ++ [v4], r, el, by rw [ers, List.append_assoc]; rfl, ⟨fun a o e => st4.ex a o (st1.ex a o e), fun a o e n z => ?_, fun a z => ?_, fun a z => ?_, fun a z => ?_⟩, staW4.off hnb (fun z => nf4 (outF_fp z)) nb4 hp4 (.inl ⟨_, rfl⟩), upd_same, by rw [List.length_append]; simp; omega, ?_, fun z => nf4 (outF_fp z), nb4⟩
      · refine put_up (st4.up a o (st1.up a o e n z) (fun q => (st1.new a (.inl (f2 a q))).elim n fun r => by rw [e] at r; cases r) z) fun q => ?_
        rw [q, hp] at e; cases e
      · by_cases e : a = p
        · rw [e, upd_same]; simp
        · rw [upd_ne e]; exact st4.th a (st1.th a z)
      · rcases z with z | z
        · rcases st4.new a (.inl (outF_fp z)) with q | q
          · exact st1.new a (.inl (f2 a q))
          · exact .inr (h30 a q)
        · rw [z]; exact .inr hp
      · rcases st4.newB a z with q | q | q
        · exact st1.newB a q
        · exact .inr (st1.new a (.inl (f2 a q)))
        · exact .inr (.inr (h30 a q))
      · exact owns_append (owns_keep _ _ _ ow1 fun a m => by cases m) (owns_one (own_sc sv)) nomem
    · rintro H' ⟨ρe, B', F', done, acc, rest, hr, ers, st', sta', hp', hl', ow', nf', nb'⟩
      rw [List.drop_length] at hr
      simp only [lcGoM, Option.some.injEq, Prod.mk.injEq] at hr
      obtain ⟨rfl, rfl⟩ := hr
      rw [List.append_nil] at ers
      subst ers
      have stT : Step B3 H3 (FP F3) B' H' (fun a => FP F' a ∨ a ∈ [p]) := st'.less fun a z => z.imp (fun q => q) fun m => List.mem_singleton.mp m
      have gi : gt (st ρe i none) i = none := by
        rw [gt_st]
        split
        · rfl
        · rename_i n
          cases q : gt ρe i with
          | none => rfl
          | some d => exact absurd ⟨rfl, gt_lt q⟩ n
      refine h (.ref p) B' H' F' [p] (Step.row (f := []) (st3.less fun a z => z.elim (fun q => q) fun m => by cases m) stT) (sta'.fill gi sta3.pin) ⟨⟨p, acc, [], rfl, rfl, hp', by simp, ow'⟩, fun a m => ?_, fun a m => ?_⟩ fun pu => by simp [pureE] at pu
      · rw [List.mem_singleton.mp m]; exact nf'
      · rw [List.mem_singleton.mp m]; exact nb'
  exact so0
def sel {α : Type} : List Bool → List α → List α
  | b :: m, x :: xs => if b = true then x :: sel m xs else sel m xs
  | _, _ => []
theorem sel_snoc {α : Type} : ∀ {m : List Bool} {xs : List α} {x : α} {b : Bool}, xs[m.length]? = some x → sel (m ++ [b]) xs = sel m xs ++ if b = true then [x] else []
  | [], [], _, _, h => by simp at h
  | [], y :: xs, x, b, h => by
    simp at h; subst h
    cases b <;> simp [sel]
  | c :: m, [], _, _, h => by simp at h
  | c :: m, y :: xs, x, b, h => by
    have ih := sel_snoc (m := m) (xs := xs) (x := x) (b := b) (by simpa using h)
    simp only [List.cons_append, sel, ih]
    cases c <;> simp
theorem owns_sel {H : Hp} : ∀ (m : List Bool) {ds : List D} {xs : List V} {g : List Addr}, owns H ds xs g → ∃ g', owns H (sel m ds) (sel m xs) g' ∧ ∀ a ∈ g', a ∈ g
  | [], ds, xs, g, _ => ⟨[], by cases ds <;> cases xs <;> exact ⟨rfl, rfl⟩, nomem⟩
  | b :: m, [], xs, g, h => ⟨[], by obtain ⟨rfl, _⟩ := h; exact ⟨rfl, rfl⟩, nomem⟩
  | b :: m, d :: ds, xs, g, h => by
    obtain ⟨x, r, g1, g2, rfl, rfl, h1, h2, dj⟩ := h
    obtain ⟨g', k1, k2⟩ := owns_sel m h2
    cases b with
    | false => exact ⟨g', k1, fun a ha => List.mem_append_right _ (k2 a ha)⟩
    | true => exact ⟨g1 ++ g', ⟨x, sel m r, g1, g', rfl, rfl, h1, k1, fun a ha z => dj a ha (k2 a z)⟩, fun a ha => (List.mem_append.mp ha).elim (fun z => List.mem_append_left _ z) fun z => List.mem_append_right _ (k2 a z)⟩
/-- an own list, those left out that fail a test -/
theorem snd_filt {i t : Nat} {test : IE} (ht : SndE C sg test) : SndE C sg (.filt i t test) := by
  intro nb ks hnb pin W B H σ ρ F k' Q hk sta h
  simp only [kE] at hk
  split at hk <;> try (simp only [reduceCtorEq] at hk)
  rename_i kt hkt
  split at hk <;> simp only [reduceCtorEq, Option.some.injEq] at hk
  rename_i cond
  obtain ⟨nbt, ki, pt⟩ := cond
  subst hk
  simp only [evE] at h
  cases e0 : gt ρ i with
  | none => rw [e0] at h; exact h.elim
  | some d0 =>
  rw [e0] at h
  cases d0 with
  | lst ds =>
    simp only at h
    split at h
    rotate_left
    · exact h.elim
    rename_i hlim
    obtain ⟨hlim, tl⟩ := hlim
    cases eg : flGo t (evE C.Φ test) ρ ds with
    | none => rw [eg] at h; exact h.elim
    | some rs =>
    rw [eg] at h
    simp only at h
    obtain ⟨v, hv, r⟩ := sta.rep i _ e0
    rw [ki] at r
    obtain ⟨p0, xs, g, rfl, ef, t1, t2, t3⟩ := r
    have xl := owns_length t3
    have hxs : holds C.K H ds xs := owns_hold _ _ _ t3 fun _ _ _ e _ => e
    have key : iSrc C.K .lst (tVar i) (tCst .non) (tCst .non) σ H (fun J H1 => ∀ D, H1 D = none → ∃ W : Nat → Nat → Hp → Prop, (∃ m, W 0 m (upd H1 D (.lst []))) ∧ ∀ j m H, W j m H →
      (J.stop j H ∧ Q (.ref D) H) ∨ (J.go j H ∧ ∃ Nx : Hp → Prop, (∀ H', Nx H' → ∃ m', m' < m ∧ W (j + 1) m' H') ∧ ∀ x H', J.yld j H x H' → rdTg C.K (.nm t) x (wipe σ [t]) H' fun σ2 H2 => wipe σ2 [t] = wipe σ [t] ∧ tB (rdE C test Wno) σ2 H2 fun b H3 =>
        if b = true then tVar t σ2 H3 fun y H4 => ∃ acc, H4 D = some (.lst acc) ∧ acc.length < sizeLine ∧ Nx (upd H4 D (.lst (acc ++ [y]))) else Nx H3)) := by
      refine ⟨.ref p0, hv, p0, rfl, ⟨xs, .of t1⟩, fun p hp => ?_⟩
      refine lc_it (walk_list (K := C.K) (a := p0) (xs := xs)) (fun j H' => ∃ B' mask rest, mask.length = j ∧ flGo t (evE C.Φ test) ρ (ds.drop j) = some rest ∧ rs = sel mask ds ++ rest ∧ Step B H Nil B' H' (fun a => a = p) ∧ Sub B' H' ∧ NdefX.TabsN C.T H' ∧ B' p = none ∧ H' p = some (.lst (sel mask xs)) ∧ (sel mask xs).length ≤ j) ?_ ?_ ?_ ?_
      · refine ⟨B, [], rs, rfl, eg, rfl, ⟨fun _ _ e => e, fun a o e _ _ => upd_up hp a o e, fun a h => ?_, fun a e => .inr (by rw [e]; exact hp), fun _ h => .inl h⟩, fun a o e => ⟨upd_up hp a o (sta.sub a o e).1, (sta.sub a o e).2⟩, sta.tab.ext (upd_up hp), sta.freeB hp, by rw [upd_same]; cases xs <;> rfl, by cases xs <;> exact Nat.le_refl _⟩
        by_cases e : a = p
        · rw [e, upd_same]; simp
        · rw [upd_ne e]; exact h
      · rintro j H' hj ⟨B', mask, rest, _, _, _, s', _⟩
        exact .of (s'.up _ _ t1 (fun z => z) nt_lst)
      · rintro j x H1 H1' hj ⟨B1, mask, rest, ml, hr, ers, s1, sub1, tab1, nb1, hp1, al1⟩ y
        obtain ⟨rfl, hx⟩ := y
        obtain ⟨d, hd, hdx⟩ := holds_get' hxs hx
        have up1 : Up H H1' := fun a o e n => s1.up a o e (fun z => z) n
        have hdx1 : hold C.K H1' d x := hold_mono up1.ext _ _ hdx
        have hjd : j < ds.length := by rw [xl]; exact hj
        have edr : ds.drop j = d :: ds.drop (j + 1) := by
          rw [List.drop_eq_getElem_cons hjd]
          rw [List.getElem?_eq_getElem hjd] at hd
          rw [Option.some.inj hd]
        rw [edr] at hr
        simp only [flGo] at hr
        cases et : evE C.Φ test (st ρ t (some d)) with
        | bad => rw [et] at hr; cases hr
        | exc c => rw [et] at hr; cases hr
        | ok q =>
        obtain ⟨b, ρ2⟩ := q
        rw [et] at hr
        have staW := (sta.wiped [t] .bo).step s1 sub1 tab1
        obtain ⟨F2, sta2, _⟩ := staW.bind (i := t) (d := d) (v := x) (g := []) (by
          have : setK ks [t] .bo t = .bo := if_pos (List.mem_singleton.mpr rfl)
          rw [this]; exact ⟨hdx1, rfl⟩) nomem nomem rfl
        have est : st (wipeE ρ [t]) t (some d) = st ρ t (some d) := by simp only [wipeE, st_st]
        rw [est] at sta2
        have tσ : t < σ.length := Nat.lt_of_lt_of_le tl sta.len
        have tw : t < (wipe σ [t]).length := by rw [wipe_length]; exact tσ
        refine ⟨by simp only [wipe, List.set_set], ?_⟩
        refine ht false _ (fun z => by cases z) _ Wno B1 H1' _ _ F2 kt _ hkt sta2 ?_
        rw [et]
        intro v3 B3 H3 F3 f3 st3 sta3 has3 pu3
        have sp := st3.pure_ sta3 has3 (pu3 pt)
        have gb := vrep_hold sta3.sub has3.rep
        have nb3 : B3 p = none := by
          cases e : B3 p with
          | none => rfl
          | some o =>
            rcases sp.newB p (by rw [e]; simp) with q | q | q
            · exact absurd nb1 q
            · exact q.elim
            · rw [hp1] at q; cases q
        have hp3 : H3 p = some (.lst (sel mask xs)) := sp.up _ _ hp1 (fun z => z) nt_lst
        have s3 : Step B H Nil B3 H3 (fun a => a = p) := (s1.row0 sp).less fun a z => .inl z
        have hxm : xs[mask.length]? = some x := by rw [ml]; exact hx
        have hdm : ds[mask.length]? = some d := by rw [ml]; exact hd
        cases b with
        | bl b =>
          simp only [hold] at gb
          simp only at hr
          cases el : flGo t (evE C.Φ test) ρ (ds.drop (j + 1)) with
          | none => rw [el] at hr; cases hr
          | some r' =>
          rw [el] at hr
          simp only [Option.some.injEq] at hr
          refine ⟨b, gb, ?_⟩
          cases b with
          | false =>
            simp only [Bool.false_eq_true, ↓reduceIte] at hr ⊢
            subst hr
            refine ⟨B3, mask ++ [false], r', by simp [ml], rfl, ?_, s3, sta3.sub, sta3.tab, nb3, ?_, ?_⟩
            · rw [sel_snoc hdm, ers]; simp
            · rw [sel_snoc hxm, hp3]; simp
            · rw [sel_snoc hxm]; simp; omega
          | true =>
            simp only [↓reduceIte] at hr ⊢
            subst hr
            refine ⟨x, List.getElem?_set_self tw, sel mask xs, hp3, Nat.lt_of_le_of_lt al1 (Nat.lt_of_lt_of_le hjd (Nat.le_trans hlim (by decide))), B3, mask ++ [true], r', by simp [ml], rfl, ?_, ⟨s3.ex, fun a o e n z => ?_, fun a h => ?_, s3.new, s3.newB⟩, fun a o e => ?_, tabs_upd sta3.tab hp3 (.inl (.inl ⟨_, rfl⟩)), nb3, ?_, ?_⟩
            · rw [sel_snoc hdm, ers]; simp
            · exact put_up (s3.up a o e n z) fun q => by rw [q, hp] at e; cases e
            · by_cases e : a = p
              · rw [e, upd_same]; simp
              · rw [upd_ne e]; exact s3.th a h
            · obtain ⟨h1, h2⟩ := sta3.sub a o e
              exact ⟨put_up h1 (fun q => by rw [q, nb3] at e; cases e), h2⟩
            · rw [upd_same, sel_snoc hxm]; simp
            · rw [sel_snoc hxm]; simp; omega
        | _ => exact absurd hr (by simp)
      · rintro H' ⟨B', mask, rest, ml, hr, ers, s', sub', tab', nb', hp', _⟩
        rw [← xl, List.drop_length] at hr
        simp only [flGo, Option.some.injEq] at hr
        subst hr
        rw [List.append_nil] at ers
        subst ers
        have sta' := sta.step s' sub' tab'
        obtain ⟨g', k1, k2⟩ := owns_sel mask t3
        have mg : ∀ a ∈ g', a ∈ F i := fun a m => by rw [ef]; exact List.mem_cons_of_mem _ (k2 a m)
        have nF : ¬ FP F p := sta.freeF hp
        have hat : ∀ a ∈ g', ∃ o, H a = some o ∧ Lay o := fun a m => sta.at (mg a m)
        refine h (.ref p) B' H' (without F i) (p :: g') ⟨s'.ex, fun a o e _ z => s'.up a o e (fun q => q) z, s'.th, fun a z => ?_, fun a z => (s'.newB a z).imp (fun q => q) fun q => .inr (q.elim (fun z => z.elim) fun q => q)⟩ (sta'.out i) ⟨⟨p, _, g', rfl, rfl, hp', fun z => nF ⟨i, mg p z⟩, owns_keep _ _ _ k1 fun a m o e l => s'.up a o e (fun q => q) l.nt⟩, fun a m z => ?_, fun a m => ?_⟩ fun pu => by simp [pureE] at pu
        · rcases z with z | z
          · exact .inl (without_sub z)
          · rcases List.mem_cons.mp z with z | z
            · rw [z]; exact .inr hp
            · exact .inl ⟨i, mg a z⟩
        · rcases List.mem_cons.mp m with m | m
          · rw [m] at z; exact nF (without_sub z)
          · obtain ⟨j, mj⟩ := z
            unfold without at mj
            split at mj
            · cases mj
            · rename_i n
              exact n (sta.dj j i a mj (mg a m))
        · rcases List.mem_cons.mp m with m | m
          · rw [m]; exact nb'
          · exact sta'.nB i a (mg a m)
    exact key
  | _ => exact h.elim
/-- two own lists put together -/
theorem snd_catD {i j : Nat} : SndE C sg (.catD i j) := by
  intro nb ks hnb pin W B H σ ρ F k' Q hk sta h
  simp only [kE] at hk
  split at hk <;> simp only [reduceCtorEq, Option.some.injEq] at hk
  rename_i cond
  obtain ⟨nbt, ki, kj, ij⟩ := cond
  subst hk
  simp only [evE] at h
  split at h
  rotate_left
  · exact h.elim
  rename_i a b ea eb
  split at h
  rotate_left
  · exact h.elim
  rename_i hl
  obtain ⟨v, hv, r⟩ := sta.rep i _ ea
  obtain ⟨u, hu, s⟩ := sta.rep j _ eb
  rw [ki] at r
  rw [kj] at s
  obtain ⟨p, xs, g1, rfl, ef1, t1, t2, t3⟩ := r
  obtain ⟨q, ys, g2, rfl, ef2, s1, s2, s3⟩ := s
  refine ⟨_, hv, _, hu, p, q, xs, ys, rfl, rfl, t1, s1, by rw [← owns_length t3, ← owns_length s3]; exact Nat.le_trans hl (by decide), fun l hp => ?_⟩
  have m1 : ∀ a ∈ g1, a ∈ F i := fun a m => by rw [ef1]; exact List.mem_cons_of_mem _ m
  have m2 : ∀ a ∈ g2, a ∈ F j := fun a m => by rw [ef2]; exact List.mem_cons_of_mem _ m
  have nF : ¬ FP F l := sta.freeF hp
  have nl : ∀ a ∈ g1 ++ g2, a ≠ l := fun a m z => by
    rcases List.mem_append.mp m with m | m
    · exact nF ⟨i, z ▸ m1 a m⟩
    · exact nF ⟨j, z ▸ m2 a m⟩
  have djw : ∀ a k, a ∈ without (without F i) j k → a ∈ F k ∧ k ≠ i ∧ k ≠ j := fun a k m => by
    unfold without at m
    split at m
    · cases m
    · rename_i n
      split at m
      · cases m
      · rename_i n2
        exact ⟨m, n2, n⟩
  have hf : ∀ a ∈ g1 ++ g2, ∃ k, a ∈ F k ∧ (k = i ∨ k = j) := fun a m => by
    rcases List.mem_append.mp m with m | m
    · exact ⟨i, m1 a m, .inl rfl⟩
    · exact ⟨j, m2 a m, .inr rfl⟩
  refine h (.ref l) B _ (without (without F i) j) (l :: (g1 ++ g2)) ⟨fun _ _ e => e, fun a o e _ _ => upd_up hp a o e, fun a h => ?_, fun a z => ?_, fun _ h => .inl h⟩ (((sta.new_ hp).out i).out j) ⟨⟨l, _, g1 ++ g2, rfl, rfl, upd_same, fun z => nl l z rfl, owns_append (owns_keep _ _ _ t3 fun a m o e _ => put_up e (nl a (List.mem_append_left _ m))) (owns_keep _ _ _ s3 fun a m o e _ => put_up e (nl a (List.mem_append_right _ m))) fun a m z => ij (sta.dj i j a (m1 a m) (m2 a z))⟩, fun a m z => ?_, fun a m => ?_⟩ fun pu => by simp [pureE] at pu
  · by_cases e : a = l
    · rw [e, upd_same]; simp
    · rw [upd_ne e]; exact h
  · rcases z with ⟨k, z⟩ | z
    · exact .inl ⟨k, (djw a k z).1⟩
    · rcases List.mem_cons.mp z with z | z
      · rw [z]; exact .inr hp
      · obtain ⟨k, hk, _⟩ := hf a z
        exact .inl ⟨k, hk⟩
  · obtain ⟨k, z⟩ := z
    obtain ⟨mk, n1, n2⟩ := djw a k z
    rcases List.mem_cons.mp m with m | m
    · rw [m] at mk; exact nF ⟨k, mk⟩
    · obtain ⟨k2, hk2, c⟩ := hf a m
      have := sta.dj k k2 a mk hk2
      rcases c with rfl | rfl
      · exact n1 this
      · exact n2 this
  · rcases List.mem_cons.mp m with m | m
    · rw [m]; exact sta.freeB hp
    · obtain ⟨k, hk, _⟩ := hf a m
      exact sta.nB k a hk
mutual
/-- every reckoning stands for its reading -/
theorem sndE (so : SigOk C sg) : ∀ e : IE, SndE C sg e
  | .var i => snd_var i
  | .mv i => snd_mv i
  | .cst d => snd_cst d
  | .op1 o a => snd_op1 (sndE so a)
  | .op2 o a b => snd_op2 (sndE so a) (sndE so b)
  | .mth o a b => snd_mth (sndE so a) (sndE so b)
  | .slc a b c => snd_slc (sndE so a) (sndE so b) (sndE so c)
  | .not a => snd_not (sndE so a)
  | .and a b => snd_and (sndE so a) (sndE so b)
  | .or a b => snd_or (sndE so a) (sndE so b)
  | .lst es => snd_lst (sndEs so es)
  | .tup es => snd_tup (sndEs so es)
  | .dic1 a b => snd_dic1 (sndE so a) (sndE so b)
  | .dic0 => snd_dic0
  | .dct0 => snd_dct0
  | .call f es => snd_call so (sndEs so es)
  | .callM f i es => snd_callM so (sndEs so es)
  | .callN f i es => snd_callN so (sndEs so es)
  | .callT f es => snd_callT so (sndEs so es)
  | .idxV i e => snd_idxV (sndE so e)
  | .lcM a i elt => snd_lcM (sndE so a) (sndE so elt)
  | .filt i t test => snd_filt (sndE so test)
  | .catD i j => snd_catD
  | .t1 o a => snd_t1 (sndE so a)
  | .t2 o a b => snd_t2 (sndE so a) (sndE so b)
  | .t3 a b c => snd_t3 (sndE so a) (sndE so b) (sndE so c)
  | .lc k a b c t test elt => snd_lc (sndE so a) (sndE so b) (sndE so c) (sndE so test) (sndE so elt)
  | .pop i => snd_pop i
  | .popAt i e => snd_popAt (sndE so e)
  | .key o k a b c js body => snd_key (sndE so a) (sndE so b) (sndE so c) (sndE so body)
theorem sndEs (so : SigOk C sg) : ∀ es : IEs, SndEs C sg es
  | .nil => snd_nil
  | .cons e es => snd_cons (sndE so e) (sndEs so es)
end
end
end TW

/-! ## statements -/
namespace TW
open PySem L2
def ipO : Op2 → TIp
  | .addI => ipI fun i j => i + j
  | .subI => ipI fun i j => i - j
  | _ => fun _ _ _ _ => False
def rInsert : V → List V → Hp → VK → Prop := fun x vs H Q => ∃ (l : Addr) (xs : List V) (i : Int) (y : V), x = .ref l ∧ vs = [.int i, y] ∧ H l = some (.lst xs) ∧ xs.length < sizeLine ∧ 0 ≤ i ∧ i < 2 ^ 63 ∧
  Q .non (upd H l (.lst (xs.take i.toNat ++ y :: xs.drop i.toNat)))
/-- what a caught refusal is wished: it is known, slot i holds it, slot j is free again -/
def wX (K : PySem.W.Frag) (i j : Nat) (D : Ends) : WX := fun cls d σ H => ∃ c, c < 14 ∧ cls = .ref (exA K c) ∧ d = none ∧
  ∀ a, H a = none → D.nx ((((σ.set j (some (.ref a))).set i (some (.ref a))).set j none)) (upd H a (ExA (exA K c) a))
def lockIfS (k : Sk) (t : TS) : TS := match k with
  | .dic _ => tLock t
  | _ => t
mutual
def rdS (C : Ctx) : IS → WX → TS
  | .asg t e, W => tAsg (rdE C e W) (rdTg C.K t)
  | .aug i o e, W => tAug i (rdE C e W) (ipO o)
  | .exp e, W => tDrop (rdE C e W)
  | .app i e, W => tDrop (tBM C.K "list" rAppend (tVar i) (tCons (rdE C e W) tNil))
  | .ins i a e, W => tDrop (tBM C.K "list" rInsert (tVar i) (tCons (rdE C a W) (tCons (rdE C e W) tNil)))
  | .clr i, _ => tDrop (tBM0 C.K "list" rClear (tVar i))
  | .seti i a e, W => tAsg (rdE C e W) (gSub (tVar i) (rdE C a W) rSetL)
  | .set2 i a b e, W => tAsg (rdE C e W) (gSub (rdE C (.op2 .subL (.var i) a) W) (rdE C b W) rSetL)
  | .augi i a o e, W => tAugS (tVar i) (rdE C a W) (rdE C e W) (rIxL C.K) (ipO o) rSetL
  | .aug2 i k l o e, W => tAugS (rdE C (.op2 .subL (.var i) (.cst (.int k))) W) (rdE C (.cst (.int l)) W) (rdE C e W) (rIxL C.K) (ipO o) rSetL
  | .setk i a e, W => sDPut (tVar i) (rdE C a W) (rdE C e W)
  | .setp i a e, W => sDPut (tVar i) (rdE C a W) (rdE C e W)
  | .ifs c a b, W => tIfS (tB (rdE C c W)) (rdSs C a W) (rdSs C b W)
  | .whl c b, W => tWhile (tB (rdE C c W)) (rdSs C b W)
  | .for k a b c t body, W => lockIfS k (tFor (iSrc C.K k (rdE C a W) (rdE C b W) (rdE C c W)) (rdTg C.K t) (rdSs C body W))
  | .ret e, W => tRet (rdE C e W)
  | .retN, _ => tRetN
  | .rai c, W => fun _ σ H => W (.ref (C.cls c)) none σ H
  | .dead, _ => fun _ _ _ => False
  | .appA i t d, W => tFor (iSrc C.K .lst (rdE C (.var i) W) (rdE C (.cst .non) W) (rdE C (.cst .non) W)) (rdTg C.K (.nm t)) (tSeq (tDrop (tBM C.K "list" rAppend (tVar t) (tCons (rdE C (.cst d) W) tNil))) tNext)
  | .appT i t c d, W => tFor (iSrc C.K .lst (rdE C (.var i) W) (rdE C (.cst .non) W) (rdE C (.cst .non) W)) (rdTg C.K (.nm t)) (tSeq (tIfS (tB (rdE C c W)) (tSeq (tRet (rdE C (.cst (.bl false)) W)) tNext) tNext) (tSeq (tDrop (tBM C.K "list" rAppend (tVar t) (tCons (rdE C (.cst d) W) tNil))) tNext))
  | .tryC i j f es, W => fun D σ H => rdE C (.call f es) (wX C.K i j D) σ H fun _ H' => D.nx σ H'
  | .forC a t c d, W => tFor (iSrc C.K .lst (rdE C a W) (rdE C (.cst .non) W) (rdE C (.cst .non) W)) (rdTg C.K t) (tSeq (tIfS (tB (rdE C c W)) (tSeq (tRet (rdE C (.cst d) W)) tNext) tNext) tNext)
def rdSs (C : Ctx) : ISs → WX → TS
  | .nil, _ => tNext
  | .cons s r, W => tSeq (rdS C s W) (rdSs C r W)
  | .frz _ r, W => rdSs C r W
end
def FinO (C : Ctx) (ks : Nat → Kind) (pin : Nat → Option V) (B H : Hp) (F : Nat → List Addr) (W : WX) (rk : Kind) (o : Out) (E : Ends) : Prop := match o with
  | .nx ρ' => ∀ σ' B' H' F', Step B H (FP F) B' H' (FP F') → Sta C ks pin B' H' σ' ρ' F' → E.nx σ' H'
  | .rt d ρ' => ∀ v σ' B' H' F' f, Step B H (FP F) B' H' (fun a => FP F' a ∨ a ∈ f) → Sta C ks pin B' H' σ' ρ' F' → Has C B' H' F' rk d v f → E.rt v H'
  | .exc c => ∀ σ' H', Xup F H H' → NdefX.TabsN C.T H' → W (.ref (C.cls c)) none σ' H'
  | .bad => False
def SndS (C : Ctx) (sg : Nat → Sig) (s : IS) : Prop := ∀ (ks : Nat → Kind) (_ : ∀ j, (ks j).borrowed = false) (pin : Nat → Option V) (pn : Nat → Bool) (_ : ∀ j, pn j = false → pin j = none) (rk : Kind) (W : WX) (B H : Hp) (σ : L2.St) (ρ : Env) (F : Nat → List Addr) (E : Ends),
  kS sg ks pn rk s = true → Sta C ks pin B H σ ρ F → FinO C ks pin B H F W rk (evS C.Φ s ρ) E → rdS C s W E σ H
def SndSs (C : Ctx) (sg : Nat → Sig) (s : ISs) : Prop := ∀ (ks : Nat → Kind) (_ : ∀ j, (ks j).borrowed = false) (pin : Nat → Option V) (pn : Nat → Bool) (_ : ∀ j, pn j = false → pin j = none) (rk : Kind) (W : WX) (B H : Hp) (σ : L2.St) (ρ : Env) (F : Nat → List Addr) (E : Ends),
  kSs sg ks pn rk s = true → Sta C ks pin B H σ ρ F → FinO C ks pin B H F W rk (evSs C.Φ s ρ) E → rdSs C s W E σ H
section
variable {C : Ctx} {sg : Nat → Sig}
theorem FinO.shift {ks : Nat → Kind} {pin : Nat → Option V} {B H B1 H1 : Hp} {F F1 : Nat → List Addr} {W : WX} {rk : Kind} {o : Out} {E : Ends} (h : FinO C ks pin B H F W rk o E) (st : Step B H (FP F) B1 H1 (FP F1)) : FinO C ks pin B1 H1 F1 W rk o E := by
  have st' : Step B H (FP F) B1 H1 (fun a => FP F1 a ∨ a ∈ []) := st.less fun a z => z.elim (fun q => q) fun m => by cases m
  cases o with
  | bad => exact h
  | exc c => exact fun σ' H' x t => h σ' H' (x.of st') t
  | nx ρ' => exact fun σ' B' H' F' s sta => h σ' B' H' F' (st.trans s) sta
  | rt d ρ' => exact fun v σ' B' H' F' f s sta has => h v σ' B' H' F' f (Step.row st' s) sta has
/-- a statement that first reckons e -/
theorem stm_e (so : SigOk C sg) {e : IE} {ks : Nat → Kind} (hnb : ∀ j, (ks j).borrowed = false) {pin : Nat → Option V} {B H : Hp} {F : Nat → List Addr} {W : WX} {k rk : Kind} {σ : L2.St} {ρ : Env} {E : Ends} {Q : VK} {g : D → Env → Out}
    (hk : kE sg true ks e = some k) (sta : Sta C ks pin B H σ ρ F)
    (h : FinO C ks pin B H F W rk (match evE C.Φ e ρ with | .ok (d, ρ1) => g d ρ1 | .exc c => .exc c | .bad => .bad) E)
    (q : ∀ d ρ1 v B1 H1 F1 f, evE C.Φ e ρ = .ok (d, ρ1) → Step B H (FP F) B1 H1 (fun a => FP F1 a ∨ a ∈ f) → Sta C ks pin B1 H1 σ ρ1 F1 → Has C B1 H1 F1 k d v f → (pureE sg e = true → Up H H1 ∧ F1 = F) → FinO C ks pin B H F W rk (g d ρ1) E → Q v H1) : rdE C e W σ H Q := by
  refine sndE so e true ks (fun _ => hnb) pin W B H σ ρ F k Q hk sta ?_
  cases ev : evE C.Φ e ρ with
  | bad => rw [ev] at h; exact h
  | exc c => rw [ev] at h; exact fun H' x t => h σ H' x t
  | ok p =>
    obtain ⟨d, ρ1⟩ := p
    rw [ev] at h
    exact fun v B1 H1 F1 f st1 sta1 has1 pu1 => q d ρ1 v B1 H1 F1 f ev st1 sta1 has1 pu1 h
/-- one may ask less -/
theorem Has.le {ks : Nat → Kind} {pin : Nat → Option V} {B H : Hp} {σ : L2.St} {ρ : Env} {F : Nat → List Addr} {k k' : Kind} {d : D} {v : V} {f : List Addr} (sta : Sta C ks pin B H σ ρ F) (has : Has C B H F k d v f) (l : k.le k' = true) :
    ∃ h g, (∀ a ∈ h, a ∈ f) ∧ (∀ a ∈ g, a ∈ f) ∧ Sta C ks pin (join B H h) H σ ρ F ∧ Has C (join B H h) H F k' d v g := by
  have j0 : join B H [] = B := funext fun a => join_out (by simp)
  have r := has.rep
  by_cases e : k = k'
  · subst e; exact ⟨[], f, nomem, fun _ m => m, by rw [j0]; exact sta, by rw [j0]; exact has⟩
  cases k <;> cases k' <;> simp only [Kind.le, Bool.false_eq_true] at l <;> try (exact absurd rfl e)
  case im.sh =>
    simp only [vrep] at r
    exact ⟨[], [], nomem, nomem, by rw [j0]; exact sta, by rw [j0]; exact ⟨⟨hold_sc r.1, rfl⟩, nomem, nomem⟩⟩
  case im.deep =>
    simp only [vrep] at r
    exact ⟨[], [], nomem, nomem, by rw [j0]; exact sta, by rw [j0]; exact ⟨own_sc r.1, nomem, nomem⟩⟩
  case im.top =>
    simp only [vrep] at r
    exact ⟨[], [], nomem, nomem, by rw [j0]; exact sta, by rw [j0]; exact ⟨.inl ⟨r.1, rfl⟩, nomem, nomem⟩⟩
  case top.sh => exact ⟨f, [], fun _ m => m, nomem, sta.absorb has.at has.dj has.nB, ⟨has.open_ rfl, rfl⟩, nomem, nomem⟩
  case deep.sh => exact ⟨f, [], fun _ m => m, nomem, sta.absorb has.at has.dj has.nB, ⟨has.open_ rfl, rfl⟩, nomem, nomem⟩
  case deep.top =>
    obtain ⟨g, p, hg, q⟩ := vrep_deep_top (C := C) (B := B) (show own H d v f from r) sta.sub
    have sta2 := sta.absorb (f := g) (fun a m => has.at a (hg a m)) (fun a m => has.dj a (hg a m)) fun a m => has.nB a (hg a m)
    rcases q with ⟨e1, e2, e3⟩ | ⟨e1, e2, e3, e4⟩
    · exact ⟨g, [], hg, nomem, sta2, ⟨.inl ⟨e3, rfl⟩, nomem, nomem⟩⟩
    · have mp : p ∈ f := by rw [e1]; exact List.mem_cons_self
      refine ⟨g, [p], hg, fun a m => by rw [List.mem_singleton.mp m]; exact mp, sta2, ⟨.inr ⟨p, e3, rfl, e4⟩, fun a m => ?_, fun a m => ?_⟩⟩
      · rw [List.mem_singleton.mp m]; exact has.dj p mp
      · rw [List.mem_singleton.mp m, join_out e2]; exact has.nB p mp
/-- a name is given something -/
theorem Sta.give {ks : Nat → Kind} {pin : Nat → Option V} {B H : Hp} {σ : L2.St} {ρ : Env} {F : Nat → List Addr} {k : Kind} {d : D} {v : V} {f : List Addr} (sta : Sta C ks pin B H σ ρ F) (has : Has C B H F k d v f) {i : Nat} (l : k.le (ks i) = true) (hp : pin i = none) :
    ∃ h F', (∀ a ∈ h, a ∈ f) ∧ Sta C ks pin (join B H h) H (σ.set i (some v)) (st ρ i (some d)) F' ∧ ∀ a, FP F' a → FP F a ∨ a ∈ f := by
  obtain ⟨h, g, h1, h2, h3, h4⟩ := has.le sta l
  obtain ⟨F', s1, s2⟩ := h3.bind h4.rep h4.dj h4.nB hp
  exact ⟨h, F', h1, s1, fun a z => (s2 a z).imp (fun q => q) (h2 a)⟩
/-- what was told of is let go, or known -/
theorem Step.give {B H : Hp} {F F' : Nat → List Addr} {f h : List Addr} (h1 : ∀ a ∈ h, a ∈ f) (h2 : ∀ a, FP F' a → FP F a ∨ a ∈ f) (nB : ∀ a ∈ f, B a = none) : Step B H (fun a => FP F a ∨ a ∈ f) (TW.join B H h) H (FP F') where
  ex := join_ext fun a m => nB a (h1 a m)
  up := fun _ _ e _ _ => e
  th := fun _ h => h
  new := fun a z => .inl (h2 a z)
  newB := fun a z => by
    by_cases m : a ∈ h
    · exact .inr (.inl (.inr (h1 a m)))
    · rw [join_out m] at z; exact .inl z
theorem tgs_deep {ks : Nat → Kind} {pin : Nat → Option V} {H : Hp} : ∀ (is : List Nat) {ds : List D} {xs : List V} {f : List Addr} {B : Hp} {σ : L2.St} {ρ ρ' : Env} {F : Nat → List Addr} {Q : L2.St → Hp → Prop}, Sta C ks pin B H σ ρ F →
    owns H ds xs f → (∀ a ∈ f, ¬ FP F a) → (∀ a ∈ f, B a = none) → (∀ i ∈ is, Kind.le .deep (ks i) = true) → (∀ i ∈ is, pin i = none) → sts ρ is ds = some ρ' →
    (∀ σ' B' F', Step B H (fun a => FP F a ∨ a ∈ f) B' H (FP F') → Sta C ks pin B' H σ' ρ' F' → Q σ' H) → gNs is xs σ H Q
  | [], ds, xs, f, B, σ, ρ, ρ', F, Q, sta, h, _, nB, _, _, e, q => by
    cases ds with
    | nil =>
      simp only [sts, Option.some.injEq] at e
      subst e
      exact ⟨h.1, q σ B F (Step.refl.less fun a z => .inl z) sta⟩
    | cons => simp [sts] at e
  | i :: is, ds, xs, f, B, σ, ρ, ρ', F, Q, sta, h, dj, nB, hk, hp, e, q => by
    cases ds with
    | nil => simp [sts] at e
    | cons d ds =>
      simp only [sts] at e
      obtain ⟨x, r, g1, g2, rfl, rfl, h1, h2, hd⟩ := h
      have m1 : ∀ a ∈ g1, a ∈ g1 ++ g2 := fun a m => List.mem_append_left _ m
      have m2 : ∀ a ∈ g2, a ∈ g1 ++ g2 := fun a m => List.mem_append_right _ m
      obtain ⟨hh, F1, z1, sta1, z2⟩ := sta.give (k := .deep) (d := d) (v := x) (f := g1) ⟨h1, fun a m => dj a (m1 a m), fun a m => nB a (m1 a m)⟩ (hk i List.mem_cons_self) (hp i List.mem_cons_self)
      have stg := Step.give (B := B) (H := H) z1 z2 fun a m => nB a (m1 a m)
      refine ⟨x, r, rfl, tgs_deep is sta1 h2 (fun a m z => (z2 a z).elim (dj a (m2 a m)) fun w => hd a w m) (fun a m => ?_) (fun j m => hk j (List.mem_cons_of_mem _ m)) (fun j m => hp j (List.mem_cons_of_mem _ m)) e fun σ' B' F' s' sta' => q σ' B' F' ?_ sta'⟩
      · rw [join_out fun w => hd a (z1 a w) m]; exact nB a (m2 a m)
      · have s1 : Step B H (fun a => FP F a ∨ a ∈ g1 ++ g2) (join B H hh) H (fun a => FP F1 a ∨ a ∈ g2) := ⟨stg.ex, fun _ _ e _ _ => e, fun _ h => h, fun a z => .inl (z.elim (fun w => (z2 a w).imp (fun q => q) (m1 a)) fun m => .inr (m2 a m)), fun a z => (stg.newB a z).imp (fun q => q) fun w => w.imp (fun w => w.imp (fun q => q) (m1 a)) fun q => q⟩
        exact s1.trans s'
end
end TW

namespace TW
open PySem L2
section
variable {C : Ctx} {sg : Nat → Sig}
theorem sts_len : ∀ {is : List Nat} {ρ ρ' : Env} {ds : List D}, sts ρ is ds = some ρ' → ds.length = is.length
  | [], _, _, ds, e => by cases ds <;> simp [sts] at e; rfl
  | i :: is, _, _, ds, e => by
    cases ds with
    | nil => simp [sts] at e
    | cons d ds => simp only [sts] at e; simp [sts_len e]
theorem Step.give2 {B H : Hp} {F : Nat → List Addr} {f h g : List Addr} (h1 : ∀ a ∈ h, a ∈ f) (h2 : ∀ a ∈ g, a ∈ f) (nB : ∀ a ∈ f, B a = none) : Step B H (fun a => FP F a ∨ a ∈ f) (TW.join B H h) H (fun a => FP F a ∨ a ∈ g) where
  ex := join_ext fun a m => nB a (h1 a m)
  up := fun _ _ e _ _ => e
  th := fun _ h => h
  new := fun a z => .inl (z.imp (fun q => q) (h2 a))
  newB := fun a z => by
    by_cases m : a ∈ h
    · exact .inr (.inl (.inr (h1 a m)))
    · rw [join_out m] at z; exact .inl z
theorem gNs_of {is : List Nat} {xs : List V} {σ : L2.St} {H : Hp} {Q : L2.St → Hp → Prop} (h : gNs is xs σ H Q) : gNs is xs σ H Q := h
theorem snd_asg (so : SigOk C sg) (t : Tg) (e : IE) : SndS C sg (.asg t e) := by
  intro ks hnb pin pn hpn rk W B H σ ρ F E hk sta h
  simp only [kS] at hk
  split at hk <;> try (simp only [Bool.false_eq_true] at hk)
  rename_i k hk1
  simp only [evS] at h
  refine stm_e (E := E) (rk := rk) so hnb (g := fun d ρ1 => match t.put d ρ1 with | some ρ2 => .nx ρ2 | none => .bad) hk1 sta h fun d ρ1 v B1 H1 F1 f ev st1 sta1 has1 pu1 h2 => ?_
  try simp only at h2
  cases ep : t.put d ρ1 with
  | none => rw [ep] at h2; exact h2.elim
  | some ρ2 =>
  rw [ep] at h2
  have h2 : ∀ σ' B' H' F', Step B H (FP F) B' H' (FP F') → Sta C ks pin B' H' σ' ρ2 F' → E.nx σ' H' := h2
  have pns : ∀ {i : Nat}, (!pn i) = true → pin i = none := fun {i} z => hpn i (by simpa using z)
  cases t with
  | nm i =>
    simp only [Tg.put, Option.some.injEq] at ep
    subst ep
    simp only [kTg, Bool.and_eq_true] at hk
    obtain ⟨hh, F', z1, z2, z3⟩ := sta1.give has1 hk.1 (pns hk.2)
    exact h2 _ _ _ _ (st1.trans (Step.give z1 z3 has1.nB)) z2
  | tup is =>
    cases d <;> simp only [Tg.put, reduceCtorEq] at ep
    rename_i ds
    simp only [kTg, List.all_eq_true, Bool.and_eq_true] at hk
    cases k with
    | deep =>
      obtain ⟨p, xs, g, rfl, rfl, t1, t2, t3⟩ := has1.rep
      refine ⟨p, xs, rfl, .of t1, by rw [← owns_length t3]; exact sts_len ep, tgs_deep is sta1 t3 (fun a m => has1.dj a (List.mem_cons_of_mem _ m)) (fun a m => has1.nB a (List.mem_cons_of_mem _ m)) (fun i m => (hk i m).1) (fun i m => pns (hk i m).2) ep fun σ' B' F' s' sta' => ?_⟩
      exact h2 _ _ _ _ ((st1.less fun a z => z.imp (fun q => q) (List.mem_cons_of_mem _)).trans s') sta'
    | sh =>
      refine tg_ok (t := .tup is) (.inl rfl) sta1 (show hold C.K (hB .sh B1 H1) (.tup ds) v from has1.rep.1) (fun i m => by simpa using (hk i m).1) (fun i m => pns (hk i m).2) ep fun σ' F' s' f' _ _ => h2 _ _ _ _ ((st1.less fun a z => .inl z).less fun a z => f' a z) s'
    | top =>
      obtain ⟨hh, g, z1, z2, sta2, has2⟩ := has1.le (k' := .sh) sta1 rfl
      refine tg_ok (t := .tup is) (.inl rfl) sta2 (show hold C.K (hB .sh _ H1) (.tup ds) v from has2.rep.1) (fun i m => by simpa using (hk i m).1) (fun i m => pns (hk i m).2) ep fun σ' F' s' f' _ _ => h2 _ _ _ _ (st1.trans ((Step.give (F' := F1) z1 (fun a z => .inl z) has1.nB).less f')) s'
    | _ =>
      cases is with
      | nil =>
        cases ds with
        | cons => simp [sts] at ep
        | nil =>
          have r := has1.rep
          simp only [sts, Option.some.injEq] at ep
          subst ep
          simp only [vrep, scV, reduceCtorEq, false_and, false_or] at r <;> first
            | exact r.elim
            | (obtain ⟨p, rfl, rfl, xs, t1, t2⟩ := r
               cases t2
               exact ⟨p, [], rfl, .of t1, rfl, rfl, h2 _ _ _ _ (st1.less fun a z => .inl z) sta1⟩)
            | (obtain ⟨⟨p, xs, rfl, t1, t2⟩, rfl⟩ := r
               cases t2
               exact ⟨p, [], rfl, .of t1, rfl, rfl, h2 _ _ _ _ (st1.less fun a z => .inl z) sta1⟩)
      | cons i is => exact absurd (hk i List.mem_cons_self).1 (by simp)
  | lsp is =>
    cases d <;> simp only [Tg.put, reduceCtorEq] at ep
    rename_i ds
    simp only [kTg, List.all_eq_true, Bool.and_eq_true] at hk
    cases k with
    | deep =>
      obtain ⟨p, xs, g, rfl, rfl, t1, t2, t3⟩ := has1.rep
      refine ⟨p, xs, rfl, .of t1, by rw [← owns_length t3]; exact sts_len ep, tgs_deep is sta1 t3 (fun a m => has1.dj a (List.mem_cons_of_mem _ m)) (fun a m => has1.nB a (List.mem_cons_of_mem _ m)) (fun i m => (hk i m).1) (fun i m => pns (hk i m).2) ep fun σ' B' F' s' sta' => ?_⟩
      exact h2 _ _ _ _ ((st1.less fun a z => z.imp (fun q => q) (List.mem_cons_of_mem _)).trans s') sta'
    | sh =>
      refine tg_ok (t := .lsp is) (.inl rfl) sta1 (show hold C.K (hB .sh B1 H1) (.lst ds) v from has1.rep.1) (fun i m => by simpa using (hk i m).1) (fun i m => pns (hk i m).2) ep fun σ' F' s' f' _ _ => h2 _ _ _ _ ((st1.less fun a z => .inl z).less fun a z => f' a z) s'
    | top =>
      obtain ⟨hh, g, z1, z2, sta2, has2⟩ := has1.le (k' := .sh) sta1 rfl
      refine tg_ok (t := .lsp is) (.inl rfl) sta2 (show hold C.K (hB .sh _ H1) (.lst ds) v from has2.rep.1) (fun i m => by simpa using (hk i m).1) (fun i m => pns (hk i m).2) ep fun σ' F' s' f' _ _ => h2 _ _ _ _ (st1.trans ((Step.give (F' := F1) z1 (fun a z => .inl z) has1.nB).less f')) s'
    | _ =>
      cases is with
      | nil =>
        cases ds with
        | cons => simp [sts] at ep
        | nil =>
          have r := has1.rep
          simp only [sts, Option.some.injEq] at ep
          subst ep
          simp only [vrep, scV, reduceCtorEq, false_and, false_or] at r <;> first
            | exact r.elim
            | (obtain ⟨p, rfl, rfl, xs, t1, t2⟩ := r
               cases t2
               exact ⟨p, [], rfl, .of t1, rfl, rfl, h2 _ _ _ _ (st1.less fun a z => .inl z) sta1⟩)
            | (obtain ⟨⟨p, xs, rfl, t1, t2⟩, rfl⟩ := r
               cases t2
               exact ⟨p, [], rfl, .of t1, rfl, rfl, h2 _ _ _ _ (st1.less fun a z => .inl z) sta1⟩)
      | cons i is => exact absurd (hk i List.mem_cons_self).1 (by simp)
theorem snd_exp (so : SigOk C sg) (e : IE) : SndS C sg (.exp e) := by
  intro ks hnb pin pn hpn rk W B H σ ρ F E hk sta h
  simp only [kS] at hk
  obtain ⟨k, hk1⟩ := Option.isSome_iff_exists.mp hk
  simp only [evS] at h
  refine stm_e (E := E) (rk := rk) so hnb (g := fun _ ρ1 => .nx ρ1) hk1 sta ?_ fun d ρ1 v B1 H1 F1 f ev st1 sta1 has1 pu1 h2 => ?_
  · cases ev : evE C.Φ e ρ with
    | ok p => obtain ⟨d, ρ1⟩ := p; rw [ev] at h; exact h
    | exc c => rw [ev] at h; exact h
    | bad => rw [ev] at h; exact h
  · exact h2 _ _ _ _ (st1.less fun a z => .inl z) sta1
theorem snd_ret (so : SigOk C sg) (e : IE) : SndS C sg (.ret e) := by
  intro ks hnb pin pn hpn rk W B H σ ρ F E hk sta h
  simp only [kS] at hk
  split at hk <;> try (simp only [Bool.false_eq_true] at hk)
  rename_i k hk1
  simp only [evS] at h
  refine stm_e (E := E) (rk := rk) so hnb (g := fun d ρ1 => .rt d ρ1) hk1 sta h fun d ρ1 v B1 H1 F1 f ev st1 sta1 has1 pu1 h2 => ?_
  obtain ⟨hh, g, z1, z2, sta2, has2⟩ := has1.le sta1 hk
  exact h2 v σ _ _ _ g (st1.trans (Step.give2 z1 z2 has1.nB)) sta2 has2
theorem snd_retN : SndS C sg .retN := by
  intro ks hnb pin pn hpn rk W B H σ ρ F E hk sta h
  refine h .non σ B H F [] (Step.id rfl) sta ⟨?_, nomem, nomem⟩
  cases rk
  · exact ⟨rfl, rfl⟩
  · exact ⟨rfl, rfl⟩
  · exact .inl ⟨rfl, rfl⟩
  · exact own_sc rfl
  · exact .inl ⟨rfl, rfl⟩
  · exact ⟨rfl, rfl⟩
theorem snd_rai (c : Nat) : SndS C sg (.rai c) := by
  intro ks hnb pin pn hpn rk W B H σ ρ F E hk sta h
  exact h σ H Xup.refl sta.tab
theorem snd_snil : SndSs C sg .nil := by
  intro ks hnb pin pn hpn rk W B H σ ρ F E hk sta h
  exact h σ B H F Step.refl sta
theorem snd_scons {s : IS} {r : ISs} (h1 : SndS C sg s) (h2 : SndSs C sg r) : SndSs C sg (.cons s r) := by
  intro ks hnb pin pn hpn rk W B H σ ρ F E hk sta h
  simp only [kSs, Bool.and_eq_true] at hk
  refine h1 ks hnb pin pn hpn rk W B H σ ρ F { E with nx := rdSs C r W E } hk.1 sta ?_
  simp only [evSs] at h
  cases ev : evS C.Φ s ρ with
  | bad => rw [ev] at h; exact h
  | exc c => rw [ev] at h; exact h
  | rt d ρ1 => rw [ev] at h; exact h
  | nx ρ1 =>
    rw [ev] at h
    intro σ' B' H' F' st' sta'
    exact h2 ks hnb pin pn hpn rk W B' H' σ' ρ1 F' E hk.2 sta' (FinO.shift h st')
theorem snd_ifs (so : SigOk C sg) {c : IE} {a b : ISs} (h1 : SndSs C sg a) (h2 : SndSs C sg b) : SndS C sg (.ifs c a b) := by
  intro ks hnb pin pn hpn rk W B H σ ρ F E hk sta h
  simp only [kS, Bool.and_eq_true] at hk
  obtain ⟨⟨k1, k2⟩, k3⟩ := hk
  obtain ⟨k, hk1⟩ := Option.isSome_iff_exists.mp k1
  simp only [evS] at h
  refine stm_e (E := E) (rk := rk) so hnb (g := fun d ρ1 => match d with | .bl true => evSs C.Φ a ρ1 | .bl false => evSs C.Φ b ρ1 | _ => .bad) hk1 sta ?_ fun d ρ1 v B1 H1 F1 f ev st1 sta1 has1 pu1 h3 => ?_
  · cases ev : evE C.Φ c ρ with
    | ok p =>
      obtain ⟨d, ρ1⟩ := p
      rw [ev] at h
      cases d with
      | bl x => cases x <;> exact h
      | _ => exact h
    | exc c => rw [ev] at h; exact h
    | bad => rw [ev] at h; exact h
  · have g := vrep_hold sta1.sub has1.rep
    cases d with
    | bl x =>
      simp only [hold] at g
      refine ⟨x, g, ?_⟩
      have stx := st1.less (P2 := FP F1) fun a z => .inl z
      cases x with
      | true => show rdSs C a W E σ H1; exact h1 ks hnb pin pn hpn rk W B1 H1 σ ρ1 F1 E k2 sta1 (FinO.shift h3 stx)
      | false => show rdSs C b W E σ H1; exact h2 ks hnb pin pn hpn rk W B1 H1 σ ρ1 F1 E k3 sta1 (FinO.shift h3 stx)
    | _ => exact h3.elim
theorem ip_run {o : Op2} (ho : o = .addI ∨ o = .subI) {x y z : D} (h : o.run x y = .ok z) : ∃ i j k, x = .int i ∧ y = .int j ∧ z = .int k ∧ ∀ H Q, Q (.int k) H → ipO o (.int i) (.int j) H Q := by
  rcases ho with rfl | rfl <;> cases x <;> cases y <;> first
    | exact nomatch (show (Res.bad : Res D) = .ok z from h)
    | exact ⟨_, _, _, rfl, rfl, (Res.ok.inj (show Res.ok _ = Res.ok z from h)).symm, fun H Q q => ⟨_, _, rfl, rfl, q⟩⟩
theorem ip_ops {o : Op2} (h : (o == .addI || o == .subI) = true) : o = .addI ∨ o = .subI := by
  rcases Bool.or_eq_true _ _ ▸ h with h | h
  · exact .inl (by simpa using h)
  · exact .inr (by simpa using h)
theorem ip_exc {o : Op2} {x y : D} {c : Nat} : o.run x y ≠ .exc c := run2_exc
theorem Has.int {B H : Hp} {F : Nat → List Addr} {i : Int} : Has C B H F .im (.int i) (.int i) [] := ⟨⟨rfl, rfl⟩, nomem, nomem⟩
theorem snd_aug (so : SigOk C sg) (i : Nat) (o : Op2) (e : IE) : SndS C sg (.aug i o e) := by
  intro ks hnb pin pn hpn rk W B H σ ρ F E hk sta h
  simp only [kS, Bool.and_eq_true] at hk
  obtain ⟨⟨⟨k1, k2⟩, k3⟩, k4⟩ := hk
  obtain ⟨k, hk1⟩ := Option.isSome_iff_exists.mp k4
  have k1 : ks i = .sh := by simpa using k1
  simp only [evS] at h
  cases e0 : gt ρ i with
  | none => rw [e0] at h; exact h.elim
  | some x =>
  rw [e0] at h
  simp only at h
  obtain ⟨v0, hv0, r0⟩ := sta.rep i x e0
  rw [k1] at r0
  refine ⟨v0, hv0, ?_⟩
  refine stm_e (E := E) (rk := rk) so hnb (g := fun y ρ1 => match o.run x y with | .ok z => .nx (st ρ1 i (some z)) | .exc c => .exc c | .bad => .bad) hk1 sta h fun d ρ1 v B1 H1 F1 f ev st1 sta1 has1 pu1 h3 => ?_
  try simp only at h3
  cases er : o.run x d with
  | bad => rw [er] at h3; exact h3.elim
  | exc c => exact absurd er ip_exc
  | ok z =>
  rw [er] at h3
  obtain ⟨m, n, l, rfl, rfl, rfl, q⟩ := ip_run (ip_ops k3) er
  have gx := r0.1
  have gy := vrep_hold sta1.sub has1.rep
  simp only [hold] at gx gy
  subst gx; subst gy
  refine q H1 _ ?_
  obtain ⟨hh, F', z1, z2, z3⟩ := sta1.give (Has.int (C := C) (B := B1) (H := H1) (F := F1) (i := l)) (i := i) (by rw [k1]; rfl) (hpn i (by simpa using k2))
  exact h3 _ _ _ _ ((st1.less fun a z => .inl z).trans ((Step.give z1 z3 nomem).more fun a z => z.elim (fun q => q) fun m => by cases m)) z2
end
end TW

namespace TW
open PySem L2
section
variable {C : Ctx} {sg : Nat → Sig}
/-- a list of things, one thing put in -/
structure Wr (ds ds' : List D) (xs xs' : List V) (d : D) (v : V) : Prop where
  hold : ∀ (K : PySem.W.Frag) (B : Hp), holds K B ds xs → TW.hold K B d v → holds K B ds' xs'
  own : ∀ (H : Hp) (g f : List Addr), owns H ds xs g → TW.own H d v f → (∀ a ∈ g, a ∉ f) → ∃ g', owns H ds' xs' g' ∧ ∀ a ∈ g', a ∈ g ∨ a ∈ f
theorem Wr.app {ds : List D} {xs : List V} {d : D} {v : V} : Wr ds (ds ++ [d]) xs (xs ++ [v]) d v where
  hold := fun _ _ h g => holds_append h (holds_one g)
  own := fun _ g f h k n => ⟨g ++ f, owns_append h (owns_one k) n, fun _ m => List.mem_append.mp m⟩
theorem owns_cut {H : Hp} : ∀ (n : Nat) {ds : List D} {xs : List V} {f : List Addr}, owns H ds xs f → ∃ g1 g2, owns H (ds.take n) (xs.take n) g1 ∧ owns H (ds.drop n) (xs.drop n) g2 ∧ f = g1 ++ g2 ∧ ∀ a ∈ g1, a ∉ g2
  | 0, _, _, f, h => ⟨[], f, ⟨rfl, rfl⟩, h, rfl, nomem⟩
  | n + 1, [], _, _, h => by
    obtain ⟨rfl, rfl⟩ := h
    exact ⟨[], [], ⟨rfl, rfl⟩, ⟨rfl, rfl⟩, rfl, nomem⟩
  | n + 1, d :: ds, _, _, h => by
    obtain ⟨x, r, g1, g2, rfl, rfl, h1, h2, dj⟩ := h
    obtain ⟨f1, f2, e1, e2, rfl, e4⟩ := owns_cut n h2
    refine ⟨g1 ++ f1, f2, ⟨x, _, g1, f1, rfl, rfl, h1, e1, fun a m z => dj a m (List.mem_append_left _ z)⟩, e2, by rw [List.append_assoc], fun a m z => ?_⟩
    rcases List.mem_append.mp m with m | m
    · exact dj a m (List.mem_append_right _ z)
    · exact e4 a m z
theorem Wr.ins {ds : List D} {xs : List V} {d : D} {v : V} (n : Nat) : Wr ds (ds.take n ++ d :: ds.drop n) xs (xs.take n ++ v :: xs.drop n) d v where
  hold := fun _ _ h g => holds_append (holds_take n h) ⟨v, _, rfl, g, holds_drop n h⟩
  own := fun H g f h k nn => by
    obtain ⟨g1, g2, e1, e2, rfl, e4⟩ := owns_cut n h
    refine ⟨g1 ++ (f ++ g2), owns_append e1 ⟨v, _, f, g2, rfl, rfl, k, e2, fun a m z => nn a (List.mem_append_right _ z) m⟩ fun a m z => ?_, fun a m => ?_⟩
    · rcases List.mem_append.mp z with z | z
      · exact nn a (List.mem_append_left _ m) z
      · exact e4 a m z
    · rcases List.mem_append.mp m with m | m
      · exact .inl (List.mem_append_left _ m)
      · rcases List.mem_append.mp m with m | m
        · exact .inr m
        · exact .inl (List.mem_append_right _ m)
theorem Wr.set {ds : List D} {xs : List V} {d : D} {v : V} (n : Nat) : Wr ds (ds.set n d) xs (xs.set n v) d v where
  hold := fun _ _ h g => holds_set g n h
  own := fun H g f h k nn => by
    have key : ∀ (n : Nat) (ds : List D) (xs : List V) (g : List Addr), owns H ds xs g → (∀ a ∈ g, a ∉ f) → ∃ g', owns H (ds.set n d) (xs.set n v) g' ∧ ∀ a ∈ g', a ∈ g ∨ a ∈ f := by
      intro n ds
      induction ds generalizing n with
      | nil =>
        intro xs g h nn
        obtain ⟨rfl, rfl⟩ := h
        exact ⟨[], ⟨rfl, rfl⟩, nomem⟩
      | cons e r ih =>
        intro xs g h nn
        obtain ⟨x, r', g1, g2, rfl, rfl, h1, h2, dj⟩ := h
        cases n with
        | zero =>
          refine ⟨f ++ g2, ⟨v, r', f, g2, rfl, rfl, k, h2, fun a m z => nn a (List.mem_append_right _ z) m⟩, fun a m => ?_⟩
          exact (List.mem_append.mp m).symm.imp (List.mem_append_right _) fun q => q
        | succ n =>
          obtain ⟨g', e1, e2⟩ := ih n r' g2 h2 fun a m => nn a (List.mem_append_right _ m)
          refine ⟨g1 ++ g', ⟨x, _, g1, g', rfl, rfl, h1, e1, fun a m z => (e2 a z).elim (dj a m) (nn a (List.mem_append_left _ m))⟩, fun a m => ?_⟩
          rcases List.mem_append.mp m with m | m
          · exact .inl (List.mem_append_left _ m)
          · exact (e2 a m).imp (List.mem_append_right _) fun q => q
    exact key n ds xs g h nn
/-- a name's own list is written -/
theorem write_core {ks : Nat → Kind} {pin : Nat → Option V} {B H : Hp} {σ : L2.St} {ρ : Env} {F : Nat → List Addr} {k : Kind} {d : D} {v : V} {f : List Addr} (sta : Sta C ks pin B H σ ρ F) (hnb : ∀ j, (ks j).borrowed = false) (has : Has C B H F k d v f) {i : Nat} {ds : List D}
    (hk : (ks i = .top ∧ k.le .sh = true) ∨ (ks i = .deep ∧ k.le .deep = true)) (e0 : gt ρ i = some (.lst ds)) :
    ∃ p xs, σ[i]? = some (some (.ref p)) ∧ H p = some (.lst xs) ∧ ds.length = xs.length ∧ ∀ ds' xs', Wr ds ds' xs xs' d v → ∃ B' F', Step B H (fun a => FP F a ∨ a ∈ f) B' (upd H p (.lst xs')) (FP F') ∧ Sta C ks pin B' (upd H p (.lst xs')) σ (st ρ i (some (.lst ds'))) F' := by
  obtain ⟨v0, hv, r⟩ := sta.rep i _ e0
  rcases hk with ⟨hk, hl⟩ | ⟨hk, hl⟩ <;> rw [hk] at r
  · rcases r with r | ⟨p, rfl, ef, xs, t1, t2⟩
    · simp [scV] at r
    have mp : p ∈ F i := by rw [ef]; exact List.mem_singleton.mpr rfl
    refine ⟨p, xs, hv, t1, holds_length t2, fun ds' xs' w => ?_⟩
    have staJ := sta.absorb has.at has.dj has.nB
    have h1 := w.hold C.K (join B H f) (holds_mono (.of fun a o e _ => join_ext has.nB a o e) _ _ t2) (has.open_ hl)
    have sp := staJ.put hnb (o := .lst xs') (d := .lst ds') (g := [p]) e0 mp hv (by rw [hk]; exact .inr ⟨p, rfl, rfl, _, upd_same, h1⟩) (fun a m => .inr (by rw [ef]; exact m)) (fun a m => by rw [List.mem_singleton.mp m]; exact staJ.nB i p mp) nt_lst
    refine ⟨_, _, ⟨join_ext has.nB, fun a o e n _ => put_up e fun z => n (.inl ⟨i, z ▸ mp⟩), fun a h => ?_, fun a z => .inl (.inl ((setF_fp z).elim (fun q => q) fun m => by rw [List.mem_singleton.mp m]; exact ⟨i, mp⟩)), fun a h => ?_⟩, sp⟩
    · by_cases e : a = p
      · rw [e, upd_same]; simp
      · rw [upd_ne e]; exact h
    · by_cases m : a ∈ f
      · exact .inr (.inl (.inr m))
      · rw [join_out m] at h; exact .inl h
  · obtain ⟨p, xs, g, rfl, ef, t1, t2, t3⟩ := r
    have mp : p ∈ F i := by rw [ef]; exact List.mem_cons_self
    have mg : ∀ a ∈ g, a ∈ F i := fun a m => by rw [ef]; exact List.mem_cons_of_mem _ m
    refine ⟨p, xs, hv, t1, owns_length t3, fun ds' xs' w => ?_⟩
    have hd : own H d v f := by
      have q := has.rep
      cases k <;> simp only [Kind.le, Bool.false_eq_true] at hl
      · rw [q.2]; exact own_sc q.1
      · exact q
    have pf : p ∉ f := fun m => has.dj p m ⟨i, mp⟩
    have gf : ∀ a ∈ g, a ∉ f := fun a m z => has.dj a z ⟨i, mg a m⟩
    obtain ⟨g', e1, e2⟩ := w.own (upd H p (.lst xs')) g f (owns_keep _ _ _ t3 fun a m o e _ => put_up e fun z => t2 (z ▸ m)) (own_keep _ _ _ hd fun a m o e _ => put_up e fun z => pf (z ▸ m)) gf
    have pg : p ∉ g' := fun m => (e2 p m).elim t2 pf
    have sp := sta.put hnb (o := .lst xs') (d := .lst ds') (g := p :: g') e0 mp hv (by rw [hk]; exact ⟨p, _, g', rfl, rfl, upd_same, pg, e1⟩)
      (fun a m => (List.mem_cons.mp m).elim (fun e => .inr (by rw [e]; exact mp)) fun m => (e2 a m).elim (fun m => .inr (mg a m)) fun m => .inl (has.dj a m))
      (fun a m => (List.mem_cons.mp m).elim (fun e => by rw [e]; exact sta.nB i p mp) fun m => (e2 a m).elim (fun m => sta.nB i a (mg a m)) fun m => has.nB a m) nt_lst
    refine ⟨_, _, ⟨fun _ _ e => e, fun a o e n _ => put_up e fun z => n (.inl ⟨i, z ▸ mp⟩), fun a h => ?_, fun a z => .inl ((setF_fp z).elim .inl fun m => ?_), fun a h => .inl h⟩, sp⟩
    · by_cases e : a = p
      · rw [e, upd_same]; simp
      · rw [upd_ne e]; exact h
    · exact (List.mem_cons.mp m).elim (fun e => .inl (by rw [e]; exact ⟨i, mp⟩)) fun m => (e2 a m).imp (fun m => ⟨i, mg a m⟩) fun m => m
theorem lst_ty {ks : Nat → Kind} {pin : Nat → Option V} {B H : Hp} {σ : L2.St} {ρ : Env} {F : Nat → List Addr} (sta : Sta C ks pin B H σ ρ F) {i : Nat} {ds : List D} (e0 : gt ρ i = some (.lst ds)) : ∃ p xs, σ[i]? = some (some (.ref p)) ∧ H p = some (.lst xs) ∧ tyV C.K "list" (.ref p) H := by
  obtain ⟨v, hv, r⟩ := sta.rep i _ e0
  have g := vrep_hold sta.sub r
  simp only [hold] at g
  obtain ⟨p, xs, rfl, t1, t2⟩ := g
  exact ⟨p, xs, hv, t1, .inl ⟨rfl, xs, .of t1⟩⟩
theorem limS {n : Nat} (h : n < lim) : n < sizeLine := Nat.lt_trans h (by decide)
theorem own_kind {ki k : Kind} (h : (match (some k, ki) with | (some k, .top) => k.le .sh | (some k, .deep) => k.le .deep | _ => false) = true) : (ki = .top ∧ k.le .sh = true) ∨ (ki = .deep ∧ k.le .deep = true) := by
  cases ki <;> simp at h
  · exact .inl ⟨rfl, h⟩
  · exact .inr ⟨rfl, h⟩
theorem snd_app (so : SigOk C sg) (i : Nat) (e : IE) : SndS C sg (.app i e) := by
  intro ks hnb pin pn hpn rk W B H σ ρ F E hk sta h
  have hkk : ∃ k, kE sg true ks e = some k ∧ ((ks i = .top ∧ k.le .sh = true) ∨ (ks i = .deep ∧ k.le .deep = true)) := by
    simp only [kS] at hk
    split at hk
    · rename_i k e1 e2; exact ⟨k, e1, .inl ⟨e2, hk⟩⟩
    · rename_i k e1 e2; exact ⟨k, e1, .inr ⟨e2, hk⟩⟩
    · cases hk
  obtain ⟨k, hk1, hk2⟩ := hkk
  simp only [evS] at h
  split at h
  · rename_i ds0 e0
    obtain ⟨p, xs, hv, t1, ty⟩ := lst_ty sta e0
    refine ⟨_, hv, ty, ?_⟩
    refine stm_e (E := E) (rk := rk) so hnb (g := fun d ρ1 => match gt ρ1 i with
      | some (.lst ds) => if ds.length < lim then .nx (st ρ1 i (some (.lst (ds ++ [d])))) else .bad
      | _ => .bad) hk1 sta h fun d ρ1 v B1 H1 F1 f ev st1 sta1 has1 pu1 h3 => ?_
    try simp only at h3
    split at h3
    · rename_i ds e1
      split at h3
      · rename_i hl
        obtain ⟨q, ys, w1, w2, w3, w4⟩ := write_core sta1 hnb has1 hk2 e1
        obtain ⟨B', F', s1, s2⟩ := w4 (ds ++ [d]) (ys ++ [v]) .app
        rw [hv] at w1
        cases w1
        exact ⟨p, ys, v, rfl, rfl, w2, limS (by rw [← w3]; exact hl), h3 _ _ _ _ (st1.trans s1) s2⟩
      · exact h3.elim
    · exact h3.elim
  · exact h.elim
theorem snd_ins (so : SigOk C sg) (i : Nat) (a e : IE) : SndS C sg (.ins i a e) := by
  intro ks hnb pin pn hpn rk W B H σ ρ F E hk sta h
  have hkk : ∃ ka k, kE sg true ks a = some ka ∧ kE sg true ks e = some k ∧ ((ks i = .top ∧ k.le .sh = true) ∨ (ks i = .deep ∧ k.le .deep = true)) := by
    simp only [kS] at hk
    split at hk
    · rename_i e0 e1 e2; exact ⟨_, _, e0, e1, .inl ⟨e2, hk⟩⟩
    · rename_i e0 e1 e2; exact ⟨_, _, e0, e1, .inr ⟨e2, hk⟩⟩
    · cases hk
  obtain ⟨ka, k, hk0, hk1, hk2⟩ := hkk
  simp only [evS] at h
  split at h
  · rename_i ds0 e0
    obtain ⟨p, xs, hv, t1, ty⟩ := lst_ty sta e0
    refine ⟨_, hv, ty, ?_⟩
    refine stm_e (E := E) (rk := rk) so hnb (g := fun d ρ1 => match d with
      | .int k => match evE C.Φ e ρ1 with
        | .ok (d, ρ2) => match gt ρ2 i with
          | some (.lst ds) => if ds.length < lim ∧ 0 ≤ k ∧ k ≤ ds.length then .nx (st ρ2 i (some (.lst (ds.take k.toNat ++ d :: ds.drop k.toNat)))) else .bad
          | _ => .bad
        | .exc c => .exc c | .bad => .bad
      | _ => .bad) hk0 sta ?_ fun d0 ρ1 v0 B1 H1 F1 f1 ev st1 sta1 has1 pu1 h2 => ?_
    · cases ev : evE C.Φ a ρ with
      | ok q => obtain ⟨d0, ρ1⟩ := q; rw [ev] at h; cases d0 <;> exact h
      | exc c => rw [ev] at h; exact h
      | bad => rw [ev] at h; exact h
    · cases d0 with
      | int k0 =>
        have g0 := vrep_hold sta1.sub has1.rep
        simp only [hold] at g0
        subst g0
        have st1' := st1.less (P2 := FP F1) fun a z => .inl z
        refine stm_e (E := E) (rk := rk) so hnb (g := fun d ρ2 => match gt ρ2 i with
          | some (.lst ds) => if ds.length < lim ∧ 0 ≤ k0 ∧ k0 ≤ ds.length then .nx (st ρ2 i (some (.lst (ds.take k0.toNat ++ d :: ds.drop k0.toNat)))) else .bad
          | _ => .bad) hk1 sta1 (FinO.shift h2 st1') fun d ρ2 v B2 H2 F2 f ev st2 sta2 has2 pu2 h3 => ?_
        try simp only at h3
        split at h3
        · rename_i ds e1
          split at h3
          · rename_i hl
            obtain ⟨q, ys, w1, w2, w3, w4⟩ := write_core sta2 hnb has2 hk2 e1
            obtain ⟨B', F', s1, s2⟩ := w4 _ _ (.ins k0.toNat)
            rw [hv] at w1
            cases w1
            refine ⟨p, ys, k0, v, rfl, rfl, w2, limS (by rw [← w3]; exact hl.1), hl.2.1, ?_, h3 _ _ _ _ (st2.trans s1) s2⟩
            have : (ds.length : Int) < 100000 := by have := hl.1; unfold lim at this; omega
            omega
          · exact h3.elim
        · exact h3.elim
      | _ => exact h2.elim
  · exact h.elim
theorem Wr.clr {ds : List D} {xs : List V} : Wr ds [] xs [] .non .non where
  hold := fun _ _ _ _ => rfl
  own := fun _ _ _ _ _ _ => ⟨[], ⟨rfl, rfl⟩, nomem⟩
theorem snd_clr (i : Nat) : SndS C sg (.clr i) := by
  intro ks hnb pin pn hpn rk W B H σ ρ F E hk sta h
  simp only [kS] at hk
  have hk2 : (ks i = .top ∧ Kind.le .im .sh = true) ∨ (ks i = .deep ∧ Kind.le .im .deep = true) := by
    cases q : ks i <;> rw [q] at hk <;> simp only [ownK, Bool.false_eq_true] at hk
    · exact .inl ⟨rfl, rfl⟩
    · exact .inr ⟨rfl, rfl⟩
  simp only [evS] at h
  split at h
  · rename_i ds0 e0
    obtain ⟨p, xs, hv, t1, ty⟩ := lst_ty sta e0
    refine ⟨_, hv, ty, ?_⟩
    obtain ⟨q, ys, w1, w2, w3, w4⟩ := write_core (k := .im) (f := []) (d := .non) (v := .non) sta hnb ⟨⟨rfl, rfl⟩, nomem, nomem⟩ hk2 e0
    obtain ⟨B', F', s1, s2⟩ := w4 _ _ .clr
    rw [hv] at w1
    cases w1
    exact ⟨p, ys, rfl, rfl, w2, h _ _ _ _ (s1.more fun a z => z.elim (fun q => q) fun m => by cases m) s2⟩
  · exact h.elim
theorem ixN_ixAt {n : Nat} {i : Int} : ixN n i = ixAt n i := rfl
theorem snd_seti (so : SigOk C sg) (i : Nat) (a e : IE) : SndS C sg (.seti i a e) := by
  intro ks hnb pin pn hpn rk W B H σ ρ F E hk sta h
  have hkk : ∃ ka k, kE sg true ks a = some ka ∧ kE sg true ks e = some k ∧ ((ks i = .top ∧ k.le .sh = true) ∨ (ks i = .deep ∧ k.le .deep = true)) := by
    simp only [kS] at hk
    split at hk
    · rename_i e0 e1 e2; exact ⟨_, _, e0, e1, .inl ⟨e2, hk⟩⟩
    · rename_i e0 e1 e2; exact ⟨_, _, e0, e1, .inr ⟨e2, hk⟩⟩
    · cases hk
  obtain ⟨ka, k, hk0, hk1, hk2⟩ := hkk
  have knb : k.borrowed = false := by
    rcases hk2 with ⟨_, l⟩ | ⟨_, l⟩ <;> cases k <;> simp_all [Kind.le, Kind.borrowed]
  simp only [evS] at h
  refine stm_e (E := E) (rk := rk) so hnb (g := fun d ρ1 => match gt ρ1 i with
     | some _ => match evE C.Φ a ρ1 with
      | .ok (.int k, ρ2) => match gt ρ2 i with
        | some (.lst ds) => match setAt ds k d with | some r => .nx (st ρ2 i (some (.lst r))) | none => .bad
        | _ => .bad
      | .ok _ => .bad | .exc c => .exc c | .bad => .bad
     | none => .bad) hk1 sta h fun d ρ1 v B1 H1 F1 f1 ev st1 sta1 has1 pu1 h2 => ?_
  have st1' := st1.less (P2 := FP F1) fun a z => .inl z
  try simp only at h2
  split at h2
  · rename_i dd0 ei
    obtain ⟨x, hx, _⟩ := sta1.rep i _ ei
    refine ⟨x, hx, ?_⟩
    refine stm_e (E := E) (rk := rk) so hnb (g := fun d0 ρ2 => match d0 with
        | .int k => match gt ρ2 i with
          | some (.lst ds) => match setAt ds k d with | some r => .nx (st ρ2 i (some (.lst r))) | none => .bad
          | _ => .bad
        | _ => .bad) hk0 sta1 (FinO.shift (F := F) (H := H) (B := B) ?_ st1') fun d0 ρ2 v0 B2 H2 F2 f2 ev2 st2 sta2 has2 pu2 h3 => ?_
    · cases ev2 : evE C.Φ a ρ1 with
      | ok q => obtain ⟨d0, ρ2⟩ := q; rw [ev2] at h2; cases d0 <;> exact h2
      | exc c => rw [ev2] at h2; exact h2
      | bad => rw [ev2] at h2; exact h2
    · obtain ⟨has1', _⟩ := has1.step st2 fun z => by rw [knb] at z; cases z
      cases d0 with
      | int k0 =>
        have g0 := vrep_hold sta2.sub has2.rep
        simp only [hold] at g0
        subst g0
        have h2' : FinO C ks pin B H F W rk (match gt ρ2 i with
          | some (.lst ds) => match setAt ds k0 d with | some r => .nx (st ρ2 i (some (.lst r))) | none => .bad
          | _ => .bad) E := by rw [ev2] at h2; exact h2
        split at h2'
        · rename_i ds e1
          split at h2'
          · rename_i r er
            unfold setAt at er
            rw [Option.map_eq_some_iff] at er
            obtain ⟨n, en, rfl⟩ := er
            obtain ⟨q, ys, w1, w2, w3, w4⟩ := write_core sta2 hnb has1' hk2 e1
            obtain ⟨B', F', s1, s2⟩ := w4 _ _ (.set n)
            rw [hx] at w1
            cases w1
            have tot : Step B H (FP F) B2 H2 (fun a => FP F2 a ∨ a ∈ f1) := (st1.row st2).less fun a z => z.imp (fun q => q) fun m => List.mem_append_left _ m
            exact ⟨q, ys, k0, n, rfl, rfl, w2, by rw [← w3]; exact en, h2' _ _ _ _ (tot.trans s1) s2⟩
          · exact h2'.elim
        · exact h2'.elim
      | _ => exact h3.elim
  · exact h2.elim
end
end TW

namespace TW
open PySem L2
section
variable {C : Ctx} {sg : Nat → Sig}
theorem put_hold {K : PySem.W.Frag} {B : Hp} {k : Int} {d : D} {v : V} (hv : hold K B d v) {kd : List (Int × D)} {kvs : List (Key × V)} (h : holdK K B kd kvs) : holdK K B (put kd k d) (putK kvs (.inl k) v) := by
  have any : ∀ {kd : List (Int × D)} {kvs : List (Key × V)}, holdK K B kd kvs → (kd.any fun e => decide (e.1 = k)) = kvs.any fun kv => decide (kv.1 = (.inl k : Key)) := by
    intro kd
    induction kd with
    | nil => intro kvs h; cases h; rfl
    | cons p r ih =>
      obtain ⟨i, d⟩ := p
      intro kvs h
      obtain ⟨x, r', rfl, h1, h2⟩ := h
      simp only [List.any_cons, ih h2]
      congr 1
      by_cases e : i = k
      · subst e; simp
      · have : ¬ (Sum.inl i : Key) = Sum.inl k := fun z => e (Sum.inl.inj z)
        simp [e, this]
  unfold put putK
  rw [any h]
  split
  · have mp : ∀ {kd : List (Int × D)} {kvs : List (Key × V)}, holdK K B kd kvs → holdK K B (kd.map fun e => if e.1 = k then (e.1, d) else e) (kvs.map fun kv => if kv.1 = (.inl k : Key) then (kv.1, v) else kv) := by
      intro kd
      induction kd with
      | nil => intro kvs h; cases h; rfl
      | cons p r ih =>
        obtain ⟨i, d0⟩ := p
        intro kvs h
        obtain ⟨x, r', rfl, h1, h2⟩ := h
        simp only [List.map_cons]
        by_cases e : i = k
        · subst e
          rw [if_pos rfl, if_pos rfl]
          exact ⟨v, _, rfl, hv, ih h2⟩
        · rw [if_neg e, if_neg (fun z => e (Sum.inl.inj z))]
          exact ⟨x, _, rfl, h1, ih h2⟩
    exact mp h
  · have ap : ∀ {kd : List (Int × D)} {kvs : List (Key × V)}, holdK K B kd kvs → holdK K B (kd ++ [(k, d)]) (kvs ++ [(.inl k, v)]) := by
      intro kd
      induction kd with
      | nil => intro kvs h; cases h; exact ⟨v, [], rfl, hv, rfl⟩
      | cons p r ih =>
        obtain ⟨i, d0⟩ := p
        intro kvs h
        obtain ⟨x, r', rfl, h1, h2⟩ := h
        exact ⟨x, _, rfl, h1, ih h2⟩
    exact ap h
theorem putT_hold {K : PySem.W.Frag} {B : Hp} {j k : Int} {d : D} {v : V} (hv : hold K B d v) {kd : List ((Int × Int) × D)} {kvs : List (List Key × V)} (h : holdT K B kd kvs) : holdT K B (put kd (j, k) d) (putK kvs [.inl j, .inl k] v) := by
  have eqk : ∀ i l : Int, ([Sum.inl i, Sum.inl l] : List Key) = [Sum.inl j, Sum.inl k] ↔ (i, l) = (j, k) := fun i l => by simp
  have any : ∀ {kd : List ((Int × Int) × D)} {kvs : List (List Key × V)}, holdT K B kd kvs → (kd.any fun e => decide (e.1 = (j, k))) = kvs.any fun kv => decide (kv.1 = ([.inl j, .inl k] : List Key)) := by
    intro kd
    induction kd with
    | nil => intro kvs h; cases h; rfl
    | cons p r ih =>
      obtain ⟨⟨i, l⟩, d⟩ := p
      intro kvs h
      obtain ⟨x, r', rfl, h1, h2⟩ := h
      simp only [List.any_cons, ih h2]
      congr 1
      exact decide_eq_decide.mpr (eqk i l).symm
  unfold put putK
  rw [any h]
  split
  · have mp : ∀ {kd : List ((Int × Int) × D)} {kvs : List (List Key × V)}, holdT K B kd kvs → holdT K B (kd.map fun e => if e.1 = (j, k) then (e.1, d) else e) (kvs.map fun kv => if kv.1 = ([.inl j, .inl k] : List Key) then (kv.1, v) else kv) := by
      intro kd
      induction kd with
      | nil => intro kvs h; cases h; rfl
      | cons p r ih =>
        obtain ⟨⟨i, l⟩, d0⟩ := p
        intro kvs h
        obtain ⟨x, r', rfl, h1, h2⟩ := h
        simp only [List.map_cons]
        by_cases e : (i, l) = (j, k)
        · rw [if_pos e, if_pos ((eqk i l).mpr e)]
          exact ⟨v, _, rfl, hv, ih h2⟩
        · rw [if_neg e, if_neg (fun z => e ((eqk i l).mp z))]
          exact ⟨x, _, rfl, h1, ih h2⟩
    exact mp h
  · have ap : ∀ {kd : List ((Int × Int) × D)} {kvs : List (List Key × V)}, holdT K B kd kvs → holdT K B (kd ++ [((j, k), d)]) (kvs ++ [([.inl j, .inl k], v)]) := by
      intro kd
      induction kd with
      | nil => intro kvs h; cases h; exact ⟨v, [], rfl, hv, rfl⟩
      | cons p r ih =>
        obtain ⟨⟨i, l⟩, d0⟩ := p
        intro kvs h
        obtain ⟨x, r', rfl, h1, h2⟩ := h
        exact ⟨x, _, rfl, h1, ih h2⟩
    exact ap h
/-- a name's own top is written, what is new in it known -/
theorem top_core {ks : Nat → Kind} {pin : Nat → Option V} {B H : Hp} {σ : L2.St} {ρ : Env} {F : Nat → List Addr} {k : Kind} {d : D} {v : V} {f : List Addr} (sta : Sta C ks pin B H σ ρ F) (hnb : ∀ j, (ks j).borrowed = false) (has : Has C B H F k d v f) {i : Nat} {d0 : D}
    (hk : ks i = .top) (hl : k.le .sh = true) (e0 : gt ρ i = some d0) (hd : scV d0 = none) :
    ∃ p, σ[i]? = some (some (.ref p)) ∧ topAt C.K (join B H f) H p d0 ∧ hold C.K (join B H f) d v ∧ ∀ d' o, NoTab o → (∀ Hx : Hp, Hx p = some o → topAt C.K (join B H f) Hx p d') → ∃ B' F', Step B H (fun a => FP F a ∨ a ∈ f) B' (upd H p o) (FP F') ∧ Sta C ks pin B' (upd H p o) σ (st ρ i (some d')) F' := by
  obtain ⟨v0, hv, r⟩ := sta.rep i _ e0
  rw [hk] at r
  rcases r with r | ⟨p, rfl, ef, t⟩
  · rw [hd] at r; cases r.1
  have mp : p ∈ F i := by rw [ef]; exact List.mem_singleton.mpr rfl
  have staJ := sta.absorb has.at has.dj has.nB
  refine ⟨p, hv, topAt_keep t (.of fun a o e _ => join_ext has.nB a o e) (fun _ e _ => e), has.open_ hl, fun d' o ho w => ?_⟩
  have sp := staJ.put hnb (o := o) (d := d') (g := [p]) e0 mp hv (by rw [hk]; exact .inr ⟨p, rfl, rfl, w _ upd_same⟩) (fun a m => .inr (by rw [ef]; exact m)) (fun a m => by rw [List.mem_singleton.mp m]; exact staJ.nB i p mp) ho
  refine ⟨_, _, ⟨join_ext has.nB, fun a o e n _ => put_up e fun z => n (.inl ⟨i, z ▸ mp⟩), fun a h => ?_, fun a z => .inl (.inl ((setF_fp z).elim (fun q => q) fun m => by rw [List.mem_singleton.mp m]; exact ⟨i, mp⟩)), fun a h => ?_⟩, sp⟩
  · by_cases e : a = p
    · rw [e, upd_same]; simp
    · rw [upd_ne e]; exact h
  · by_cases m : a ∈ f
    · exact .inr (.inl (.inr m))
    · rw [join_out m] at h; exact .inl h
theorem holdT_length {K : PySem.W.Frag} {B : Hp} : ∀ {ds : List ((Int × Int) × D)} {xs : List (List Key × V)}, holdT K B ds xs → ds.length = xs.length
  | [], _, h => by simp only [holdT] at h; subst h; rfl
  | ((i, j), d) :: ds, _, h => by
    simp only [holdT] at h
    obtain ⟨x, r, e1, _, e3⟩ := h
    subst e1
    simp only [List.length_cons, holdT_length e3]
theorem snd_setk (so : SigOk C sg) (i : Nat) (a e : IE) : SndS C sg (.setk i a e) := by
  intro ks hnb pin pn hpn rk W B H σ ρ F E hk sta h
  have hkk : ∃ ka k, kE sg true ks a = some ka ∧ kE sg true ks e = some k ∧ ks i = .top ∧ k.le .sh = true := by
    simp only [kS] at hk
    split at hk
    · rename_i e0 e1 e2; exact ⟨_, _, e0, e1, e2, hk⟩
    · cases hk
  obtain ⟨ka, k, hk0, hk1, hk2, hk3⟩ := hkk
  have knb : k.borrowed = false := by cases k <;> simp_all [Kind.le, Kind.borrowed]
  simp only [evS] at h
  refine stm_e (E := E) (rk := rk) so hnb (g := fun d ρ1 => match gt ρ1 i with
     | some _ => match evE C.Φ a ρ1 with
      | .ok (.int k, ρ2) => match gt ρ2 i with
        | some (.dic ks) => if ks.length < lim then .nx (st ρ2 i (some (.dic (put ks k d)))) else .bad
        | _ => .bad
      | .ok _ => .bad | .exc c => .exc c | .bad => .bad
     | none => .bad) hk1 sta h fun d ρ1 v B1 H1 F1 f1 ev st1 sta1 has1 pu1 h2 => ?_
  have st1' := st1.less (P2 := FP F1) fun a z => .inl z
  try simp only at h2
  split at h2
  · rename_i dd0 ei
    obtain ⟨x, hx, _⟩ := sta1.rep i _ ei
    refine ⟨x, hx, ?_⟩
    refine stm_e (E := E) (rk := rk) so hnb (g := fun d0 ρ2 => match d0 with
        | .int k => match gt ρ2 i with
          | some (.dic ks) => if ks.length < lim then .nx (st ρ2 i (some (.dic (put ks k d)))) else .bad
          | _ => .bad
        | _ => .bad) hk0 sta1 (FinO.shift (F := F) (H := H) (B := B) ?_ st1') fun d0 ρ2 v0 B2 H2 F2 f2 ev2 st2 sta2 has2 pu2 h3 => ?_
    · cases ev2 : evE C.Φ a ρ1 with
      | ok q => obtain ⟨d0, ρ2⟩ := q; rw [ev2] at h2; cases d0 <;> exact h2
      | exc c => rw [ev2] at h2; exact h2
      | bad => rw [ev2] at h2; exact h2
    · obtain ⟨has1', _⟩ := has1.step st2 fun z => by rw [knb] at z; cases z
      cases d0 with
      | int k0 =>
        have g0 := vrep_hold sta2.sub has2.rep
        simp only [hold] at g0
        subst g0
        have h2' : FinO C ks pin B H F W rk (match gt ρ2 i with
          | some (.dic ks) => if ks.length < lim then .nx (st ρ2 i (some (.dic (put ks k0 d)))) else .bad
          | _ => .bad) E := by rw [ev2] at h2; exact h2
        split at h2'
        · rename_i kd e1
          split at h2'
          · rename_i hl
            obtain ⟨p, w1, ⟨kvs, t1, t2⟩, w3, w4⟩ := top_core sta2 hnb has1' hk2 hk3 e1 rfl
            obtain ⟨B', F', s1, s2⟩ := w4 (.dic (put kd k0 d)) (.dK (putK kvs (.inl k0) v)) nt_dK fun Hx e => ⟨_, e, put_hold w3 t2⟩
            rw [hx] at w1
            cases w1
            have tot : Step B H (FP F) B2 H2 (fun a => FP F2 a ∨ a ∈ f1) := (st1.row st2).less fun a z => z.imp (fun q => q) fun m => List.mem_append_left _ m
            exact ⟨p, _, rfl, DPut.k (k := .inl k0) t1 (by rw [← holdK_length t2]; exact limS hl), h2' _ _ _ _ (tot.trans s1) s2⟩
          · exact h2'.elim
        · exact h2'.elim
      | _ => exact h3.elim
  · exact h2.elim
theorem snd_setp (so : SigOk C sg) (i : Nat) (a e : IE) : SndS C sg (.setp i a e) := by
  intro ks hnb pin pn hpn rk W B H σ ρ F E hk sta h
  have hkk : ∃ ka k, kE sg true ks a = some ka ∧ kE sg true ks e = some k ∧ ks i = .top ∧ k.le .sh = true := by
    simp only [kS] at hk
    split at hk
    · rename_i e0 e1 e2; exact ⟨_, _, e0, e1, e2, hk⟩
    · cases hk
  obtain ⟨ka, k, hk0, hk1, hk2, hk3⟩ := hkk
  have knb : k.borrowed = false := by cases k <;> simp_all [Kind.le, Kind.borrowed]
  simp only [evS] at h
  refine stm_e (E := E) (rk := rk) so hnb (g := fun d ρ1 => match gt ρ1 i with
     | some _ => match evE C.Φ a ρ1 with
      | .ok (.tup [.int j, .int k], ρ2) => match gt ρ2 i with
        | some (.dct ks) => if ks.length < lim then .nx (st ρ2 i (some (.dct (put ks (j, k) d)))) else .bad
        | _ => .bad
      | .ok _ => .bad | .exc c => .exc c | .bad => .bad
     | none => .bad) hk1 sta h fun d ρ1 v B1 H1 F1 f1 ev st1 sta1 has1 pu1 h2 => ?_
  have st1' := st1.less (P2 := FP F1) fun a z => .inl z
  try simp only at h2
  split at h2
  · rename_i dd0 ei
    obtain ⟨x, hx, _⟩ := sta1.rep i _ ei
    refine ⟨x, hx, ?_⟩
    refine stm_e (E := E) (rk := rk) so hnb (g := fun d0 ρ2 => match d0 with
        | .tup [.int j, .int k] => match gt ρ2 i with
          | some (.dct ks) => if ks.length < lim then .nx (st ρ2 i (some (.dct (put ks (j, k) d)))) else .bad
          | _ => .bad
        | _ => .bad) hk0 sta1 (FinO.shift (F := F) (H := H) (B := B) ?_ st1') fun d0 ρ2 v0 B2 H2 F2 f2 ev2 st2 sta2 has2 pu2 h3 => ?_
    · cases ev2 : evE C.Φ a ρ1 with
      | ok q =>
        obtain ⟨d0, ρ2⟩ := q
        rw [ev2] at h2
        simp only at h2 ⊢
        split at h2 <;> rename_i hq
        · cases hq; exact h2
        · exact h2.elim
        · cases hq
        · cases hq
      | exc c => rw [ev2] at h2; exact h2
      | bad => rw [ev2] at h2; exact h2
    · obtain ⟨has1', _⟩ := has1.step st2 fun z => by rw [knb] at z; cases z
      try simp only at h3
      split at h3
      · rename_i j0 k0
        have g0 := vrep_hold sta2.sub has2.rep
        obtain ⟨q, xs, rfl, g1, x1, r1, rfl, g2, x2, r2, rfl, g3, rfl⟩ := g0
        have g2 : x1 = .int j0 := g2
        have g3 : x2 = .int k0 := g3
        subst g2; subst g3
        have h2' : FinO C ks pin B H F W rk (match gt ρ2 i with
          | some (.dct ks) => if ks.length < lim then .nx (st ρ2 i (some (.dct (put ks (j0, k0) d)))) else .bad
          | _ => .bad) E := by rw [ev2] at h2; exact h2
        split at h2'
        · rename_i kd e1
          split at h2'
          · rename_i hl
            obtain ⟨p, w1, ⟨kvs, t1, t2⟩, w3, w4⟩ := top_core sta2 hnb has1' hk2 hk3 e1 rfl
            obtain ⟨B', F', s1, s2⟩ := w4 (.dct (put kd (j0, k0) d)) (.dT (putK kvs [.inl j0, .inl k0] v)) nt_dT fun Hx e => ⟨_, e, putT_hold w3 t2⟩
            rw [hx] at w1
            cases w1
            have tot : Step B H (FP F) B2 H2 (fun a => FP F2 a ∨ a ∈ f1) := (st1.row st2).less fun a z => z.imp (fun q => q) fun m => List.mem_append_left _ m
            exact ⟨p, _, rfl, DPut.t (k := [.inl j0, .inl k0]) t1 g1 (by rw [← holdT_length t2]; exact limS hl), h2' _ _ _ _ (tot.trans s1) s2⟩
          · exact h2'.elim
        · exact h2'.elim
      · exact h3.elim
  · exact h2.elim
end
end TW

namespace TW
open PySem L2
section
variable {C : Ctx} {sg : Nat → Sig}
theorem owns_item {H : Hp} : ∀ (n : Nat) {ds : List D} {xs : List V} {g : List Addr} {d0 : D}, owns H ds xs g → ds[n]? = some d0 → ∃ (x : V) (g1 g2 : List Addr), xs[n]? = some x ∧ own H d0 x g1 ∧ (∀ a ∈ g1, a ∈ g) ∧ (∀ a ∈ g2, a ∈ g) ∧ (∀ a ∈ g1, a ∉ g2) ∧
    ∀ (H' : Hp) (d' : D) (g' : List Addr), own H' d' x g' → (∀ a ∈ g2, ∀ o, H a = some o → Lay o → H' a = some o) → (∀ a ∈ g2, a ∉ g') → ∃ gn, owns H' (ds.set n d') xs gn ∧ ∀ a ∈ gn, a ∈ g' ∨ a ∈ g2
  | _, [], _, _, _, _, e => by simp at e
  | 0, d :: ds, _, _, d0, h, e => by
    obtain ⟨x, r, g1, g2, rfl, rfl, h1, h2, dj⟩ := h
    simp at e; subst e
    refine ⟨x, g1, g2, rfl, h1, fun a m => List.mem_append_left _ m, fun a m => List.mem_append_right _ m, dj, fun H' d' g' o k n => ⟨g' ++ g2, ⟨x, r, g', g2, rfl, rfl, o, owns_keep _ _ _ h2 k, fun a m z => n a z m⟩, fun a m => List.mem_append.mp m⟩⟩
  | n + 1, d :: ds, _, _, d0, h, e => by
    obtain ⟨x, r, g1, g2, rfl, rfl, h1, h2, dj⟩ := h
    obtain ⟨y, f1, f2, e1, e2, e3, e4, e5, e6⟩ := owns_item n h2 (by simpa using e)
    refine ⟨y, f1, g1 ++ f2, by simpa using e1, e2, fun a m => List.mem_append_right _ (e3 a m), fun a m => ?_, fun a m z => ?_, fun H' d' g' o k nn => ?_⟩
    · rcases List.mem_append.mp m with m | m
      · exact List.mem_append_left _ m
      · exact List.mem_append_right _ (e4 a m)
    · rcases List.mem_append.mp z with z | z
      · exact dj a z (e3 a m)
      · exact e5 a m z
    · obtain ⟨gn, k1, k2⟩ := e6 H' d' g' o (fun a m => k a (List.mem_append_right _ m)) fun a m => nn a (List.mem_append_right _ m)
      refine ⟨g1 ++ gn, ⟨x, r, g1, gn, rfl, rfl, own_keep _ _ _ h1 fun a m => k a (List.mem_append_left _ m), k1, fun a m z => ?_⟩, fun a m => ?_⟩
      · rcases k2 a z with z | z
        · exact nn a (List.mem_append_left _ m) z
        · exact dj a m (e4 a z)
      · rcases List.mem_append.mp m with m | m
        · exact .inr (List.mem_append_left _ m)
        · exact (k2 a m).imp (fun q => q) (List.mem_append_right _)
/-- an item of an item of a name's own list is written -/
theorem set2_core {ks : Nat → Kind} {pin : Nat → Option V} {B H : Hp} {σ : L2.St} {ρ : Env} {F : Nat → List Addr} {k : Kind} {d : D} {v : V} {f : List Addr} (sta : Sta C ks pin B H σ ρ F) (hnb : ∀ j, (ks j).borrowed = false) (has : Has C B H F k d v f) {i n : Nat} {ds es : List D}
    (hk : ks i = .deep) (hl : k.le .deep = true) (e0 : gt ρ i = some (.lst ds)) (en : ds[n]? = some (.lst es)) :
    ∃ p xs q ys, σ[i]? = some (some (.ref p)) ∧ H p = some (.lst xs) ∧ ds.length = xs.length ∧ xs[n]? = some (.ref q) ∧ H q = some (.lst ys) ∧ es.length = ys.length ∧
      ∀ m, ∃ B' F', Step B H (fun a => FP F a ∨ a ∈ f) B' (upd H q (.lst (ys.set m v))) (FP F') ∧ Sta C ks pin B' (upd H q (.lst (ys.set m v))) σ (st ρ i (some (.lst (ds.set n (.lst (es.set m d)))))) F' := by
  obtain ⟨v0, hv, r⟩ := sta.rep i _ e0
  rw [hk] at r
  obtain ⟨p, xs, g, rfl, ef, t1, t2, t3⟩ := r
  have mp : p ∈ F i := by rw [ef]; exact List.mem_cons_self
  have mg : ∀ a ∈ g, a ∈ F i := fun a m => by rw [ef]; exact List.mem_cons_of_mem _ m
  have hd : own H d v f := by
    have q := has.rep
    cases k <;> simp only [Kind.le, Bool.false_eq_true] at hl
    · rw [q.2]; exact own_sc q.1
    · exact q
  obtain ⟨x, g1, g2, x1, x2, x3, x4, x5, x6⟩ := owns_item n t3 en
  obtain ⟨q, ys, h1, rfl, rfl, y1, y2, y3⟩ := x2
  have mq : q ∈ g := x3 q List.mem_cons_self
  have mh : ∀ a ∈ h1, a ∈ g := fun a m => x3 a (List.mem_cons_of_mem _ m)
  have off : ∀ a, a ∈ F i → a ∉ f := fun a m z => has.dj a z ⟨i, m⟩
  have pq : p ≠ q := fun z => t2 (z ▸ mq)
  refine ⟨p, xs, q, ys, hv, t1, owns_length t3, x1, y1, owns_length y3, fun m => ?_⟩
  obtain ⟨h', w1, w2⟩ := (Wr.set (ds := es) (xs := ys) (d := d) (v := v) m).own (upd H q (.lst (ys.set m v))) h1 f (owns_keep _ _ _ y3 fun a m o e _ => put_up e fun z => y2 (z ▸ m)) (own_keep _ _ _ hd fun a m o e _ => put_up e fun z => off q (mg q mq) (z ▸ m)) fun a m => off a (mg a (mh a m))
  have qh : q ∉ h' := fun z => (w2 q z).elim y2 (off q (mg q mq))
  have qg2 : q ∉ g2 := x5 q List.mem_cons_self
  obtain ⟨gn, k1, k2⟩ := x6 (upd H q (.lst (ys.set m v))) (.lst (es.set m d)) (q :: h') ⟨q, _, h', rfl, rfl, upd_same, qh, w1⟩ (fun a m o e _ => put_up e fun z => qg2 (z ▸ m)) fun a m z => by
    rcases List.mem_cons.mp z with z | z
    · exact qg2 (z ▸ m)
    · rcases w2 a z with z | z
      · exact x5 a (List.mem_cons_of_mem _ z) m
      · exact off a (mg a (x4 a m)) z
  have sub : ∀ a ∈ gn, a ∈ g ∨ a ∈ f := fun a m => by
    rcases k2 a m with z | z
    · rcases List.mem_cons.mp z with z | z
      · exact .inl (z ▸ mq)
      · exact (w2 a z).imp (mh a) fun q => q
    · exact .inl (x4 a z)
  have pgn : p ∉ gn := fun z => (sub p z).elim t2 (off p mp)
  have sp := sta.put hnb (p := q) (o := .lst (ys.set m v)) (d := .lst (ds.set n (.lst (es.set m d)))) (g := p :: gn) e0 (mg q mq) hv (by rw [hk]; exact ⟨p, xs, gn, rfl, rfl, put_up t1 pq, pgn, k1⟩)
    (fun a m => (List.mem_cons.mp m).elim (fun e => .inr (by rw [e]; exact mp)) fun m => (sub a m).elim (fun m => .inr (mg a m)) fun m => .inl (has.dj a m))
    (fun a m => (List.mem_cons.mp m).elim (fun e => by rw [e]; exact sta.nB i p mp) fun m => (sub a m).elim (fun m => sta.nB i a (mg a m)) fun m => has.nB a m) nt_lst
  refine ⟨_, _, ⟨fun _ _ e => e, fun a o e n _ => put_up e fun z => n (.inl ⟨i, z ▸ mg q mq⟩), fun a h => ?_, fun a z => .inl ((setF_fp z).elim .inl fun m => ?_), fun a h => .inl h⟩, sp⟩
  · by_cases e : a = q
    · rw [e, upd_same]; simp
    · rw [upd_ne e]; exact h
  · exact (List.mem_cons.mp m).elim (fun e => .inl (by rw [e]; exact ⟨i, mp⟩)) fun m => (sub a m).imp (fun m => ⟨i, mg a m⟩) fun m => m
theorem nth_ix {α : Type} {ds : List α} {k : Int} {d : α} (h : nth ds k = some d) : ∃ n, ixAt ds.length k = some n ∧ ds[n]? = some d := by
  unfold nth at h
  rw [Option.bind_eq_some_iff] at h
  exact h
theorem snd_set2 (so : SigOk C sg) (i : Nat) (a b e : IE) : SndS C sg (.set2 i a b e) := by
  intro ks hnb pin pn hpn rk W B H σ ρ F E hk sta h
  have hkk : ∃ ka kb k, kE sg true ks a = some ka ∧ kE sg true ks b = some kb ∧ kE sg true ks e = some k ∧ ks i = .deep ∧ k.le .deep = true ∧ pureE sg a = true ∧ pureE sg b = true := by
    simp only [kS] at hk
    split at hk
    · rename_i e0 e1 e2 e3
      simp only [Bool.and_eq_true] at hk
      exact ⟨_, _, _, e0, e1, e2, e3, hk.1.1, hk.1.2, hk.2⟩
    · cases hk
  obtain ⟨ka, kb, k, hka, hkb, hk1, hk2, hk3, pa, pb⟩ := hkk
  have knb : k.borrowed = false := by cases k <;> simp_all [Kind.le, Kind.borrowed]
  simp only [evS] at h
  refine stm_e (E := E) (rk := rk) so hnb (g := fun d ρ1 => match gt ρ1 i with
     | some _ => match evE C.Φ a ρ1 with
      | .ok (.int k, ρ2) => match gt ρ2 i with
        | some (.lst ds) => match nth ds k with
          | some (.lst _) => match evE C.Φ b ρ2 with
            | .ok (.int l, ρ3) => match gt ρ3 i with
              | some (.lst ds) => match ixAt ds.length k with
                | some n => match ds[n]? with
                  | some (.lst es) => match ixAt es.length l with
                    | some m => .nx (st ρ3 i (some (.lst (ds.set n (.lst (es.set m d))))))
                    | none => .bad
                  | _ => .bad
                | none => .bad
              | _ => .bad
            | .ok _ => .bad | .exc c => .exc c | .bad => .bad
          | _ => .bad
        | _ => .bad
      | .ok _ => .bad | .exc c => .exc c | .bad => .bad
     | none => .bad) hk1 sta h fun d ρ1 v B1 H1 F1 f1 ev st1 sta1 has1 pu1 h2 => ?_
  have st1' := st1.less (P2 := FP F1) fun a z => .inl z
  try simp only at h2
  split at h2
  · rename_i di ei
    obtain ⟨x, hx, _⟩ := sta1.rep i _ ei
    refine ⟨x, hx, ?_⟩
    refine sndE so a true ks (fun _ => hnb) pin W B1 H1 σ ρ1 F1 ka _ hka sta1 ?_
    cases ev2 : evE C.Φ a ρ1 with
    | bad => rw [ev2] at h2; exact h2
    | exc c => rw [ev2] at h2; exact fun H' x t => h2 σ H' (x.of st1) t
    | ok q =>
    obtain ⟨d0, ρ2⟩ := q
    rw [ev2] at h2
    intro v2 B2 H2 F2 f2 st2 sta2 has2 pu2
    cases d0 with
    | int k0 =>
      have g0 := vrep_hold sta2.sub has2.rep
      simp only [hold] at g0
      subst g0
      try simp only at h2
      split at h2
      · rename_i ds e1
        split at h2
        · rename_i es0 e2
          obtain ⟨v9, hv9, r9⟩ := sta2.rep i _ e1
          rw [hx] at hv9
          cases hv9
          have g9 := vrep_hold sta2.sub r9
          simp only [hold] at g9
          obtain ⟨p, xs, rfl, t1, t2⟩ := g9
          obtain ⟨w, w1, w2⟩ := nth_holds t2 e2
          simp only [hold] at w2
          obtain ⟨q0, ys0, rfl, y1, y2⟩ := w2
          refine ⟨p, xs, k0, .ref q0, rfl, rfl, .of t1, w1, ?_⟩
          have st12 : Step B H (FP F) B2 H2 (fun a => FP F2 a ∨ a ∈ f1) := (st1.row st2).less fun a z => z.imp (fun q => q) fun m => List.mem_append_left _ m
          obtain ⟨has1', _⟩ := has1.step st2 fun z => by rw [knb] at z; cases z
          refine sndE so b true ks (fun _ => hnb) pin W B2 H2 σ ρ2 F2 kb _ hkb sta2 ?_
          cases ev3 : evE C.Φ b ρ2 with
          | bad => rw [ev3] at h2; exact h2
          | exc c => rw [ev3] at h2; exact fun H' x t => h2 σ H' (x.of st12) t
          | ok q =>
          obtain ⟨d3, ρ3⟩ := q
          rw [ev3] at h2
          intro v3 B3 H3 F3 f3 st3 sta3 has3 pu3
          obtain ⟨has1'', _⟩ := has1'.step st3 fun z => by rw [knb] at z; cases z
          have up3 := (pu3 pb).1
          cases d3 with
          | int l0 =>
            have g3 := vrep_hold sta3.sub has3.rep
            simp only [hold] at g3
            subst g3
            try simp only at h2
            split at h2
            · rename_i ds3 e3
              split at h2
              · rename_i n en
                split at h2
                · rename_i es e4
                  split at h2
                  · rename_i m em
                    obtain ⟨p', xs', q', ys', z1, z2, z3, z4, z5, z6, z7⟩ := set2_core sta3 hnb has1'' hk2 hk3 e3 e4
                    rw [hx] at z1
                    cases z1
                    have z2' := up3 _ _ t1 nt_lst
                    rw [z2] at z2'
                    cases z2'
                    have eqq : (V.ref q0) = .ref q' := by
                      unfold atI at w1
                      rw [← z3, show ixN ds3.length k0 = some n from en] at w1
                      have w1 : xs[n]? = some (V.ref q0) := w1
                      rw [z4] at w1
                      exact (Option.some.inj w1).symm
                    cases eqq
                    obtain ⟨B', F', s1, s2⟩ := z7 m
                    have st123 : Step B H (FP F) B3 H3 (fun a => FP F3 a ∨ a ∈ f1) := (st12.row st3).less fun a z => z.imp (fun q => q) fun m => List.mem_append_left _ m
                    exact ⟨q0, ys', l0, m, rfl, rfl, z5, by rw [← z6]; exact em, h2 _ _ _ _ (st123.trans s1) s2⟩
                  · exact h2.elim
                · exact h2.elim
              · exact h2.elim
            · exact h2.elim
          | _ => exact h2.elim
        · exact h2.elim
      · exact h2.elim
    | _ => exact h2.elim
  · exact h2.elim
theorem snd_augi (so : SigOk C sg) (i : Nat) (a : IE) (o : Op2) (e : IE) : SndS C sg (.augi i a o e) := by
  intro ks hnb pin pn hpn rk W B H σ ρ F E hk sta h
  have hkk : ∃ ka k, kE sg true ks a = some ka ∧ kE sg true ks e = some k ∧ ((ks i = .top ∧ Kind.le .im .sh = true) ∨ (ks i = .deep ∧ Kind.le .im .deep = true)) ∧ pureE sg e = true ∧ (o == .addI || o == .subI) = true := by
    simp only [kS] at hk
    split at hk
    · rename_i e0 e1 e2
      simp only [Bool.and_eq_true] at hk
      exact ⟨_, _, e0, e1, .inl ⟨e2, rfl⟩, hk.1, hk.2⟩
    · rename_i e0 e1 e2
      simp only [Bool.and_eq_true] at hk
      exact ⟨_, _, e0, e1, .inr ⟨e2, rfl⟩, hk.1, hk.2⟩
    · cases hk
  obtain ⟨ka, k, hka, hk1, hk2, pe, ho⟩ := hkk
  simp only [evS] at h
  split at h
  · rename_i di ei
    obtain ⟨x, hx, _⟩ := sta.rep i _ ei
    refine ⟨x, hx, ?_⟩
    refine sndE so a true ks (fun _ => hnb) pin W B H σ ρ F ka _ hka sta ?_
    cases ev2 : evE C.Φ a ρ with
    | bad => rw [ev2] at h; exact h
    | exc c => rw [ev2] at h; exact fun H' x t => h σ H' x t
    | ok q =>
    obtain ⟨d0, ρ2⟩ := q
    rw [ev2] at h
    intro v2 B2 H2 F2 f2 st2 sta2 has2 pu2
    have st2' := st2.less (P2 := FP F2) fun a z => .inl z
    have st2n := st2.less (P2 := fun a => FP F2 a ∨ a ∈ []) fun a z => z.elim .inl fun m => by cases m
    cases d0 with
    | int k0 =>
      have g0 := vrep_hold sta2.sub has2.rep
      simp only [hold] at g0
      subst g0
      try simp only at h
      split at h
      · rename_i ds e1
        split at h
        · rename_i x0 e2
          obtain ⟨v9, hv9, r9⟩ := sta2.rep i _ e1
          rw [hx] at hv9
          cases hv9
          have g9 := vrep_hold sta2.sub r9
          simp only [hold] at g9
          obtain ⟨p, xs, rfl, t1, t2⟩ := g9
          obtain ⟨w, w1, w2⟩ := nth_holds t2 e2
          refine ⟨p, xs, k0, w, rfl, rfl, .of t1, w1, ?_⟩
          refine sndE so e true ks (fun _ => hnb) pin W B2 H2 σ ρ2 F2 k _ hk1 sta2 ?_
          cases ev3 : evE C.Φ e ρ2 with
          | bad => rw [ev3] at h; exact h
          | exc c => rw [ev3] at h; exact fun H' x t => h σ H' (x.of st2n) t
          | ok q =>
          obtain ⟨y0, ρ3⟩ := q
          rw [ev3] at h
          intro v3 B3 H3 F3 f3 st3 sta3 has3 pu3
          try simp only at h
          cases er : o.run x0 y0 with
          | bad => rw [er] at h; exact h.elim
          | exc c => exact absurd er ip_exc
          | ok z =>
          rw [er] at h
          obtain ⟨m, n, l, rfl, rfl, rfl, q⟩ := ip_run (ip_ops ho) er
          have gy := vrep_hold sta3.sub has3.rep
          simp only [hold] at w2 gy
          subst w2; subst gy
          refine q H3 _ ?_
          try simp only at h
          split at h
          · rename_i ds3 e3
            split at h
            · rename_i r er2
              unfold setAt at er2
              rw [Option.map_eq_some_iff] at er2
              obtain ⟨n1, en, rfl⟩ := er2
              obtain ⟨p', ys, z1, z2, z3, z4⟩ := write_core sta3 hnb (Has.int (C := C) (B := B3) (H := H3) (F := F3) (i := l)) hk2 e3
              obtain ⟨B', F', s1, s2⟩ := z4 _ _ (.set n1)
              rw [hx] at z1
              cases z1
              have tot : Step B H (FP F) B3 H3 (FP F3) := (st2n.row st3).less fun a z => .inl z
              exact ⟨p, ys, k0, n1, rfl, rfl, z2, by rw [← z3]; exact en, h _ _ _ _ (tot.trans (s1.more fun a z => z.elim (fun q => q) fun m => by cases m)) s2⟩
            · exact h.elim
          · exact h.elim
        · exact h.elim
      · exact h.elim
    | _ => exact h.elim
  · exact h.elim
theorem snd_aug2 (so : SigOk C sg) (i : Nat) (k l : Int) (o : Op2) (e : IE) : SndS C sg (.aug2 i k l o e) := by
  intro ks hnb pin pn hpn rk W B H σ ρ F E hk sta h
  have hkk : ∃ ke, kE sg true ks e = some ke ∧ ks i = .deep ∧ pureE sg e = true ∧ (o == .addI || o == .subI) = true := by
    simp only [kS] at hk
    split at hk
    · rename_i e0 e1
      simp only [Bool.and_eq_true] at hk
      exact ⟨_, e0, e1, hk.1, hk.2⟩
    · cases hk
  obtain ⟨ke, hk1, hk2, pe, ho⟩ := hkk
  simp only [evS] at h
  split at h
  rotate_left
  · exact h.elim
  rename_i ds e0
  split at h
  rotate_left
  · exact h.elim
  rename_i es e1
  split at h
  rotate_left
  · exact h.elim
  rename_i x0 e2
  obtain ⟨v9, hv9, r9⟩ := sta.rep i _ e0
  have g9 := vrep_hold sta.sub r9
  simp only [hold] at g9
  obtain ⟨p, xs, rfl, t1, t2⟩ := g9
  obtain ⟨w, w1, w2⟩ := nth_holds t2 e1
  simp only [hold] at w2
  obtain ⟨q0, ys0, rfl, y1, y2⟩ := w2
  obtain ⟨u, u1, u2⟩ := nth_holds y2 e2
  show tAugS (rdE C (.op2 .subL (.var i) (.cst (.int k))) W) (rdE C (.cst (.int l)) W) (rdE C e W) (rIxL C.K) (ipO o) rSetL _ σ H
  refine ⟨.ref p, hv9, .int k, rfl, p, xs, k, .ref q0, rfl, rfl, .of t1, w1, .int l, rfl, q0, ys0, l, u, rfl, rfl, .of y1, u1, ?_⟩
  refine sndE so e true ks (fun _ => hnb) pin W B H σ ρ F ke _ hk1 sta ?_
  cases ev3 : evE C.Φ e ρ with
  | bad => rw [ev3] at h; exact h
  | exc c => rw [ev3] at h; exact fun H' x t => h σ H' x t
  | ok q =>
  obtain ⟨y0, ρ3⟩ := q
  rw [ev3] at h
  intro v3 B3 H3 F3 f3 st3 sta3 has3 pu3
  have up3 := (pu3 pe).1
  try simp only at h
  cases er : o.run x0 y0 with
  | bad => rw [er] at h; exact h.elim
  | exc c => exact absurd er ip_exc
  | ok z =>
  rw [er] at h
  obtain ⟨m, n, z', rfl, rfl, rfl, q⟩ := ip_run (ip_ops ho) er
  have gy := vrep_hold sta3.sub has3.rep
  simp only [hold] at u2 gy
  subst u2; subst gy
  refine q H3 _ ?_
  try simp only at h
  split at h
  rotate_left
  · exact h.elim
  rename_i ds3 e3
  split at h
  rotate_left
  · exact h.elim
  rename_i n1 en
  split at h
  rotate_left
  · exact h.elim
  rename_i es3 e4
  split at h
  rotate_left
  · exact h.elim
  rename_i m1 em
  obtain ⟨p', xs', q', ys', z1, z2, z3, z4, z5, z6, z7⟩ := set2_core sta3 hnb (Has.int (C := C) (B := B3) (H := H3) (F := F3) (i := z')) hk2 rfl e3 e4
  rw [hv9] at z1
  cases z1
  have z2' := up3 _ _ t1 nt_lst
  rw [z2] at z2'
  cases z2'
  have eqq : (V.ref q0) = .ref q' := by
    unfold atI at w1
    rw [← z3, show ixN ds3.length k = some n1 from en] at w1
    have w1 : xs[n1]? = some (V.ref q0) := w1
    rw [z4] at w1
    exact (Option.some.inj w1).symm
  cases eqq
  obtain ⟨B', F', s1, s2⟩ := z7 m1
  have tot : Step B H (FP F) B3 H3 (FP F3) := st3.less fun a z => .inl z
  exact ⟨q0, ys', l, m1, rfl, rfl, z5, by rw [← z6]; exact em, h _ _ _ _ (tot.trans (s1.more fun a z => z.elim (fun q => q) fun m => by cases m)) s2⟩
end
end TW

/-! ## a call in a try: what it refuses is kept -/
namespace TW
open PySem L2
section
variable {C : Ctx} {sg : Nat → Sig}
theorem snd_callX (so : SigOk C sg) {f : Nat} {es : IEs} {ks : Nat → Kind} (hnb : ∀ j, (ks j).borrowed = false) {pin : Nat → Option V} {W : WX} {B H : Hp} {σ : L2.St} {ρ : Env} {F : Nat → List Addr} {l : List Kind} {Q : VK}
    (hk1 : kEs sg true ks es = some l) (hl : l.length = (sg f).np ∧ okP (sg f) 0 = true ∧ (l.all (fun k => !k.borrowed) = true ∨ (sg f).rk = .im ∨ (sg f).rk = .deep)) (sta : Sta C ks pin B H σ ρ F)
    (h : match evEs C.Φ es ρ with
      | .ok (ds, ρ1) => (match (C.Φ f).run ds with
        | .ok _ => ∀ v B' H' F', Step B H (FP F) B' H' (FP F') → Sta C ks pin B' H' σ ρ1 F' → Q v H'
        | .exc c => ∀ B' H' F', Step B H (FP F) B' H' (FP F') → Sta C ks pin B' H' σ ρ1 F' → W (.ref (C.cls c)) none σ H'
        | .bad => False)
      | _ => False) : rdE C (.call f es) W σ H Q := by
  obtain ⟨hl1, hl2, hl3⟩ := hl
  refine sndEs so es true ks (fun _ => hnb) pin W B H σ ρ F l _ hk1 sta ?_
  cases ev : evEs C.Φ es ρ with
  | bad => rw [ev] at h; exact h.elim
  | exc c => rw [ev] at h; exact h.elim
  | ok p =>
    obtain ⟨ds, ρ1⟩ := p
    rw [ev] at h
    simp only at h
    intro vs B1 H1 F1 fp st1 sta1 has1 pu1
    obtain ⟨a1, a2, a3, a4, a5⟩ := has1.all
    show spF C (C.Φ f) vs H1 Q (WE W σ)
    rcases so f with hb | ⟨s1, s2, s3⟩
    · rw [hb ds] at h; exact h.elim
    have hpk : ∀ i, i < ds.length → (C.Φ f).pk i = .sh := fun i hi => by rw [s2]; exact okP_at hl2 (by omega) (Nat.zero_le _)
    have exc : ∀ c, (C.Φ f).run ds = .exc c → ∀ H', Xup (fun _ => []) H1 H' → NdefX.TabsN C.T H' → WE W σ (.ref (C.cls c)) none H' := fun c er H' x t => by
      rw [er] at h
      have up : Up H1 H' := fun a o e z => x.1 a o e (fun q => noFP q) z
      have st2' : Step B1 H1 Nil B1 H' (fun _ => False) := ⟨fun _ _ e => e, fun a o e _ z => up a o e z, x.2, fun a m => m.elim, fun a m => .inl m⟩
      have sta3 := sta1.step st2' (fun a o e => ⟨up a o (sta1.sub a o e).1 (sta1.sub a o e).2, (sta1.sub a o e).2⟩) t
      refine h B1 H' F1 ?_ sta3
      have st1' : Step B H (FP F) B1 H1 (fun a => FP F1 a ∨ a ∈ []) := st1.less fun a z => z.elim .inl fun m => by cases m
      exact (Step.row (f := []) (g := []) st1' ⟨st2'.ex, fun a o e _ z => up a o e z, st2'.th, fun a z => z.elim .inl fun m => (by cases m), fun a m => .inl m⟩).less fun a z => .inl z
    by_cases hA : (l.all fun k => !k.borrowed) = true
    · refine ⟨ds, join B1 H1 fp, fun _ => [], by rw [s1]; omega, by rw [s1]; omega, Sta.args (join_sub sta1.sub a3) sta1.tab (has1.opensA a2 (fun _ m => m) hA) hpk, fun _ _ => rfl, ?_⟩
      cases er : (C.Φ f).run ds with
      | bad => rw [er] at h; exact h
      | exc c => exact exc c er
      | ok q =>
        obtain ⟨d, ms⟩ := q
        rw [er] at h
        simp only at h ⊢
        intro v B2 H2 F2 g st2 sta2 has2
        have stJ := st1.join a2 fun _ m => m
        have staJ := sta1.absorb a3 a1 a2
        have st2' : Step (join B1 H1 fp) H1 Nil B2 H2 (fun a => a ∈ g) := ⟨st2.ex, fun a o e _ z => st2.up a o e (fun q => noFP q) z, st2.th, fun a m => (st2.new a (.inr m)).imp (fun q => noFP q) id, fun a m => (st2.newB a m).imp id fun q => q.imp (fun q => noFP q) id⟩
        have sta3 := staJ.step st2' sta2.sub sta2.tab
        have gn : ∀ a ∈ g, H1 a = none := fun a m => (st2'.new a m).elim (fun z => z.elim) id
        refine h v B2 H2 F1 ?_ sta3
        exact (Step.row (f := []) (g := g) (stJ.less fun a z => z.elim id fun m => by cases m) ⟨st2'.ex, fun a o e _ z => st2'.up a o e (fun q => q) z, st2'.th, fun a z => z.elim .inl fun m => .inr (gn a m), fun a m => (st2'.newB a m).imp id fun q => .inr (q.elim (fun z => z.elim) id)⟩).less fun a z => .inl z
    · have rk : (sg f).rk = .im ∨ (sg f).rk = .deep := hl3.resolve_left hA
      refine ⟨ds, vis H1 Nil, fun _ => [], by rw [s1]; omega, by rw [s1]; omega, Sta.args vis_sub sta1.tab (holds_mono vis_ext _ _ (has1.hold sta1.sub)) hpk, fun _ _ => rfl, ?_⟩
      cases er : (C.Φ f).run ds with
      | bad => rw [er] at h; exact h
      | exc c => exact exc c er
      | ok q =>
        obtain ⟨d, ms⟩ := q
        rw [er] at h
        simp only at h ⊢
        intro v B2 H2 F2 g st2 sta2 has2
        have up : Up H1 H2 := fun a o e z => st2.up a o e (fun q => noFP q) z
        have st2' : Step B1 H1 Nil B1 H2 (fun _ => False) := ⟨fun _ _ e => e, fun a o e _ z => up a o e z, st2.th, fun a m => m.elim, fun a m => .inl m⟩
        have sta3 := sta1.step st2' (fun a o e => ⟨up a o (sta1.sub a o e).1 (sta1.sub a o e).2, (sta1.sub a o e).2⟩) sta2.tab
        refine h v B1 H2 F1 ?_ sta3
        have st1' : Step B H (FP F) B1 H1 (fun a => FP F1 a ∨ a ∈ []) := st1.less fun a z => z.elim .inl fun m => by cases m
        exact (Step.row (f := []) (g := []) st1' ⟨st2'.ex, fun a o e _ z => up a o e z, st2'.th, fun a z => z.elim .inl fun m => (by cases m), fun a m => .inl m⟩).less fun a z => .inl z
theorem Sta.junk {ks : Nat → Kind} {pin : Nat → Option V} {B H : Hp} {σ : L2.St} {ρ : Env} {F : Nat → List Addr} (s : Sta C ks pin B H σ ρ F) {j : Nat} {x : Option V} (e : gt ρ j = none) (p : pin j = none) : Sta C ks pin B H (σ.set j x) ρ F where
  len := by rw [List.length_set]; exact s.len
  sub := s.sub
  tab := s.tab
  rep := fun i d ei => by
    obtain ⟨v, h1, h2⟩ := s.rep i d ei
    have n : j ≠ i := fun z => by rw [z, ei] at e; cases e
    exact ⟨v, by rw [List.getElem?_set_ne n]; exact h1, h2⟩
  nf := s.nf
  dj := s.dj
  nB := s.nB
  pin := fun k v ek => by
    have n : j ≠ k := fun z => by rw [z, ek] at p; cases p
    rw [List.getElem?_set_ne n]; exact s.pin k v ek
theorem Step.lay {B H : Hp} {P : Addr → Prop} {a : Addr} {o : HO} (sub : Sub B H) (ha : H a = none) : Step B H P (upd B a o) (upd H a o) P where
  ex := fun b u e => by
    have n : b ≠ a := fun z => by rw [z] at e; rw [(sub a u e).1] at ha; cases ha
    rw [upd_ne n]; exact e
  up := fun b u e _ _ => by
    have n : b ≠ a := fun z => by rw [z, ha] at e; cases e
    rw [upd_ne n]; exact e
  th := fun b e => by
    by_cases n : b = a
    · rw [n, upd_same]; simp
    · rw [upd_ne n]; exact e
  new := fun b z => .inl z
  newB := fun b z => by
    by_cases n : b = a
    · exact .inr (.inr (by rw [n]; exact ha))
    · rw [upd_ne n] at z; exact .inl z
theorem gt_st_ne {i j : Nat} (n : i ≠ j) : ∀ (ρ : Env) (x : Option D), gt ρ j = none → gt (st ρ i x) j = none := fun ρ x e => by
  rw [gt_st]
  split
  · rename_i z; exact absurd z.1.symm n
  · exact e
theorem snd_tryC (so : SigOk C sg) (i j f : Nat) (es : IEs) : SndS C sg (.tryC i j f es) := by
  intro ks hnb pin pn hpn rk W B H σ ρ F E hk sta h
  simp only [kS] at hk
  split at hk <;> try (simp only [Bool.false_eq_true] at hk)
  rename_i l hk1
  simp only [Bool.and_eq_true, decide_eq_true_eq, Bool.not_eq_true'] at hk
  obtain ⟨⟨⟨⟨hl, k1⟩, k2⟩, k3⟩, k4⟩ := hk
  have k1 : ks i = .sh := by simpa using k1
  have nij : i ≠ j := fun z => by rw [z] at k4; simp at k4
  simp only [evS] at h
  show rdE C (.call f es) (wX C.K i j E) σ H fun _ H' => E.nx σ H'
  refine snd_callX so hnb hk1 hl sta ?_
  cases ev : evEs C.Φ es ρ with
  | bad => rw [ev] at h; exact h.elim
  | exc c => rw [ev] at h; exact h.elim
  | ok p =>
    obtain ⟨ds, ρ1⟩ := p
    rw [ev] at h
    simp only at h ⊢
    cases er : (C.Φ f).run ds with
    | bad => rw [er] at h; exact h.elim
    | ok q => rw [er] at h; exact fun v B' H' F' st' sta' => h σ B' H' F' st' sta'
    | exc c =>
      rw [er] at h
      simp only at h ⊢
      by_cases hc : c < 14 ∧ gt ρ1 j = none
      rotate_left
      · rw [if_neg hc] at h; exact h.elim
      rw [if_pos hc] at h
      intro B' H' F' st' sta'
      refine ⟨c, hc.1, rfl, rfl, fun a ha => ?_⟩
      have s1 : Step B' H' Nil (upd B' a (ExA (exA C.K c) a)) (upd H' a (ExA (exA C.K c) a)) Nil := Step.lay sta'.sub ha
      have sub' : Sub (upd B' a (ExA (exA C.K c) a)) (upd H' a (ExA (exA C.K c) a)) := fun b u e => by
        by_cases n : b = a
        · rw [n, upd_same] at e ⊢
          cases e
          exact ⟨rfl, nt_exn⟩
        · rw [upd_ne n] at e ⊢; exact sta'.sub b u e
      have sta1 := sta'.step s1 sub' (tabs_up sta'.tab fun b u e => by
        have n : b ≠ a := fun z => by rw [z, ha] at e; cases e
        rw [upd_ne n]; exact e)
      have sta2 := sta1.junk (j := j) (x := some (.ref a)) hc.2 (hpn j k3)
      obtain ⟨F2, sta3, hF2⟩ := sta2.bind (i := i) (d := .exn c) (v := .ref a) (g := []) (by rw [k1]; exact ⟨⟨a, rfl, upd_same⟩, rfl⟩) nomem nomem (hpn i k2)
      have sta4 := sta3.junk (j := j) (x := none) (gt_st_ne nij ρ1 _ hc.2) (hpn j k3)
      exact h _ _ _ F2 ((st'.trans (Step.lay sta'.sub ha)).less fun b z => (hF2 b z).elim id fun m => by cases m) sta4
/-- what is never reached -/
theorem snd_dead : SndS C sg .dead := by
  intro ks hnb pin pn hpn rk W B H σ ρ F E hk sta h
  exact h.elim
theorem gt_oob : ∀ (ρ : Env) (i : Nat), ¬ i < ρ.length → gt ρ i = none
  | [], _, _ => rfl
  | x :: ρ, 0, h => absurd (Nat.succ_pos _) h
  | x :: ρ, i + 1, h => gt_oob ρ i fun z => h (Nat.succ_lt_succ z)
theorem vrep_sh_nil {B H : Hp} {d : D} {v : V} {f : List Addr} (h : vrep C.K .sh B H d v f) : f = [] := h.2
/-- an own thing is shared from here on -/
theorem Sta.freeze {ks : Nat → Kind} {pin : Nat → Option V} {B H : Hp} {σ : L2.St} {ρ : Env} {F : Nat → List Addr} (s : Sta C ks pin B H σ ρ F) {i : Nat} (o : ownK (ks i) = true) : Sta C (setK ks [i] .sh) pin (join B H (F i)) H σ ρ (outF F [i]) := by
  have dj : ∀ a ∈ F i, ¬ FP (outF F [i]) a := fun a m ⟨j, m2⟩ => by
    by_cases e : j ∈ [i]
    · rw [outF_in e] at m2; cases m2
    · rw [outF_out e] at m2
      exact e (List.mem_singleton.mpr (s.dj j i a m2 m))
  refine ⟨s.len, join_sub s.sub fun a m => s.at m, s.tab, fun j d e => ?_, fun j e => ?_, fun j k a m m2 => ?_, fun j a m => ?_, s.pin⟩
  · obtain ⟨v, h1, h2⟩ := s.rep j d e
    refine ⟨v, h1, ?_⟩
    by_cases z : j ∈ [i]
    · have z' := List.mem_singleton.mp z
      subst z'
      have ek : setK ks [j] .sh j = .sh := by unfold setK; rw [if_pos z]
      rw [ek, outF_in z]
      have has : Has C B H (outF F [j]) (ks j) d v (F j) := ⟨h2, dj, fun a m => s.nB j a m⟩
      exact ⟨has.open_ (by cases q : ks j <;> rw [q] at o <;> simp only [ownK, Bool.false_eq_true] at o <;> rfl), rfl⟩
    · have ek : setK ks [i] .sh j = ks j := by unfold setK; rw [if_neg z]
      rw [ek, outF_out z]
      exact vrep_B h2 (join_ext fun a m => s.nB i a m)
  · by_cases z : j ∈ [i]
    · rw [outF_in z]
    · rw [outF_out z]; exact s.nf j e
  · by_cases z : j ∈ [i]
    · rw [outF_in z] at m; cases m
    · by_cases z2 : k ∈ [i]
      · rw [outF_in z2] at m2; cases m2
      · rw [outF_out z] at m; rw [outF_out z2] at m2; exact s.dj j k a m m2
  · have n : a ∉ F i := fun q => dj a q ⟨j, m⟩
    by_cases z : j ∈ [i]
    · rw [outF_in z] at m; cases m
    · rw [outF_out z] at m
      rw [join_out n]; exact s.nB j a m
theorem Sta.thaw {ks : Nat → Kind} {pin : Nat → Option V} {B H : Hp} {σ : L2.St} {ρ : Env} {F : Nat → List Addr} {i : Nat} (s : Sta C (setK ks [i] .sh) pin B H σ ρ F) : Sta C ks pin B H σ (st ρ i none) F := by
  have gi : gt (st ρ i none) i = none := by
    rw [gt_st]
    split
    · rfl
    · rename_i z
      cases e : gt ρ i with
      | none => rfl
      | some d =>
        have : i < ρ.length := Classical.byContradiction fun n => by
          rw [gt_oob ρ i n] at e; cases e
        exact absurd ⟨rfl, this⟩ z
  have gj : ∀ j, j ≠ i → gt (st ρ i none) j = gt ρ j := fun j n => by
    rw [gt_st, if_neg fun z => n z.1]
  refine ⟨by rw [st_length]; exact s.len, s.sub, s.tab, fun j d e => ?_, fun j e => ?_, s.dj, s.nB, s.pin⟩
  · by_cases z : j = i
    · rw [z, gi] at e; cases e
    · rw [gj j z] at e
      obtain ⟨v, h1, h2⟩ := s.rep j d e
      have ek : setK ks [i] .sh j = ks j := by unfold setK; rw [if_neg fun m => z (List.mem_singleton.mp m)]
      rw [ek] at h2
      exact ⟨v, h1, h2⟩
  · by_cases z : j = i
    · subst z
      cases q : gt ρ j with
      | none => exact s.nf j q
      | some d =>
        obtain ⟨v, _, h2⟩ := s.rep j d q
        have ek : setK ks [j] .sh j = .sh := by unfold setK; rw [if_pos (List.mem_singleton.mpr rfl)]
        rw [ek] at h2
        exact h2.2
    · rw [gj j z] at e; exact s.nf j e
theorem snd_frz {i : Nat} {r : ISs} (h1 : SndSs C sg r) : SndSs C sg (.frz i r) := by
  intro ks hnb pin pn hpn rk W B H σ ρ F E hk sta h
  simp only [kSs, Bool.and_eq_true] at hk
  obtain ⟨⟨k1, k2⟩, k3⟩ := hk
  have hnb' : ∀ j, (setK ks [i] .sh j).borrowed = false := fun j => by
    unfold setK
    split
    · rfl
    · exact hnb j
  show rdSs C r W E σ H
  refine h1 (setK ks [i] .sh) hnb' pin pn hpn rk W (join B H (F i)) H σ ρ (outF F [i]) E k3 (sta.freeze k1) ?_
  have stp : ∀ {B' H' : Hp} {P' : Addr → Prop}, Step (join B H (F i)) H (FP (outF F [i])) B' H' P' → Step B H (FP F) B' H' P' := fun s =>
    ⟨fun a o e => s.ex a o (join_ext (fun a m => sta.nB i a m) a o e), fun a o e n z => s.up a o e (fun q => n (outF_fp q)) z, s.th, fun a z => (s.new a z).imp (fun q => outF_fp q) id, fun a z => by
      rcases s.newB a z with q | q | q
      · by_cases m : a ∈ F i
        · exact .inr (.inl ⟨i, m⟩)
        · rw [join_out m] at q; exact .inl q
      · exact .inr (.inl (outF_fp q))
      · exact .inr (.inr q)⟩
  simp only [evSs] at h
  cases ev : evSs C.Φ r ρ with
  | bad => rw [ev] at h; exact h
  | exc c => rw [ev] at h; exact fun σ' H' x t => h σ' H' ⟨fun a o e n z => x.1 a o e (fun q => n (outF_fp q)) z, x.2⟩ t
  | nx ρ1 => rw [ev] at h; exact fun σ' B' H' F' st' sta' => h σ' B' H' F' (stp st') sta'.thaw
  | rt d ρ1 => rw [ev] at h; exact fun v σ' B' H' F' f st' sta' has' => h v σ' B' H' F' f (stp st') sta'.thaw has'
end
end TW

namespace TW
open PySem L2
section
variable {C : Ctx} {sg : Nat → Sig}
theorem snd_whl (so : SigOk C sg) {c : IE} {b : ISs} (h1 : SndSs C sg b) : SndS C sg (.whl c b) := by
  intro ks hnb pin pn hpn rk W B H σ ρ F E hk sta h
  simp only [kS, Bool.and_eq_true] at hk
  obtain ⟨k1, k2⟩ := hk
  obtain ⟨k, hk1⟩ := Option.isSome_iff_exists.mp k1
  simp only [evS] at h
  refine ⟨fun m σ' H' => ∃ ρ' B' F', Step B H (FP F) B' H' (FP F') ∧ Sta C ks pin B' H' σ' ρ' F' ∧ FinO C ks pin B' H' F' W rk (whlGo (evE C.Φ c) (evSs C.Φ b) m ρ') E, ⟨fuelW, ρ, B, F, Step.refl, sta, h⟩, ?_⟩
  rintro m σ0 H0 ⟨ρ0, B0, F0, st0, sta0, fin0⟩
  cases m with
  | zero => exact fin0.elim
  | succ m =>
    refine sndE so c true ks (fun _ => hnb) pin W B0 H0 σ0 ρ0 F0 k _ hk1 sta0 ?_
    simp only [whlGo] at fin0
    cases ev : evE C.Φ c ρ0 with
    | bad => rw [ev] at fin0; exact fin0
    | exc c => rw [ev] at fin0; exact fun H' x t => fin0 σ0 H' x t
    | ok q =>
    obtain ⟨d, ρ1⟩ := q
    rw [ev] at fin0
    intro v B1 H1 F1 f st1 sta1 has1 pu1
    have g := vrep_hold sta1.sub has1.rep
    have st1' := st1.less (P2 := FP F1) fun a z => .inl z
    cases d with
    | bl x =>
      simp only [hold] at g
      refine ⟨x, g, ?_⟩
      cases x with
      | false => show E.nx σ0 H1; exact fin0 _ _ _ _ st1' sta1
      | true =>
        refine ⟨_, fun σ' H' z => ⟨m, Nat.lt_succ_self m, z⟩, ?_⟩
        refine h1 ks hnb pin pn hpn rk W B1 H1 σ0 ρ1 F1 _ k2 sta1 ?_
        have fin1 := FinO.shift fin0 st1'
        simp only at fin1
        cases eb : evSs C.Φ b ρ1 with
        | bad => rw [eb] at fin1; exact fin1
        | exc c => rw [eb] at fin1; exact fin1
        | rt d ρ2 => rw [eb] at fin1; exact fin1
        | nx ρ2 =>
          rw [eb] at fin1
          intro σ' B' H' F' st' sta'
          exact ⟨ρ2, B', F', st0.trans (st1'.trans st'), sta', FinO.shift fin1 st'⟩
    | _ => exact fin0.elim
/-- a for's loop -/
theorem for_loop {t : Tg} {body : ISs} (hb : SndSs C sg body) {ks : Nat → Kind} (hnb : ∀ j, (ks j).borrowed = false) {pin : Nat → Option V} {pn : Nat → Bool} (hpn : ∀ j, pn j = false → pin j = none) {rk : Kind} {W : WX} {B H : Hp} {σ : L2.St} {ρ : Env} {F : Nat → List Addr} {E : Ends} {ds : List D} {J : It} {G : Hp → Prop} {Y : Nat → Hp → V → Hp → Prop}
    (hk : kSs sg ks pn rk body = true) (sta : Sta C ks pin B H σ ρ F) (so : SrcOk C .sh B H ds J G Y true) (hn : ∀ i ∈ t.names, ks i = .sh ∧ pn i = false)
    (h : FinO C ks pin B H F W rk (forGo t.put (evSs C.Φ body) ds ρ) E) :
    ∃ W' : Nat → Nat → L2.St → Hp → Prop, (∃ m, W' 0 m σ H) ∧ ∀ i m σ H, W' i m σ H →
      (J.stop i H ∧ E.nx σ H) ∨ (J.go i H ∧ ∃ N : L2.St → Hp → Prop, (∀ σ' H', N σ' H' → ∃ m', m' < m ∧ W' (i + 1) m' σ' H') ∧ ∀ x H', J.yld i H x H' → rdTg C.K t x σ H' fun σ2 H2 => rdSs C body W { E with nx := N, ct := N, bk := E.nx } σ2 H2) := by
  refine for_it so.w (fun i σ' H' => ∃ ρ' B' F', Step B H (FP F) B' H' (FP F') ∧ Sta C ks pin B' H' σ' ρ' F' ∧ FinO C ks pin B' H' F' W rk (forGo t.put (evSs C.Φ body) (ds.drop i) ρ') E) ⟨ρ, B, F, Step.refl, sta, h⟩ ?_ ?_ ?_
  · rintro i σ' H' _ ⟨ρ', B', F', st', sta', _⟩
    exact so.g2 rfl H' fun a o e => sta'.sub a o (st'.ex a o e)
  · rintro i x σ1 H1 H1' hi ⟨ρ1, B1, F1, st1, sta1, fin1⟩ y
    obtain ⟨rfl, d, hd, hx⟩ := so.it i _ x _ hi y
    have edr : ds.drop i = d :: ds.drop (i + 1) := by
      rw [List.drop_eq_getElem_cons hi]
      rw [List.getElem?_eq_getElem hi] at hd
      rw [Option.some.inj hd]
    rw [edr] at fin1
    simp only [forGo] at fin1
    cases ep : t.put d ρ1 with
    | none => rw [ep] at fin1; exact fin1.elim
    | some ρ2 =>
    rw [ep] at fin1
    simp only at fin1
    refine tg_ok (.inl rfl) sta1 (show hold C.K (hB .sh B1 H1') d x from hold_mono (.of fun a o e _ => st1.ex a o e) _ _ hx) (fun j m => (hn j m).1) (fun j m => hpn j (hn j m).2) ep fun σ2 F2 sta2 f2 _ _ => ?_
    refine hb ks hnb pin pn hpn rk W B1 H1' σ2 ρ2 F2 _ hk sta2 ?_
    have s2 : Step B1 H1' (FP F1) B1 H1' (FP F2) := Step.refl.less f2
    have fin2 := FinO.shift fin1 s2
    cases eb : evSs C.Φ body ρ2 with
    | bad => rw [eb] at fin2; exact fin2
    | exc c => rw [eb] at fin2; exact fin2
    | rt d ρ3 => rw [eb] at fin2; exact fin2
    | nx ρ3 =>
      rw [eb] at fin2
      intro σ' B' H' F' st' sta'
      exact ⟨ρ3, B', F', st1.trans (s2.trans st'), sta', FinO.shift fin2 st'⟩
  · rintro σ1 H1 ⟨ρ1, B1, F1, st1, sta1, fin1⟩
    rw [List.drop_length] at fin1
    exact fin1 _ _ _ _ Step.refl sta1
theorem snd_for (so : SigOk C sg) {k : Sk} {a b c : IE} {t : Tg} {body : ISs} (hb : SndSs C sg body) : SndS C sg (.for k a b c t body) := by
  intro ks hnb pin pn hpn rk W B H σ ρ F E hk sta h
  simp only [kS] at hk
  split at hk <;> try (simp only [Bool.false_eq_true] at hk)
  rename_i ka kb kc e1 e2 e3
  simp only [Bool.and_eq_true] at hk
  obtain ⟨⟨⟨⟨⟨c1, c2⟩, c3⟩, c4⟩, c5⟩, c6⟩ := hk
  have hn : ∀ i ∈ t.names, ks i = .sh ∧ pn i = false := fun i m => by
    have := List.all_eq_true.mp c4 i m
    simpa using this
  simp only [evS] at h
  by_cases np : k.pure = true
  · have el : ∀ u : TS, lockIfS k u = u := fun u => by cases k <;> simp_all [lockIfS, Sk.pure]
    have ek : k.ks ks = ks := by cases k <;> simp_all [Sk.ks, Sk.pure]
    have eo : ∀ ρ, k.out ρ = ρ := fun ρ => by cases k <;> simp_all [Sk.out, Sk.pure]
    have es : k.src ka = .sh := by cases k <;> cases ka <;> simp_all [Sk.src, Sk.pure, Sk.okS, Kind.kid]
    rw [ek] at c6
    simp only [rdS]
    rw [el]
    refine snd_src (W := W) (sndE so a) (sndE so b) (sndE so c) (nb := true) (fun _ => hnb) e1 e2 e3 c1 np sta ?_
    cases er : srcRes k (evE C.Φ a ρ) (evE C.Φ b) (evE C.Φ c) with
    | bad => rw [er] at h; exact h
    | exc c => rw [er] at h; exact fun H' x t => h σ H' x t
    | ok q =>
    obtain ⟨ds, ρ3⟩ := q
    rw [er] at h
    simp only [eo, np, if_true] at h
    have h' : FinO C ks pin B H F W rk (forGo t.put (evSs C.Φ body) ds ρ3) E := by
      cases eg : forGo t.put (evSs C.Φ body) ds ρ3 <;> (rw [eg] at h; exact h)
    intro J G Y B3 H3 F3 st3 sta3 pu3 so3
    rw [es, c3] at so3
    exact for_loop hb hnb hpn c6 sta3 so3 hn (FinO.shift h' st3)
  · cases k with
    | dic i =>
      simp only [Sk.dum, Bool.and_eq_true] at c1
      obtain ⟨⟨k1, k2⟩, k3⟩ := c1
      obtain ⟨da, rfl⟩ := isC_of k1
      obtain ⟨db, rfl⟩ := isC_of k2
      obtain ⟨dc, rfl⟩ := isC_of k3
      simp only [Sk.okD, Bool.and_eq_true, beq_iff_eq, Bool.not_eq_true'] at c2
      obtain ⟨d1, d2⟩ := c2
      simp only [evE, srcRes, srcOf, Sk.out] at h
      split at h
      · rename_i hsr
        split at hsr <;> simp only [reduceCtorEq, Res.ok.injEq, Prod.mk.injEq] at hsr
        rename_i hs2
        split at hs2 <;> simp only [reduceCtorEq, Option.some.injEq] at hs2
        rename_i kd e0
        obtain ⟨z1, z2⟩ := hsr
        subst z2
        subst hs2
        subst z1
        obtain ⟨p0, kvs, w1, w2, w3, w4, w5, w6⟩ := sta.lock hnb d1 e0
        refine ⟨p0, .dK kvs, w2, by trivial, fun od => ?_⟩
        have staL := w6 od
        refine ⟨.ref p0, w1, p0, od, rfl, .inl ⟨kvs, upd_same, ?_⟩⟩
        have hB : holdK C.K (upd B p0 (.frz od (.dK kvs))) kd kvs := holdK_mono (.of fun a o e _ => put_up e fun z => by rw [z, w5] at e; cases e) _ _ w3
        have hnb' : ∀ j, ((Sk.dic i).ks ks j).borrowed = false := fun j => by
          show (setK ks [i] .sh j).borrowed = false
          unfold setK
          split
          · rfl
          · exact hnb j
        have nF : ¬ FP (outF F [i]) p0 := fun ⟨j, m⟩ => by
          by_cases e : j ∈ [i]
          · rw [outF_in e] at m; cases m
          · rw [outF_out e] at m
            exact e (List.mem_singleton.mpr (sta.dj j i p0 m w4))
        refine for_loop hb hnb' hpn c6 staL (keys_ok upd_same upd_same hB) (fun j m => ⟨?_, (hn j m).2⟩) ?_
        · show setK ks [i] .sh j = .sh
          unfold setK
          split
          · rfl
          · exact (hn j m).1
        · cases eg : forGo t.put (evSs C.Φ body) (kd.map fun k => .int k.1) ρ with
          | bad => rw [eg] at h; exact h
          | exc c =>
            rw [eg] at h
            refine fun σ' H' x tb => h σ' H' ⟨fun a o e n z => ?_, fun a e => ?_⟩ tb
            · have n' : a ≠ p0 := fun q => n ⟨i, q ▸ w4⟩
              exact x.1 a o (put_up e n') (fun q => n (outF_fp q)) z
            · refine x.2 a ?_
              by_cases n : a = p0
              · rw [n, upd_same]; simp
              · rw [upd_ne n]; exact e
          | rt d ρ4 =>
            rw [eg] at h
            simp only [Sk.pure, Bool.false_eq_true, if_false] at h
            exact h.elim
          | nx ρ4 =>
            rw [eg] at h
            intro σ' B' H' F' st' sta'
            have hf : H' p0 = some (.frz od (.dK kvs)) := st'.up _ _ upd_same nF nt_frz
            have hb' : B' p0 = some (.frz od (.dK kvs)) := st'.ex _ _ upd_same
            refine ⟨hf, ?_⟩
            have stU := Step.unlock (f := []) w4 w5 w2 (st'.less fun a z => z.elim (fun q => q) fun m => by cases m)
            exact h σ' _ _ _ (stU.less fun a z => .inl z) (sta'.unlock hnb hb')
      · rename_i hsr
        split at hsr <;> simp only [reduceCtorEq] at hsr
      · exact h.elim
    | _ => simp [Sk.pure] at np
theorem hold_of_sc {K : PySem.W.Frag} {B : Hp} {d : D} {v : V} (h : scV d = some v) : hold K B d v := by
  cases d <;> simp only [scV, Option.some.injEq, reduceCtorEq] at h <;> simp only [hold] <;> exact h.symm
theorem snd_forC (so : SigOk C sg) (a : IE) (t : Tg) (c : IE) (d : D) : SndS C sg (.forC a t c d) := by
  intro ks hnb pin pn hpn rk W B H σ ρ F E hk sta h
  simp only [kS] at hk
  split at hk <;> try (simp only [Bool.false_eq_true] at hk)
  rename_i ka kc e1 e2
  simp only [Bool.and_eq_true] at hk
  obtain ⟨⟨⟨⟨c1, c2⟩, c3⟩, c4⟩, c5⟩ := hk
  have hn : ∀ i ∈ t.names, ks i = .sh ∧ pn i = false := fun i m => by
    have := List.all_eq_true.mp c3 i m
    simpa using this
  simp only [evS] at h
  simp only [rdS]
  refine snd_src (W := W) (sndE so a) (sndE so (.cst .non)) (sndE so (.cst .non)) (k := .lst) (nb := true) (fun _ => hnb) e1 (kb := .im) (kc := .im) rfl rfl rfl rfl sta ?_
  cases er : srcRes .lst (evE C.Φ a ρ) (evE C.Φ (.cst .non)) (evE C.Φ (.cst .non)) with
  | bad => rw [er] at h; exact h
  | exc c => rw [er] at h; exact fun H' x t => h σ H' x t
  | ok q =>
  obtain ⟨ds, ρ3⟩ := q
  rw [er] at h
  simp only at h
  by_cases hsc : ds.all D.isSc = true
  rotate_left
  · rw [if_neg hsc] at h; exact h.elim
  rw [if_pos hsc] at h
  intro J G Y B3 H3 F3 st3 sta3 pu3 so3
  have h := FinO.shift h st3
  refine for_it so3.w (fun i σ' H' => ∃ ρ' B' F', Step B3 H3 (FP F3) B' H' (FP F') ∧ Up H3 H' ∧ Sta C ks pin B' H' σ' ρ' F' ∧ FinO C ks pin B' H' F' W rk (forGo t.put (chk (evE C.Φ c) d) (ds.drop i) ρ') E) ⟨ρ3, B3, F3, Step.refl, Up.refl H3, sta3, h⟩ ?_ ?_ ?_
  · rintro i σ' H' _ ⟨ρ', B', F', st', up', sta', _⟩
    exact so3.g1 H' up'
  · rintro i x σ1 H1 H1' hi ⟨ρ1, B1, F1, st1, up1, sta1, fin1⟩ y
    obtain ⟨rfl, d0, hd, hx⟩ := so3.it i _ x _ hi y
    have edr : ds.drop i = d0 :: ds.drop (i + 1) := by
      rw [List.drop_eq_getElem_cons hi]
      rw [List.getElem?_eq_getElem hi] at hd
      rw [Option.some.inj hd]
    have hs0 : d0.isSc = true := List.all_eq_true.mp hsc d0 (List.mem_of_getElem? hd)
    rw [edr] at fin1
    simp only [forGo] at fin1
    cases ep : t.put d0 ρ1 with
    | none => rw [ep] at fin1; exact fin1.elim
    | some ρ2 =>
    rw [ep] at fin1
    simp only at fin1
    refine tg_ok (.inl rfl) sta1 (show hold C.K (hB .sh B1 H1') d0 x from hold_of_sc (sc_of hx hs0)) (fun j m => (hn j m).1) (fun j m => hpn j (hn j m).2) ep fun σ2 F2 sta2 f2 _ _ => ?_
    have s2 : Step B1 H1' (FP F1) B1 H1' (FP F2) := Step.refl.less f2
    have fin2 := FinO.shift fin1 s2
    -- the look
    refine sndE so c true ks (fun _ => hnb) pin W B1 H1' σ2 ρ2 F2 kc _ e2 sta2 ?_
    cases ev : evE C.Φ c ρ2 with
    | bad => simp only [chk, ev] at fin2; exact fin2
    | exc c => simp only [chk, ev] at fin2; exact fun H' x t => fin2 σ2 H' x t
    | ok p =>
      obtain ⟨d1, ρ4⟩ := p
      intro v B4 H4 F4 f4 st4 sta4 has4 pu4
      obtain ⟨up4, ef4⟩ := pu4 c5
      have g := vrep_hold sta4.sub has4.rep
      have stx := st4.less (P2 := FP F4) fun a z => .inl z
      cases d1 with
      | bl b =>
        simp only [hold] at g
        refine ⟨b, g, ?_⟩
        cases b with
        | true =>
          simp only [chk, ev] at fin2
          have fin3 := FinO.shift fin2 stx
          cases hd' : scV d with
          | none => cases d <;> simp [scV, D.isSc] at hd' c1
          | some w =>
            refine ⟨w, hd', ?_⟩
            refine fin3 w _ B4 H4 F4 [] (Step.id rfl) sta4 ⟨?_, nomem, nomem⟩
            have r0 : vrep C.K .im B4 H4 d w [] := ⟨hd', rfl⟩
            cases rk <;> first
              | exact r0
              | exact ⟨hold_of_sc hd', rfl⟩
              | exact .inl ⟨hd', rfl⟩
              | exact own_sc hd'
              | exact absurd c2 (by decide)
        | false =>
          simp only [chk, ev] at fin2
          exact ⟨ρ4, B4, F4, st1.trans (s2.trans stx), fun a o e n => up4 a o (up1 a o e n) n, sta4, FinO.shift fin2 stx⟩
      | _ => simp only [chk, ev] at fin2; exact fin2.elim
  · rintro σ1 H1 ⟨ρ1, B1, F1, st1, up1, sta1, fin1⟩
    rw [List.drop_length] at fin1
    exact fin1 _ _ _ _ Step.refl sta1
theorem appD_get {d : D} : ∀ {ds ds' : List D}, appD d ds = some ds' → ds'.length = ds.length ∧ ∀ (j : Nat) (x : D), ds[j]? = some x → ∃ es, x = .lst es ∧ es.length < lim ∧ ds'[j]? = some (.lst (es ++ [d]))
  | [], ds', h => by
    simp only [appD, Option.some.injEq] at h
    subst h
    exact ⟨rfl, fun j x e => by simp at e⟩
  | y :: r, ds', h => by
    cases y <;> simp only [appD, reduceCtorEq] at h
    rename_i es
    split at h
    rotate_left
    · cases h
    rename_i hl
    split at h
    rotate_left
    · cases h
    rename_i r' hr
    simp only [Option.some.injEq] at h
    subst h
    obtain ⟨h1, h2⟩ := appD_get hr
    refine ⟨by simp [h1], fun j x e => ?_⟩
    cases j with
    | zero =>
      simp only [List.getElem?_cons_zero, Option.some.injEq] at e
      subst e
      exact ⟨es, rfl, hl, rfl⟩
    | succ j =>
      simp only [List.getElem?_cons_succ] at e ⊢
      exact h2 j x e
/-- some of these, then some of those -/
def mixD (ds' ds : List D) (j : Nat) : List D := ds'.take j ++ ds.drop j
theorem mix_get {ds' ds : List D} (h : ds'.length = ds.length) {j : Nat} (hj : j < ds.length) : (mixD ds' ds j)[j]? = ds[j]? := by
  unfold mixD
  rw [List.getElem?_append_right (by rw [List.length_take]; omega), List.length_take, List.getElem?_drop]
  congr 1; omega
theorem mix_set {ds' ds : List D} (h : ds'.length = ds.length) {j : Nat} (hj : j < ds.length) {y : D} (e : ds'[j]? = some y) : (mixD ds' ds j).set j y = mixD ds' ds (j + 1) := by
  unfold mixD
  have lt : (ds'.take j).length = j := by rw [List.length_take]; omega
  rw [List.set_append_right _ _ (by omega), lt, Nat.sub_self, List.drop_eq_getElem_cons hj, List.set_cons_zero]
  have : ds'.take (j + 1) = ds'.take j ++ [y] := by rw [List.take_add_one, e]; rfl
  rw [this, List.append_assoc]; rfl
theorem owns_upd {H : Hp} {d : D} {v : V} (hd : scV d = some v) : ∀ (j : Nat) {ds : List D} {xs : List V} {g : List Addr} {es : List D}, owns H ds xs g → ds[j]? = some (.lst es) →
    ∃ q ys, xs[j]? = some (.ref q) ∧ H q = some (.lst ys) ∧ es.length = ys.length ∧ q ∈ g ∧ owns (upd H q (.lst (ys ++ [v]))) (ds.set j (.lst (es ++ [d]))) xs g
  | j, [], xs, g, es, h, e => by simp at e
  | 0, x :: r, xs, g, es, h, e => by
    simp only [List.getElem?_cons_zero, Option.some.injEq] at e
    subst e
    simp only [owns] at h
    obtain ⟨w, s, g1, g2, rfl, rfl, h1, h2, dj⟩ := h
    simp only [own] at h1
    obtain ⟨q, ys, gg, rfl, rfl, t1, t2, t3⟩ := h1
    have keep : ∀ f : List Addr, q ∉ f → ∀ a ∈ f, ∀ o, H a = some o → Lay o → upd H q (.lst (ys ++ [v])) a = some o := fun f n a m o e _ => put_up e fun z => n (z ▸ m)
    refine ⟨q, ys, rfl, t1, owns_length t3, List.mem_append_left _ List.mem_cons_self, ?_⟩
    simp only [List.set_cons_zero, owns]
    refine ⟨_, s, q :: gg, g2, rfl, rfl, ?_, owns_keep _ _ _ h2 (keep g2 (dj q List.mem_cons_self)), dj⟩
    simp only [own]
    refine ⟨q, ys ++ [v], gg, rfl, rfl, upd_same, t2, ?_⟩
    have := owns_append (owns_keep _ _ _ t3 (keep gg t2)) (owns_one (own_sc (H := upd H q (.lst (ys ++ [v]))) hd)) (fun a _ z => by cases z)
    rw [List.append_nil] at this
    exact this
  | j + 1, x :: r, xs, g, es, h, e => by
    simp only [List.getElem?_cons_succ] at e
    simp only [owns] at h
    obtain ⟨w, s, g1, g2, rfl, rfl, h1, h2, dj⟩ := h
    obtain ⟨q, ys, e1, e2, e3, e4, e5⟩ := owns_upd hd j h2 e
    refine ⟨q, ys, by rw [List.getElem?_cons_succ]; exact e1, e2, e3, List.mem_append_right _ e4, ?_⟩
    simp only [List.set_cons_succ, owns]
    exact ⟨w, s, g1, g2, rfl, rfl, own_keep _ _ _ h1 fun a m o eo _ => put_up eo fun z => dj a m (z ▸ e4), e5, dj⟩
theorem Sta.congr {ks : Nat → Kind} {pin : Nat → Option V} {B H : Hp} {σ : L2.St} {ρ ρ' : Env} {F : Nat → List Addr} (s : Sta C ks pin B H σ ρ F) (h : ∀ k, gt ρ' k = gt ρ k) (l : ρ'.length = ρ.length) : Sta C ks pin B H σ ρ' F where
  len := by rw [l]; exact s.len
  sub := s.sub
  tab := s.tab
  rep := fun i d e => s.rep i d (by rw [← h]; exact e)
  nf := fun i e => s.nf i (by rw [← h]; exact e)
  dj := s.dj
  nB := s.nB
  pin := s.pin
/-- a shared name is forgotten, then holds anything -/
theorem Sta.loose {ks : Nat → Kind} {pin : Nat → Option V} {B H : Hp} {σ : L2.St} {ρ : Env} {F : Nat → List Addr} (s : Sta C ks pin B H σ ρ F) {t : Nat} (hk : ks t = .sh) : Sta C ks pin B H σ (st ρ t none) F where
  len := by rw [st_length]; exact s.len
  sub := s.sub
  tab := s.tab
  rep := fun i d e => by
    rw [gt_st] at e
    split at e
    · cases e
    · exact s.rep i d e
  nf := fun i e => by
    rw [gt_st] at e
    split at e
    · rename_i h
      rw [h.1]
      cases eg : gt ρ t with
      | none => exact s.nf t eg
      | some d =>
        obtain ⟨v, _, r⟩ := s.rep t d eg
        rw [hk] at r
        exact r.2
    · exact s.nf i e
  dj := s.dj
  nB := s.nB
  pin := s.pin
theorem Sta.anyV {ks : Nat → Kind} {pin : Nat → Option V} {B H : Hp} {σ : L2.St} {ρ : Env} {F : Nat → List Addr} (s : Sta C ks pin B H σ ρ F) {t : Nat} (hg : gt ρ t = none) (hp : pin t = none) (v : V) : Sta C ks pin B H (σ.set t (some v)) ρ F where
  len := by rw [List.length_set]; exact s.len
  sub := s.sub
  tab := s.tab
  rep := fun i d e => by
    obtain ⟨w, h1, h2⟩ := s.rep i d e
    have n : t ≠ i := fun z => by rw [← z, hg] at e; cases e
    exact ⟨w, by rw [List.getElem?_set_ne n]; exact h1, h2⟩
  nf := s.nf
  dj := s.dj
  nB := s.nB
  pin := fun j w e => by
    have n : t ≠ j := fun z => by rw [← z, hp] at e; cases e
    rw [List.getElem?_set_ne n]; exact s.pin j w e
theorem snd_appA (i t : Nat) (d : D) : SndS C sg (.appA i t d) := by
  intro ks hnb pin pn hpn rk W B H σ ρ F E hk sta h
  simp only [kS, Bool.and_eq_true, beq_iff_eq, Bool.not_eq_true'] at hk
  obtain ⟨⟨⟨k1, k2⟩, k3⟩, k4⟩ := hk
  have it : i ≠ t := fun z => by rw [z, k2] at k1; cases k1
  have pt := hpn t k3
  obtain ⟨v, hv⟩ : ∃ v, scV d = some v := by cases d <;> simp_all [scV, D.isSc]
  simp only [evS] at h
  split at h <;> try (exact h.elim)
  rename_i ds e0
  split at h <;> try (exact h.elim)
  rename_i ds' ea
  split at h <;> try (exact h.elim)
  rename_i ht
  obtain ⟨hl, hg⟩ := appD_get ea
  obtain ⟨v0, hv0, r0⟩ := sta.rep i _ e0
  have r0' := r0
  rw [k1] at r0'
  simp only [vrep, own] at r0'
  obtain ⟨p, xs0, g0, rfl, _, t1, _, to0⟩ := r0'
  have ll := owns_length to0
  have staL := sta.loose k2
  have gi0 : gt (st ρ t none) i = some (.lst ds) := by rw [gt_st, if_neg (fun z => it z.1)]; exact e0
  have gt0 : gt (st ρ t none) t = none := by rw [gt_st, if_pos ⟨rfl, ht⟩]
  simp only [rdS, rdE, rdTg, iSrc]
  refine ⟨.ref p, hv0, p, rfl, ⟨xs0, .of t1⟩, ?_⟩
  refine ⟨fun j m σ' H' => j ≤ ds.length ∧ m = ds.length - j ∧ ∃ ρ1 F1, Step B H (FP F) B H' (FP F1) ∧ Sta C ks pin B H' σ' ρ1 F1 ∧ gt ρ1 i = some (.lst (mixD ds' ds j)) ∧ (∀ k, k ≠ i → gt ρ1 k = gt (st ρ t none) k) ∧ ρ1.length = ρ.length ∧ σ'[i]? = some (some (.ref p)) ∧ H' p = some (.lst xs0),
    ⟨_, Nat.zero_le _, rfl, st ρ t none, F, Step.refl, staL, by rw [gi0]; rfl, fun _ _ => rfl, st_length _ _ _, hv0, t1⟩, ?_⟩
  rintro j m σ1 H1 ⟨hj, rfl, ρ1, F1, st1, sta1, gi, gk, gl, hs, hp⟩
  by_cases hlt : j < ds.length
  · right
    have hx : j < xs0.length := by omega
    refine ⟨⟨xs0, xs0[j], .of hp, List.getElem?_eq_getElem hx⟩, fun σ' H' => j + 1 ≤ ds.length ∧ ∃ ρ1 F1, Step B H (FP F) B H' (FP F1) ∧ Sta C ks pin B H' σ' ρ1 F1 ∧ gt ρ1 i = some (.lst (mixD ds' ds (j + 1))) ∧ (∀ k, k ≠ i → gt ρ1 k = gt (st ρ t none) k) ∧ ρ1.length = ρ.length ∧ σ'[i]? = some (some (.ref p)) ∧ H' p = some (.lst xs0), fun σ' H' ⟨z1, z2⟩ => ⟨_, by omega, z1, rfl, z2⟩, ?_⟩
    rintro x H2 ⟨rfl, hy⟩
    have ex := hy xs0 (.of hp)
    obtain ⟨w, hw, r⟩ := sta1.rep i _ gi
    rw [hs] at hw
    cases hw
    have rr := r
    rw [k1] at rr
    simp only [vrep, own] at rr
    obtain ⟨p', xs, g, ep, ef, u1, u2, u3⟩ := rr
    cases ep
    rw [hp] at u1
    cases u1
    obtain ⟨es, ee, el, e'⟩ := hg j _ (List.getElem?_eq_getElem hlt)
    obtain ⟨q, ys, o1, o2, o3, o4, o5⟩ := owns_upd hv j u3 (by rw [mix_get hl hlt, List.getElem?_eq_getElem hlt, ee])
    rw [mix_set hl hlt e'] at o5
    rw [ex] at o1
    cases o1
    have qp : p ≠ q := fun z => u2 (z ▸ o4)
    have mq : q ∈ F1 i := by rw [ef]; exact List.mem_cons_of_mem _ o4
    have gt1 : gt ρ1 t = none := by rw [gk t (fun z => it z.symm)]; exact gt0
    have lt1 : t < σ1.length := by have := sta1.len; omega
    have staA := sta1.anyV gt1 pt (.ref q)
    have hsA : (σ1.set t (some (.ref q)))[i]? = some (some (.ref p)) := by rw [List.getElem?_set_ne (fun z => it z.symm)]; exact hs
    have hp' : upd H2 q (.lst (ys ++ [v])) p = some (.lst xs0) := put_up hp qp
    have sp := staA.put hnb (o := .lst (ys ++ [v])) (d := .lst (mixD ds' ds (j + 1))) (g := F1 i) gi mq hsA (by rw [k1, ef]; simp only [vrep, own]; exact ⟨p, xs0, g, rfl, rfl, hp', u2, o5⟩) (fun a m => .inr m) (fun a m => sta1.nB i a m) nt_lst
    show gName t (.ref q) σ1 H2 _
    refine ⟨.ref q, by rw [List.getElem?_set_self lt1], .inl ⟨rfl, ys, .of o2⟩, v, hv, q, ys, v, rfl, rfl, o2, limS (by omega), ?_⟩
    refine ⟨hlt, st ρ1 i (some (.lst (mixD ds' ds (j + 1)))), setF F1 i (F1 i), st1.trans ⟨fun _ _ e => e, fun a o e n _ => put_up e fun z => n ⟨i, z ▸ mq⟩, fun a h => ?_, fun a z => .inl ((setF_fp z).elim (fun q => q) fun m => ⟨i, m⟩), fun a h => .inl h⟩, sp, ?_, fun k nk => ?_, by rw [st_length]; exact gl, hsA, hp'⟩
    · by_cases e : a = q
      · rw [e, upd_same]; simp
      · rw [upd_ne e]; exact h
    · rw [gt_st, if_pos ⟨rfl, gt_lt gi⟩]
    · rw [gt_st, if_neg (fun z => nk z.1)]; exact gk k nk
  · left
    have ej : j = ds.length := by omega
    refine ⟨⟨xs0, .of hp, by omega⟩, h σ1 B H1 F1 st1 (sta1.congr (fun k => ?_) (by rw [st_length, st_length, gl]))⟩
    rw [gt_st]
    split
    · rename_i z
      rw [z.1, gi, ej]
      unfold mixD
      rw [List.drop_length, List.append_nil, ← hl, List.take_length]
    · rename_i z
      by_cases nk : k = i
      · subst nk
        exact absurd ⟨rfl, by rw [st_length]; exact gt_lt e0⟩ z
      · exact (gk k nk).symm
theorem gt_none_rep : ∀ (n k : Nat), gt (List.replicate n none) k = none
  | 0, _ => rfl
  | _ + 1, 0 => rfl
  | n + 1, k + 1 => gt_none_rep n k
theorem snd_appT (so : SigOk C sg) (i t : Nat) (c : IE) (d : D) : SndS C sg (.appT i t c d) := by
  intro ks hnb pin pn hpn rk W B H σ ρ F E hk sta h
  simp only [kS, Bool.and_eq_true, beq_iff_eq, Bool.not_eq_true'] at hk
  obtain ⟨⟨⟨⟨k1, k2⟩, k3⟩, k4⟩, k5⟩ := hk
  obtain ⟨kc, hkc⟩ := Option.isSome_iff_exists.mp k5
  have it : i ≠ t := fun z => by rw [z, k2] at k1; cases k1
  have pt := hpn t k3
  obtain ⟨v, hv⟩ : ∃ v, scV d = some v := by cases d <;> simp_all [scV, D.isSc]
  simp only [evS] at h
  split at h <;> try (exact h.elim)
  rename_i ds e0
  split at h <;> try (exact h.elim)
  rename_i ds' ea
  split at h <;> try (exact h.elim)
  rename_i htc
  obtain ⟨ht, hall⟩ := htc
  obtain ⟨hl, hg⟩ := appD_get ea
  obtain ⟨v0, hv0, r0⟩ := sta.rep i _ e0
  have r0' := r0
  rw [k1] at r0'
  simp only [vrep, own] at r0'
  obtain ⟨p, xs0, g0, rfl, _, t1, _, to0⟩ := r0'
  have ll := owns_length to0
  have staL := sta.loose k2
  have gi0 : gt (st ρ t none) i = some (.lst ds) := by rw [gt_st, if_neg (fun z => it z.1)]; exact e0
  have gt0 : gt (st ρ t none) t = none := by rw [gt_st, if_pos ⟨rfl, ht⟩]
  simp only [rdS, rdE, rdTg, iSrc]
  refine ⟨.ref p, hv0, p, rfl, ⟨xs0, .of t1⟩, ?_⟩
  refine ⟨fun j m σ' H' => j ≤ ds.length ∧ m = ds.length - j ∧ ∃ ρ1 F1, Step B H (FP F) B H' (FP F1) ∧ Sta C ks pin B H' σ' ρ1 F1 ∧ gt ρ1 i = some (.lst (mixD ds' ds j)) ∧ (∀ k, k ≠ i → gt ρ1 k = gt (st ρ t none) k) ∧ ρ1.length = ρ.length ∧ σ'[i]? = some (some (.ref p)) ∧ H' p = some (.lst xs0),
    ⟨_, Nat.zero_le _, rfl, st ρ t none, F, Step.refl, staL, by rw [gi0]; rfl, fun _ _ => rfl, st_length _ _ _, hv0, t1⟩, ?_⟩
  rintro j m σ1 H1 ⟨hj, rfl, ρ1, F1, st1, sta1, gi, gk, gl, hs, hp⟩
  by_cases hlt : j < ds.length
  · right
    have hx : j < xs0.length := by omega
    refine ⟨⟨xs0, xs0[j], .of hp, List.getElem?_eq_getElem hx⟩, fun σ' H' => j + 1 ≤ ds.length ∧ ∃ ρ1 F1, Step B H (FP F) B H' (FP F1) ∧ Sta C ks pin B H' σ' ρ1 F1 ∧ gt ρ1 i = some (.lst (mixD ds' ds (j + 1))) ∧ (∀ k, k ≠ i → gt ρ1 k = gt (st ρ t none) k) ∧ ρ1.length = ρ.length ∧ σ'[i]? = some (some (.ref p)) ∧ H' p = some (.lst xs0), fun σ' H' ⟨z1, z2⟩ => ⟨_, by omega, z1, rfl, z2⟩, ?_⟩
    rintro x H2 ⟨rfl, hy⟩
    have ex := hy xs0 (.of hp)
    have ed : ds[j]? = some ds[j] := List.getElem?_eq_getElem hlt
    have gt1 : gt ρ1 t = none := by rw [gk t (fun z => it z.symm)]; exact gt0
    have lt1 : t < σ1.length := by have := sta1.len; omega
    obtain ⟨es, ee, el, e'⟩ := hg j _ ed
    obtain ⟨x, gx, hxj, hox⟩ : ∃ x f, xs0[j]? = some x ∧ own H2 ds[j] x f := by
      obtain ⟨w, hw, r⟩ := sta1.rep i _ gi
      rw [hs] at hw
      cases hw
      rw [k1] at r
      simp only [vrep, own] at r
      obtain ⟨p', xs, g, ep, ef, u1, u2, u3⟩ := r
      cases ep
      rw [hp] at u1
      cases u1
      obtain ⟨x, g1, _, h1, h2, _⟩ := owns_item j u3 (by rw [mix_get hl hlt]; exact ed)
      exact ⟨x, g1, h1, h2⟩
    rw [hxj] at ex
    cases ex
    have hh : hold C.K (vis H2 fun _ => False) ds[j] x := own_hold _ _ _ hox fun a _ o e l => vis_of e l.nt (fun z => z)
    have staA := sta1.anyV gt1 pt x
    have staT : Sta C ks pin (vis H2 fun _ => False) H2 (σ1.set t (some x)) (TW.st (List.replicate ρ.length none) t (some ds[j])) (fun _ => []) := by
      refine ⟨by rw [st_length, List.length_replicate, List.length_set, ← gl]; exact sta1.len, vis_sub, sta1.tab, fun k d' e => ?_, fun _ _ => rfl, fun _ _ _ m => (List.not_mem_nil m).elim, fun _ _ m => (List.not_mem_nil m).elim, staA.pin⟩
      rw [gt_st] at e
      split at e
      · rename_i z
        cases e
        refine ⟨x, by rw [z.1, List.getElem?_set_self lt1], ?_⟩
        rw [z.1, k2]
        exact ⟨hh, rfl⟩
      · rw [gt_none_rep] at e
        cases e
    have hc := List.all_eq_true.mp (show List.all _ _ = true from hall) _ (List.getElem_mem hlt)
    show gName t x σ1 H2 _
    refine sndE so c true ks (fun _ => hnb) pin W _ H2 (σ1.set t (some x)) _ (fun _ => []) kc _ hkc staT ?_
    cases ev : evE C.Φ c (TW.st (List.replicate ρ.length none) t (some ds[j])) with
    | bad => rw [ev] at hc; cases hc
    | exc c => rw [ev] at hc; cases hc
    | ok pr =>
    obtain ⟨d1, ρ4⟩ := pr
    rw [ev] at hc
    have hd1 : d1 = .bl false := by
      cases d1 with
      | bl b => cases b with
        | false => rfl
        | true => cases hc
      | _ => cases hc
    subst hd1
    intro v4 B4 H4 F4 f4 st4 sta4 has4 _
    have g4 := vrep_hold sta4.sub has4.rep
    simp only [hold] at g4
    have up4 : Up H2 H4 := fun a o e n => st4.up a o e (fun z => by obtain ⟨_, m⟩ := z; exact List.not_mem_nil m) n
    have stp : Step B H2 Nil B H4 Nil := ⟨fun _ _ e => e, fun a o e _ n => up4 a o e n, st4.th, fun _ z => z.elim, fun _ z => .inl z⟩
    have hp : H4 p = some (.lst xs0) := up4 _ _ hp nt_lst
    have sta1 := sta1.step stp (fun a o e => ⟨up4 a o (sta1.sub a o e).1 (sta1.sub a o e).2, (sta1.sub a o e).2⟩) sta4.tab
    have st1 : Step B H (FP F) B H4 (FP F1) := st1.trans ⟨fun _ _ e => e, fun a o e _ n => up4 a o e n, st4.th, fun _ z => .inl z, fun _ z => .inl z⟩
    refine ⟨false, g4, ?_⟩
    obtain ⟨w, hw, r⟩ := sta1.rep i _ gi
    rw [hs] at hw
    cases hw
    have rr := r
    rw [k1] at rr
    simp only [vrep, own] at rr
    obtain ⟨p', xs, g, ep, ef, u1, u2, u3⟩ := rr
    cases ep
    rw [hp] at u1
    cases u1
    obtain ⟨q, ys, o1, o2, o3, o4, o5⟩ := owns_upd hv j u3 (by rw [mix_get hl hlt, List.getElem?_eq_getElem hlt, ee])
    rw [mix_set hl hlt e'] at o5
    rw [hxj] at o1
    cases o1
    have qp : p ≠ q := fun z => u2 (z ▸ o4)
    have mq : q ∈ F1 i := by rw [ef]; exact List.mem_cons_of_mem _ o4
    have staA := sta1.anyV gt1 pt (.ref q)
    have hsA : (σ1.set t (some (.ref q)))[i]? = some (some (.ref p)) := by rw [List.getElem?_set_ne (fun z => it z.symm)]; exact hs
    have hp' : upd H4 q (.lst (ys ++ [v])) p = some (.lst xs0) := put_up hp qp
    have sp := staA.put hnb (o := .lst (ys ++ [v])) (d := .lst (mixD ds' ds (j + 1))) (g := F1 i) gi mq hsA (by rw [k1, ef]; simp only [vrep, own]; exact ⟨p, xs0, g, rfl, rfl, hp', u2, o5⟩) (fun a m => .inr m) (fun a m => sta1.nB i a m) nt_lst
    refine ⟨.ref q, by rw [List.getElem?_set_self lt1], .inl ⟨rfl, ys, .of o2⟩, v, hv, q, ys, v, rfl, rfl, o2, limS (by omega), ?_⟩
    refine ⟨hlt, st ρ1 i (some (.lst (mixD ds' ds (j + 1)))), setF F1 i (F1 i), st1.trans ⟨fun _ _ e => e, fun a o e n _ => put_up e fun z => n ⟨i, z ▸ mq⟩, fun a h => ?_, fun a z => .inl ((setF_fp z).elim (fun q => q) fun m => ⟨i, m⟩), fun a h => .inl h⟩, sp, ?_, fun k nk => ?_, by rw [st_length]; exact gl, hsA, hp'⟩
    · by_cases e : a = q
      · rw [e, upd_same]; simp
      · rw [upd_ne e]; exact h
    · rw [gt_st, if_pos ⟨rfl, gt_lt gi⟩]
    · rw [gt_st, if_neg (fun z => nk z.1)]; exact gk k nk
  · left
    have ej : j = ds.length := by omega
    refine ⟨⟨xs0, .of hp, by omega⟩, h σ1 B H1 F1 st1 (sta1.congr (fun k => ?_) (by rw [st_length, st_length, gl]))⟩
    rw [gt_st]
    split
    · rename_i z
      rw [z.1, gi, ej]
      unfold mixD
      rw [List.drop_length, List.append_nil, ← hl, List.take_length]
    · rename_i z
      by_cases nk : k = i
      · subst nk
        exact absurd ⟨rfl, by rw [st_length]; exact gt_lt e0⟩ z
      · exact (gk k nk).symm
mutual
theorem sndS (so : SigOk C sg) : ∀ s : IS, SndS C sg s
  | .asg t e => snd_asg so t e
  | .aug i o e => snd_aug so i o e
  | .exp e => snd_exp so e
  | .app i e => snd_app so i e
  | .ins i a e => snd_ins so i a e
  | .clr i => snd_clr i
  | .seti i a e => snd_seti so i a e
  | .set2 i a b e => snd_set2 so i a b e
  | .augi i a o e => snd_augi so i a o e
  | .aug2 i k l o e => snd_aug2 so i k l o e
  | .setk i a e => snd_setk so i a e
  | .setp i a e => snd_setp so i a e
  | .ifs c a b => snd_ifs so (sndSs so a) (sndSs so b)
  | .whl c b => snd_whl so (sndSs so b)
  | .for k a b c t body => snd_for so (sndSs so body)
  | .ret e => snd_ret so e
  | .retN => snd_retN
  | .rai c => snd_rai c
  | .dead => snd_dead
  | .forC a t c d => snd_forC so a t c d
  | .appA i t d => snd_appA i t d
  | .appT i t c d => snd_appT so i t c d
  | .tryC i j f es => snd_tryC so i j f es
theorem sndSs (so : SigOk C sg) : ∀ s : ISs, SndSs C sg s
  | .nil => snd_snil
  | .cons s r => snd_scons (sndS so s) (sndSs so r)
  | .frz i r => snd_frz (sndSs so r)
end
end
end TW

/-! ## defs -/
namespace TW
open PySem PySem.Spec PyProof.Rows L2
theorem has_non {C : Ctx} {B H : Hp} {F : Nat → List Addr} {rk : Kind} : Has C B H F rk .non .non [] := by
  refine ⟨?_, nomem, nomem⟩
  cases rk
  · exact ⟨rfl, rfl⟩
  · exact ⟨rfl, rfl⟩
  · exact .inl ⟨rfl, rfl⟩
  · exact own_sc rfl
  · exact .inl ⟨rfl, rfl⟩
  · exact ⟨rfl, rfl⟩
theorem gt_app : ∀ (ρ r : Env) (i : Nat), i < ρ.length → gt (ρ ++ r) i = gt ρ i
  | [], _, _, h => by simp at h
  | x :: ρ, r, 0, _ => rfl
  | x :: ρ, r, i + 1, h => gt_app ρ r i (by simpa using h)
theorem gt_none_app : ∀ (ρ : Env) (n i : Nat), ¬ i < ρ.length → gt (ρ ++ List.replicate n none) i = none
  | [], 0, i, _ => by simp [gt]
  | [], n + 1, 0, _ => rfl
  | [], n + 1, i + 1, _ => by
    have := gt_none_app [] n i (by simp)
    simpa [List.replicate_succ, gt] using this
  | x :: ρ, n, 0, h => by simp at h
  | x :: ρ, n, i + 1, h => gt_none_app ρ n i (by simpa using h)
theorem kb_all {l : List Kind} (h : (l.all fun k => !k.borrowed) = true) (j : Nat) : (kAt l j).borrowed = false := by
  unfold kAt
  rw [List.getD_eq_getElem?_getD]
  cases e : l[j]? with
  | none => rfl
  | some k =>
    have := List.all_eq_true.mp h k (List.mem_of_getElem? e)
    simpa using this
def WOf (E : XK) : WX := fun cls d _ H => E cls d H
theorem gt_mx (o : Option D) : ∀ (j k : Nat), gt (List.replicate j none ++ [o]) k = if k = j then o else none
  | 0, 0 => rfl
  | 0, k + 1 => by simp [gt]
  | j + 1, 0 => by simp [List.replicate_succ, gt]
  | j + 1, k + 1 => by
    rw [List.replicate_succ, List.cons_append]
    simp only [gt]
    rw [gt_mx o j k]
    simp
/-- what a def's text reads as keeps the def's promise -/
theorem body_ok {C : Ctx} {sg : Nat → Sig} (so : SigOk C sg) {d : IDef} (ok : d.ok sg = true) {N : List Str} (hN : N.length = d.ns) {vs : List V} {H : Hp} {Q : VK} {E : XK} (h : spF C (semOf C.Φ d) vs H Q E) :
    rdSs C d.body (WOf E) { nx := fun _ H' => Q .non H', rt := Q } (L2.start N vs) H := by
  obtain ⟨ds, B, F, hl, hv, sta, hF, h⟩ := h
  have hl : ds.length = d.np := hl
  have hv : vs.length = d.np := hv
  unfold IDef.ok at ok
  simp only [Bool.and_eq_true, decide_eq_true_eq] at ok
  obtain ⟨⟨o1, o2⟩, o3⟩ := ok
  have hr : (semOf C.Φ d).run ds = (match evSs C.Φ d.body (start d.ns ds) with
    | .rt x ρ => .ok (x, if d.mut = true then [gt ρ 0] else d.mx ρ)
    | .nx ρ => .ok (.non, if d.mut = true then [gt ρ 0] else d.mx ρ)
    | .exc c => .exc c
    | .bad => .bad) := by
    simp only [semOf]
    exact if_pos hl
  rw [hr] at h
  have pinw : ∀ j v, vs[j]? = some v → (L2.start N vs)[j]? = some (some v) := fun j v e => by
    unfold L2.start
    have l0 : j < vs.length := (List.getElem?_eq_some_iff.mp e).1
    rw [List.getElem?_append_left (by simpa using l0), List.getElem?_map, e]; rfl
  have sta1 : Sta C (kAt d.ks) (fun j => if d.pn j = true then vs[j]? else none) B H (L2.start N vs) (start d.ns ds) F := by
    refine ⟨?_, sta.sub, sta.tab, fun i x e => ?_, fun i e => ?_, sta.dj, sta.nB, fun j v e => ?_⟩
    · unfold L2.start start
      simp only [List.length_append, List.length_map, List.length_replicate, hl, hv, hN]; omega
    · have li : i < (ds.map some).length := Classical.byContradiction fun z => by
        unfold start at e
        rw [gt_none_app _ _ _ z] at e; cases e
      unfold start at e
      rw [gt_app _ _ _ li] at e
      obtain ⟨v, v1, v2⟩ := sta.rep i x e
      refine ⟨v, ?_, v2⟩
      unfold L2.start
      rw [List.getElem?_append_left (by rw [List.length_map] at li ⊢; omega)]
      exact v1
    · refine sta.nf i ?_
      by_cases li : i < (ds.map some).length
      · unfold start at e
        rw [gt_app _ _ _ li] at e; exact e
      · have := gt_none_app (ds.map some) 0 i li
        simpa using this
    · split at e
      · exact pinw j v e
      · cases e
  -- from the body's end to the caller
  have back : ∀ (x : D) (ρ' : Env) (v : V) (σ' : L2.St) (B' H' : Hp) (F' : Nat → List Addr) (f : List Addr), Step B H (FP F) B' H' (fun a => FP F' a ∨ a ∈ f) → Sta C (kAt d.ks) (fun j => if d.pn j = true then vs[j]? else none) B' H' σ' ρ' F' → Has C B' H' F' d.rk x v f →
      (∀ v B' H' F' f, Step B H (FP F) B' H' (fun a => FP F' a ∨ a ∈ f) → Sta C (kAt d.ks) (fun _ => none) B' H' (vs.map some) (if d.mut = true then [gt ρ' 0] else d.mx ρ') F' → Has C B' H' F' d.rk x v f → Q v H') → Q v H' := by
    intro x ρ' v σ' B' H' F' f st' sta' has' hq
    by_cases hm : d.mut = true
    · rw [if_pos hm] at hq
      have np : 0 < d.np := by
        unfold IDef.mut at hm
        simp only [Bool.and_eq_true, decide_eq_true_eq] at hm
        exact hm.1
      obtain ⟨v0, hv0⟩ : ∃ v0, vs[0]? = some v0 := ⟨vs[0]'(by omega), List.getElem?_eq_getElem (by omega)⟩
      have p0 := sta'.pin 0 v0 (by
        have : d.pn 0 = true := by unfold IDef.pn; rw [hm]; rfl
        rw [if_pos this]; exact hv0)
      have fz : ∀ a, FP (at0 (F' 0)) a → a ∈ F' 0 := fun a ⟨j, m⟩ => by
        by_cases z : j = 0
        · subst z; exact m
        · rw [at0_n z] at m; cases m
      refine hq v B' H' (at0 (F' 0)) f (st'.less fun a z => z.imp (fun q => ⟨0, fz a q⟩) fun m => m) ⟨by simp; omega, sta'.sub, sta'.tab, fun j e ej => ?_, fun j ej => ?_, fun j k a m m2 => ?_, fun j a m => ?_, fun _ _ z => by cases z⟩ ⟨has'.rep, fun a m z => has'.dj a m ⟨0, fz a z⟩, has'.nB⟩
      · cases j with
        | zero =>
          obtain ⟨w, w1, w2⟩ := sta'.rep 0 e ej
          rw [p0] at w1
          cases w1
          exact ⟨v0, by rw [List.getElem?_map, hv0]; rfl, w2⟩
        | succ j => simp [gt] at ej
      · by_cases z : j = 0
        · subst z; exact sta'.nf 0 ej
        · exact at0_n z
      · by_cases z : j = 0 <;> by_cases z2 : k = 0
        · rw [z, z2]
        · rw [at0_n z2] at m2; cases m2
        · rw [at0_n z] at m; cases m
        · rw [at0_n z] at m; cases m
      · by_cases z : j = 0
        · subst z; exact sta'.nB 0 a m
        · rw [at0_n z] at m; cases m
    · rw [if_neg hm] at hq
      cases hmj : d.mj with
      | none =>
        have em : d.mx ρ' = [] := by unfold IDef.mx; rw [hmj]
        rw [em] at hq
        exact hq v B' H' (fun _ => []) f (st'.less fun a z => z.imp (fun q => (noFP q).elim) fun m => m) ⟨by simp, sta'.sub, sta'.tab, (fun j e ej => by simp [gt] at ej), fun _ _ => rfl, (fun _ _ _ m => nomatch m), (fun _ _ m => nomatch m), (fun _ _ z => nomatch z)⟩ ⟨has'.rep, fun a m z => noFP z, has'.nB⟩
      | some j0 =>
        have em : d.mx ρ' = List.replicate j0 none ++ [gt ρ' j0] := by unfold IDef.mx; rw [hmj]
        rw [em] at hq
        have hj0 : j0 < d.np := by
          have h := hmj
          unfold IDef.mj at h
          rw [if_neg hm] at h
          exact List.mem_range.mp (List.mem_of_find?_eq_some h)
        obtain ⟨v0, hv0⟩ : ∃ v0, vs[j0]? = some v0 := ⟨vs[j0]'(by omega), List.getElem?_eq_getElem (by omega)⟩
        have p0 := sta'.pin j0 v0 (by
          have : d.pn j0 = true := by unfold IDef.pn; rw [hmj]; simp
          rw [if_pos this]; exact hv0)
        have fz : ∀ a, FP (atK j0 (F' j0)) a → a ∈ F' j0 := fun a ⟨j, m⟩ => by
          by_cases z : j = j0
          · subst z; rw [atK_0] at m; exact m
          · rw [atK_n z] at m; cases m
        refine hq v B' H' (atK j0 (F' j0)) f (st'.less fun a z => z.imp (fun q => ⟨j0, fz a q⟩) fun m => m) ⟨by simp; omega, sta'.sub, sta'.tab, fun j e ej => ?_, fun j ej => ?_, fun j k a m m2 => ?_, fun j a m => ?_, fun _ _ z => by cases z⟩ ⟨has'.rep, fun a m z => has'.dj a m ⟨j0, fz a z⟩, has'.nB⟩
        · rw [gt_mx] at ej
          split at ej
          · rename_i z
            subst z
            obtain ⟨w, w1, w2⟩ := sta'.rep j e ej
            rw [p0] at w1
            cases w1
            exact ⟨v0, by rw [List.getElem?_map, hv0]; rfl, by rw [atK_0]; exact w2⟩
          · cases ej
        · by_cases z : j = j0
          · subst z
            rw [gt_mx, if_pos rfl] at ej
            rw [atK_0]; exact sta'.nf j ej
          · exact atK_n z
        · by_cases z : j = j0 <;> by_cases z2 : k = j0
          · rw [z, z2]
          · rw [atK_n z2] at m2; cases m2
          · rw [atK_n z] at m; cases m
          · rw [atK_n z] at m; cases m
        · by_cases z : j = j0
          · subst z; rw [atK_0] at m; exact sta'.nB j a m
          · rw [atK_n z] at m; cases m
  refine sndSs so d.body (kAt d.ks) (kb_all o1) _ d.pn (fun j z => by rw [if_neg (by rw [z]; simp)]) d.rk (WOf E) B H _ (start d.ns ds) F _ o3 sta1 ?_
  cases ev : evSs C.Φ d.body (start d.ns ds) with
  | bad => rw [ev] at h; exact h
  | exc c => rw [ev] at h; exact fun σ' H' x t => h H' x t
  | nx ρ' =>
    rw [ev] at h
    exact fun σ' B' H' F' st' sta' => back .non ρ' .non σ' B' H' F' [] (st'.less fun a z => z.elim (fun q => q) fun m => by cases m) sta' has_non h
  | rt x ρ' =>
    rw [ev] at h
    exact fun v σ' B' H' F' f st' sta' has' => back x ρ' v σ' B' H' F' f st' sta' has' h
/-- a def keeps its promise: its text reads as its term -/
theorem fn_ok {P : Program} {w : World} {mg : Str → Option Value} {base : Heap} {C : Ctx} {sg : Nat → Sig} (so : SigOk C sg) {d : IDef} (ok : d.ok sg = true) {x qual : Str} {st : Stmt} {f : Addr} {fd : FuncData} {N ps : List Str} {k : Nat}
    (F : Fun C.K x qual st f fd) (S : FnScope N ps (defScope st)) (hN : N.length = d.ns) (hp : ps.length = d.np)
    (der : ∀ (cdv : Value) (A : Around) (outer : List PySem.Env) (s : Shared) (H : Hp) (E : XK), Room k (A.deeper (envOfC qual (defScope st) s.heap.objs.size f cdv)) →
      PSs (cxOf (L2.CX P w) P w C.K mg base N qual (defScope st) f cdv A outer s H E) (defBody st) (rdSs C d.body (WOf E))) : FnOk P w C.K mg base (L2.CX P w) (k + 1) f fd ps (spF C (semOf C.Φ d)) :=
  F.okX S (fun vs H Q E h => by obtain ⟨ds, B, F, hl, hv, _⟩ := h; rw [hp]; exact hv) fun cdv A outer s H vs Q E hr h => ⟨_, der cdv A outer s H E hr, body_ok so ok hN h⟩
/-- deeper than any call: nothing is promised -/
theorem fn_no {P : Program} {w : World} {mg : Str → Option Value} {base : Heap} {C : Ctx} {x qual : Str} {st : Stmt} {f : Addr} {fd : FuncData} {N ps : List Str} {k : Nat}
    (F : Fun C.K x qual st f fd) (S : FnScope N ps (defScope st)) : FnOk P w C.K mg base (L2.CX P w) (k + 1) f fd ps (spF C noSem) :=
  F.okX S (fun vs H Q E h => by obtain ⟨ds, B, F, _, _, _, _, h⟩ := h; exact h.elim) fun cdv A outer s H vs Q E hr h => by obtain ⟨ds, B, F, _, _, _, _, h⟩ := h; exact h.elim
end TW

/-! ## the texts' readings in the terms' words -/
namespace TW
open PySem PySem.Spec PyProof.Rows L2
/-- a context that reads as C says -/
structure Ok (X : Cx) (C : Ctx) : Prop where
  K : X.K = C.K
  calm : X.calm = true
  hu : X.A.units + 66 < cLine
section
variable {X : Cx} {C : Ctx} {W : WX} {pos p q : Pos}
theorem d_cst {d : D} {v : V} {e : Expr} (h : PE X e (tC v)) (hv : scV d = some v) : PE X e (rdE C (.cst d) W) :=
  ⟨fun pins s σ H Q I ⟨w, hw, q⟩ => h.run pins s σ H Q I (by rw [hv] at hw; cases hw; exact q)⟩
theorem d_int {i : Int} {j} : PE X (.Constant (.int i) j pos) (rdE C (.cst (.int i)) W) := d_cst pe_int rfl
theorem d_bl {b : Bool} {j} : PE X (.Constant (.bool b) j pos) (rdE C (.cst (.bl b)) W) := d_cst pe_bl rfl
theorem d_non {j} : PE X (.Constant .none j pos) (rdE C (.cst .non) W) := d_cst pe_non rfl
theorem d_str {x : Str} {j} : PE X (.Constant (.str x) j pos) (rdE C (.cst (.str x)) W) := d_cst pe_str rfl
theorem d_var {i : Nat} {x : Str} (h : PE X (.Name x pos) (tVar i)) : PE X (.Name x pos) (rdE C (.var i) W) := h
theorem d_mv {i : Nat} {x : Str} (h : PE X (.Name x pos) (tVar i)) : PE X (.Name x pos) (rdE C (.mv i) W) := h
theorem d_sc {e : Expr} {a : IE} (h : PE X e (rdE C a W)) : PE X e (rdE C (.op1 .sc a) W) := h
theorem d_scl {e : Expr} {a : IE} (h : PE X e (rdE C a W)) : PE X e (rdE C (.op1 .scl a) W) := h
theorem d_opq {e : Expr} {a : IE} (h : PE X e (rdE C a W)) : PE X e (rdE C (.op1 .opq a) W) := h
theorem d_bin {o : Op2} {op : Operator} {a b : Expr} {ia ib : IE} (ho : OpR X (binaryOp op) (r2 C.K o)) (ha : PE X a (rdE C ia W)) (hb : PE X b (rdE C ib W)) : PE X (.BinOp a op b pos) (rdE C (.op2 o ia ib) W) := pe_op ho ha hb
theorem d_cmp {o : Op2} {op : CmpOp} {a b : Expr} {ia ib : IE} (ho : OpR X (compareOp op) (r2 C.K o)) (ha : PE X a (rdE C ia W)) (hb : PE X b (rdE C ib W)) (hm : behindInMarks op b = false) : PE X (.Compare a [op] [b] pos) (rdE C (.op2 o ia ib) W) := pe_cmpR ho ha hb hm
theorem d_ix {o : Op2} {a b : Expr} {ia ib : IE} (ho : IxR X (r2 C.K o)) (ha : PE X a (rdE C ia W)) (hb : PE X b (rdE C ib W)) (hs : PlainIx b := by exact fun _ _ => rfl) : PE X (.Subscript a b pos) (rdE C (.op2 o ia ib) W) := pe_ix ho ha hb hs
theorem d_ixK {a b : Expr} {ia ib : IE} (ok : Ok X C) (ha : PE X a (rdE C ia W)) (hb : PE X b (rdE C ib W)) (hs : NoSl b) : PE X (.Subscript a b pos) (rdE C (.op2 .subK ia ib) W) := pe_dget (by have := ok.hu; omega) ha hb hs
theorem d_ixP {a b : Expr} {ia ib : IE} (ok : Ok X C) (ha : PE X a (rdE C ia W)) (hb : PE X b (rdE C ib W)) (hs : NoSl b) : PE X (.Subscript a b pos) (rdE C (.op2 .subP ia ib) W) := pe_dget (by have := ok.hu; omega) ha hb hs
theorem d_inK {a b : Expr} {ia ib : IE} (ok : Ok X C) (ha : PE X a (rdE C ia W)) (hb : PE X b (rdE C ib W)) (h1 : behindInMarks .In b = false) : PE X (.Compare a [.In] [b] pos) (rdE C (.op2 .inK ia ib) W) := pe_cmp (pc_din (by have := ok.hu; omega) ha hb) h1
theorem d_ninK {a b : Expr} {ia ib : IE} (ok : Ok X C) (ha : PE X a (rdE C ia W)) (hb : PE X b (rdE C ib W)) (h1 : behindInMarks .NotIn b = false) : PE X (.Compare a [.NotIn] [b] pos) (rdE C (.op2 .ninK ia ib) W) := pe_cmp (pc_dnotin (by have := ok.hu; omega) ha hb) h1
theorem d_not {a : Expr} {ia : IE} (ha : PE X a (rdE C ia W)) : PE X (.UnaryOp .Not a pos) (rdE C (.not ia) W) := pe_not ha
theorem d_neg {a : Expr} {ia : IE} (ha : PE X a (rdE C ia W)) : PE X (.UnaryOp .USub a pos) (rdE C (.op1 .neg ia) W) := pe_un un_neg ha
theorem d_and {a b : Expr} {rest : List Expr} {ia ib : IE} (ha : PE X a (rdE C ia W)) (hb : PE X (.BoolOp .And (b :: rest) pos) (rdE C ib W)) : PE X (.BoolOp .And (a :: b :: rest) pos) (rdE C (.and ia ib) W) := pe_and ha hb
theorem d_or {a b : Expr} {rest : List Expr} {ia ib : IE} (ha : PE X a (rdE C ia W)) (hb : PE X (.BoolOp .Or (b :: rest) pos) (rdE C ib W)) : PE X (.BoolOp .Or (a :: b :: rest) pos) (rdE C (.or ia ib) W) := pe_or ha hb
theorem d_one {op} {a : Expr} {ia : IE} (h : PE X a (rdE C ia W)) : PE X (.BoolOp op [a] pos) (rdE C ia W) := pe_one h
theorem d_nil : PA X [] (rdEs C .nil W) := pa_nil
theorem d_cons {e : Expr} {es : List Expr} {ie : IE} {ies : IEs} (he : PE X e (rdE C ie W)) (hs : PA X es (rdEs C ies W)) (hst : starEach (e :: es) X.env = (false, eval e X.env) :: starEach es X.env := by rfl) : PA X (e :: es) (rdEs C (.cons ie ies) W) := pa_cons he hs hst
theorem d_lst {es : List Expr} {ies : IEs} (h : PA X es (rdEs C ies W)) : PE X (.List es pos) (rdE C (.lst ies) W) := pe_lst h
theorem d_tup {es : List Expr} {ies : IEs} {k} (h : PA X es (rdEs C ies W)) : PE X (.Tuple es k pos) (rdE C (.tup ies) W) := pe_tup h
theorem d_dic0 : PE X (.Dict [] [] pos) (rdE C .dic0 W) := pe_dnewK
theorem d_dct0 : PE X (.Dict [] [] pos) (rdE C .dct0 W) := pe_dnewT
/-! operators by values -/
theorem o_add : OpR X (binaryOp .Add) (r2 C.K .addI) := op_add
theorem o_sub : OpR X (binaryOp .Sub) (r2 C.K .subI) := op_sub
theorem o_mul : OpR X (binaryOp .Mult) (r2 C.K .mulI) := op_mulX
theorem o_fdiv : OpR X (binaryOp .FloorDiv) (r2 C.K .fdiv) := op_fdivW
theorem o_mod : OpR X (binaryOp .Mod) (r2 C.K .mod) := op_mod
theorem o_pow : OpR X (binaryOp .Pow) (r2 C.K .pow) := op_pow
theorem o_cat : OpR X (binaryOp .Add) (r2 C.K .cat) := op_cat
theorem o_rep : OpR X (binaryOp .Mult) (r2 C.K .rep) := op_rep
theorem o_lt : OpR X (compareOp .Lt) (r2 C.K .lt) := op_lt
theorem o_le : OpR X (compareOp .LtE) (r2 C.K .le) := op_le
theorem o_gt : OpR X (compareOp .Gt) (r2 C.K .gt) := op_gt
theorem o_ge : OpR X (compareOp .GtE) (r2 C.K .ge) := op_ge
theorem o_eqI : OpR X (compareOp .Eq) (r2 C.K .eqI) := op_eq
theorem o_neI : OpR X (compareOp .NotEq) (r2 C.K .neI) := op_ne
theorem o_eqD (ok : Ok X C) : OpR X (compareOp .Eq) (r2 C.K .eqD) := by
  have h := op_eqD (X := X) (by have := ok.hu; omega)
  rw [ok.K] at h; exact h
theorem o_neD (ok : Ok X C) : OpR X (compareOp .NotEq) (r2 C.K .neD) := by
  have h := op_neD (X := X) (by have := ok.hu; omega)
  rw [ok.K] at h; exact h
theorem o_inL (ok : Ok X C) : OpR X (compareOp .In) (r2 C.K .inL) := by
  have h := op_in_seq (X := X)
  rw [ok.K] at h; exact h
theorem o_ninL (ok : Ok X C) : OpR X (compareOp .NotIn) (r2 C.K .ninL) := by
  have h := op_notIn_seq (X := X)
  rw [ok.K] at h; exact h
theorem o_inT (ok : Ok X C) : OpR X (compareOp .In) (r2 C.K .inT) := o_inL ok
theorem o_ninT (ok : Ok X C) : OpR X (compareOp .NotIn) (r2 C.K .ninT) := o_ninL ok
theorem o_inD (ok : Ok X C) : OpR X (compareOp .In) (r2 C.K .inD) := by
  have h := op_inD (X := X) (by have := ok.hu; omega)
  rw [ok.K] at h; exact h
theorem o_ninD (ok : Ok X C) : OpR X (compareOp .NotIn) (r2 C.K .ninD) := by
  have h := op_notInD (X := X) (by have := ok.hu; omega)
  rw [ok.K] at h; exact h
theorem x_lst (ok : Ok X C) : IxR X (r2 C.K .subL) := by
  have h := ix_list (X := X)
  rw [ok.K] at h; exact h
theorem x_tup (ok : Ok X C) : IxR X (r2 C.K .subT) := by
  have h := ix_tup (X := X)
  rw [ok.K] at h; exact h
/-! slices -/
theorem d_slcLo {a b : Expr} {ia ib : IE} {p2 : Pos} (ok : Ok X C) (ha : PE X a (rdE C ia W)) (hb : PE X b (rdE C ib W)) : PE X (.Subscript a (.Slice (some b) none none p2) pos) (rdE C (.op2 .slcLo ia ib) W) := by
  have h := pe_slice (pos := pos) (p2 := p2) (sl_list (X := X)) ha (po_some hb) po_none
  rw [ok.K] at h; exact h
theorem d_slcHi {a b : Expr} {ia ib : IE} {p2 : Pos} (ok : Ok X C) (ha : PE X a (rdE C ia W)) (hb : PE X b (rdE C ib W)) : PE X (.Subscript a (.Slice none (some b) none p2) pos) (rdE C (.op2 .slcHi ia ib) W) := by
  have h := pe_slice (pos := pos) (p2 := p2) (sl_list (X := X)) ha po_none (po_some hb)
  rw [ok.K] at h; exact h
theorem d_slc {a b c : Expr} {ia ib ic : IE} {p2 : Pos} (ok : Ok X C) (ha : PE X a (rdE C ia W)) (hb : PE X b (rdE C ib W)) (hc : PE X c (rdE C ic W)) : PE X (.Subscript a (.Slice (some b) (some c) none p2) pos) (rdE C (.slc ia ib ic) W) := by
  have h := pe_slice (pos := pos) (p2 := p2) (sl_list (X := X)) ha (po_some hb) (po_some hc)
  rw [ok.K] at h; exact h
theorem d_rev {e : Expr} {ie : IE} {k : Nat} {p1 p2 p3 : Pos} (ok : Ok X C) (he : PE X e (rdE C ie W)) : PE X (.Subscript e (.Slice none none (some (.UnaryOp .USub (.Constant (.int 1) k p1) p2)) p3) pos) (rdE C (.op1 .revL ie) W) := by
  have h := pe_revL (pos := pos) (k := k) (p1 := p1) (p2 := p2) (p3 := p3) he
  rw [ok.K] at h; exact h
/-! calls of what is built in -/
theorem d_len {a : Expr} {ia : IE} (ok : Ok X C) (hm : X.mg "len" = none) (ha : PE X a (rdE C ia W)) (hg : Gl X "len" := by rfl) (hs : starEach [a] X.env = (false, eval a X.env) :: starEach [] X.env := by rfl) : PE X (.Call (.Name "len" p) [a] [] pos) (rdE C (.op1 .len ia) W) := by
  have h := pe_callB (p := p) (pos := pos) (call_lenA (X := X)) hg hm boot_len (pa_cons ha pa_nil hs) (he := hs)
  rw [ok.K] at h
  exact h
theorem d_sum {a : Expr} {ia : IE} (ok : Ok X C) (hm : X.mg "sum" = none) (ha : PE X a (rdE C ia W)) (hg : Gl X "sum" := by rfl) (hs : starEach [a] X.env = (false, eval a X.env) :: starEach [] X.env := by rfl) : PE X (.Call (.Name "sum" p) [a] [] pos) (rdE C (.op1 .sumL ia) W) := by
  have h := pe_callB (p := p) (pos := pos) (cr_sum (X := X) ok.calm) hg hm boot_sum (pa_cons ha pa_nil hs) (he := hs)
  rw [ok.K] at h
  exact h
theorem d_max {a : Expr} {ia : IE} (ok : Ok X C) (hm : X.mg "max" = none) (ha : PE X a (rdE C ia W)) (hg : Gl X "max" := by rfl) (hs : starEach [a] X.env = (false, eval a X.env) :: starEach [] X.env := by rfl) : PE X (.Call (.Name "max" p) [a] [] pos) (rdE C (.op1 .maxL ia) W) := by
  have h := pe_callB (p := p) (pos := pos) ((cr_max (X := X) ok.calm).or (cr_maxT (X := X) ok.calm)) hg hm boot_max (pa_cons ha pa_nil hs) (he := hs)
  rw [ok.K] at h
  exact h
theorem d_min {a : Expr} {ia : IE} (ok : Ok X C) (hm : X.mg "min" = none) (ha : PE X a (rdE C ia W)) (hg : Gl X "min" := by rfl) (hs : starEach [a] X.env = (false, eval a X.env) :: starEach [] X.env := by rfl) : PE X (.Call (.Name "min" p) [a] [] pos) (rdE C (.op1 .minL ia) W) := by
  have h := pe_callB (p := p) (pos := pos) ((cr_min (X := X) ok.calm).or (cr_minT (X := X) ok.calm)) hg hm boot_min (pa_cons ha pa_nil hs) (he := hs)
  rw [ok.K] at h
  exact h
theorem d_sorted {a : Expr} {ia : IE} (ok : Ok X C) (hm : X.mg "sorted" = none) (ha : PE X a (rdE C ia W)) (hg : Gl X "sorted" := by rfl) (hs : starEach [a] X.env = (false, eval a X.env) :: starEach [] X.env := by rfl) : PE X (.Call (.Name "sorted" p) [a] [] pos) (rdE C (.op1 .sortL ia) W) := by
  have h := pe_callB (p := p) (pos := pos) (cr_sortedI (X := X)) hg hm boot_sorted (pa_cons ha pa_nil hs) (he := hs)
  rw [ok.K] at h
  exact h
theorem d_sortedP {a : Expr} {ia : IE} (ok : Ok X C) (hm : X.mg "sorted" = none) (ha : PE X a (rdE C ia W)) (hg : Gl X "sorted" := by rfl) (hs : starEach [a] X.env = (false, eval a X.env) :: starEach [] X.env := by rfl) : PE X (.Call (.Name "sorted" p) [a] [] pos) (rdE C (.op1 .sortP ia) W) := by
  have h := pe_callB (p := p) (pos := pos) (cr_sortedPO (X := X)) hg hm boot_sorted (pa_cons ha pa_nil hs) (he := hs)
  rw [ok.K] at h
  exact h
theorem d_all {a : Expr} {ia : IE} (ok : Ok X C) (hm : X.mg "all" = none) (ha : PE X a (rdE C ia W)) (hg : Gl X "all" := by rfl) (hs : starEach [a] X.env = (false, eval a X.env) :: starEach [] X.env := by rfl) : PE X (.Call (.Name "all" p) [a] [] pos) (rdE C (.op1 .allL ia) W) := by
  have h := pe_callB (p := p) (pos := pos) (cr_all (X := X) ok.calm) hg hm boot_all (pa_cons ha pa_nil hs) (he := hs)
  rw [ok.K] at h
  exact h
theorem d_any {a : Expr} {ia : IE} (ok : Ok X C) (hm : X.mg "any" = none) (ha : PE X a (rdE C ia W)) (hg : Gl X "any" := by rfl) (hs : starEach [a] X.env = (false, eval a X.env) :: starEach [] X.env := by rfl) : PE X (.Call (.Name "any" p) [a] [] pos) (rdE C (.op1 .anyL ia) W) := by
  have h := pe_callB (p := p) (pos := pos) (cr_any (X := X) ok.calm) hg hm boot_any (pa_cons ha pa_nil hs) (he := hs)
  rw [ok.K] at h
  exact h
theorem d_abs {a : Expr} {ia : IE} (ok : Ok X C) (hm : X.mg "abs" = none) (ha : PE X a (rdE C ia W)) (hg : Gl X "abs" := by rfl) (hs : starEach [a] X.env = (false, eval a X.env) :: starEach [] X.env := by rfl) : PE X (.Call (.Name "abs" p) [a] [] pos) (rdE C (.op1 .abs ia) W) := by
  have h := pe_callB (p := p) (pos := pos) (call_abs (X := X)) hg hm boot_abs (pa_cons ha pa_nil hs) (he := hs)
  exact h
theorem d_toInt {a : Expr} {ia : IE} (ok : Ok X C) (hm : X.mg "int" = none) (ha : PE X a (rdE C ia W)) (hg : Gl X "int" := by rfl) (hs : starEach [a] X.env = (false, eval a X.env) :: starEach [] X.env := by rfl) : PE X (.Call (.Name "int" p) [a] [] pos) (rdE C (.op1 .toInt ia) W) := by
  have h := pe_callTy (p := p) (pos := pos) (call_int1 (X := X)) hg hm boot_int (pa_cons ha pa_nil hs) (he := hs)
  exact h
theorem d_list {a : Expr} {ia : IE} (ok : Ok X C) (hm : X.mg "list" = none) (ha : PE X a (rdE C ia W)) (hg : Gl X "list" := by rfl) (hs : starEach [a] X.env = (false, eval a X.env) :: starEach [] X.env := by rfl) : PE X (.Call (.Name "list" p) [a] [] pos) (rdE C (.op1 .listL ia) W) := by
  have h := pe_callTy (p := p) (pos := pos) (call_list_of (X := X)) hg hm boot_list (pa_cons ha pa_nil hs) (he := hs)
  rw [ok.K] at h
  exact h
theorem d_max2 {a b : Expr} {ia ib : IE} (ok : Ok X C) (hm : X.mg "max" = none) (ha : PE X a (rdE C ia W)) (hb : PE X b (rdE C ib W)) (hg : Gl X "max" := by rfl) (hs : starEach [a, b] X.env = (false, eval a X.env) :: starEach [b] X.env := by rfl) (hs2 : starEach [b] X.env = (false, eval b X.env) :: starEach [] X.env := by rfl) (hpl : (backTo pos (starEach [b] X.env)).any (·.1) = false := by rfl) : PE X (.Call (.Name "max" p) [a, b] [] pos) (rdE C (.op2 .max2 ia ib) W) := by
  have h := pe_callB (p := p) (pos := pos) (call_max2 (X := X) ok.calm) hg hm boot_max (pa_cons ha (pa_cons hb pa_nil hs2) hs) (he := hs) (hpl := hpl)
  exact h
theorem d_min2 {a b : Expr} {ia ib : IE} (ok : Ok X C) (hm : X.mg "min" = none) (ha : PE X a (rdE C ia W)) (hb : PE X b (rdE C ib W)) (hg : Gl X "min" := by rfl) (hs : starEach [a, b] X.env = (false, eval a X.env) :: starEach [b] X.env := by rfl) (hs2 : starEach [b] X.env = (false, eval b X.env) :: starEach [] X.env := by rfl) (hpl : (backTo pos (starEach [b] X.env)).any (·.1) = false := by rfl) : PE X (.Call (.Name "min" p) [a, b] [] pos) (rdE C (.op2 .min2 ia ib) W) := by
  have h := pe_callB (p := p) (pos := pos) (call_min2 (X := X) ok.calm) hg hm boot_min (pa_cons ha (pa_cons hb pa_nil hs2) hs) (he := hs) (hpl := hpl)
  exact h
end
end TW

namespace TW
open PySem PySem.Spec PyProof.Rows L2
section
variable {X : Cx} {C : Ctx} {W : WX} {pos p q p2 : Pos}
theorem d_isN {a : Expr} {ia : IE} {j} {pos'} (ha : PE X a (rdE C ia W)) : PE X (.Compare a [.Is] [.Constant .none j pos'] pos) (rdE C (.op1 .isN ia) W) := pe_cmp (pc_isN ha)
theorem d_notN {a : Expr} {ia : IE} {j} {pos'} (ha : PE X a (rdE C ia W)) : PE X (.Compare a [.IsNot] [.Constant .none j pos'] pos) (rdE C (.op1 .notN ia) W) := pe_cmp (pc_notN ha)
theorem pe_tyN {x : Str} {T : String} (hg : Gl X x) (hm : X.mg x = none) (hv : bootBuiltins x = some (.type T)) (hn : x ≠ "__name__" := by decide) (hdb : (x == ("__debug__" : Str)) = false := by decide) : PE X (.Name x pos) (tC (.ty T)) :=
  ⟨fun pins s σ H Q I h => ld_blt I hg hm hv ⟨.ty T, H, I, rfl, h⟩ hn hdb⟩
theorem kit_all {t : String} (T : String) (hT : T ∈ ["int", "bool", "list", "str", "tuple"]) (h : t ∈ ["NoneType", "bool", "int", "str", "list", "tuple", "dict"]) : kitB t T = some (t == T || (t == "bool" && T == "int")) := by
  have key : ∀ T ∈ ["int", "bool", "list", "str", "tuple"], ∀ t ∈ ["NoneType", "bool", "int", "str", "list", "tuple", "dict"], kitB t T = some (t == T || (t == "bool" && T == "int")) := by decide +kernel
  exact key T hT t h
theorem d_isi {o : Op1} {T : String} {x : Str} {a : Expr} {ia : IE} (ok : Ok X C) (hT : T ∈ ["int", "bool", "list", "str", "tuple"]) (ho : ∀ v H Q, r1 C.K o v H Q = isT C.K T v H Q) (hv : bootBuiltins x = some (.type T)) (hm : X.mg "isinstance" = none) (hm2 : X.mg x = none) (ha : PE X a (rdE C ia W))
    (hg : Gl X "isinstance" := by rfl) (hg2 : Gl X x := by rfl) (hn : x ≠ "__name__" := by decide) (hdb : (x == ("__debug__" : Str)) = false := by decide)
    (hs : starEach [a, .Name x p2] X.env = (false, eval a X.env) :: starEach [.Name x p2] X.env := by rfl) (hs2 : starEach [.Name x p2] X.env = (false, eval (.Name x p2) X.env) :: starEach [] X.env := by rfl) (hpl : (backTo pos (starEach [.Name x p2] X.env)).any (·.1) = false := by rfl) :
    PE X (.Call (.Name "isinstance" p) [a, .Name x p2] [] pos) (rdE C (.op1 o ia) W) := by
  have hc : CallR X (.builtin "isinstance") (fun xs H Q => ∃ v, xs = [v, .ty T] ∧ isT C.K T v H Q) := fun pins s σ H xs us Q I r hw => by
    obtain ⟨v, rfl, t, ht, hm, q⟩ := hw
    exact call_isi pins s σ H _ us Q I r ⟨v, .ty T, .type t, .type T, _, rfl, .ty T, by rw [ok.K]; exact ht, kit_ty (kit_all T hT hm), q⟩
  have h := pe_callB (p := p) (pos := pos) hc hg hm boot_isinstance (pa_cons ha (pa_cons (pe_tyN (pos := p2) hg2 hm2 hv hn hdb) pa_nil hs2) hs) (he := hs) (hpl := hpl)
  have e : rdE C (.op1 o ia) W = tCB (fun xs H Q => ∃ v, xs = [v, V.ty T] ∧ isT C.K T v H Q) (tCons (rdE C ia W) (tCons (tC (.ty T)) tNil)) := by
    funext σ H Q
    show rdE C ia W σ H (fun x H1 => r1 C.K o x H1 Q) = rdE C ia W σ H (fun x H1 => ∃ v, [x, V.ty T] = [v, V.ty T] ∧ isT C.K T v H1 Q)
    congr 1
    funext x H1
    rw [ho]
    exact propext ⟨fun z => ⟨x, rfl, z⟩, fun ⟨v, e, z⟩ => by cases e; exact z⟩
  rw [e]; exact h
/-! len(set(xs)) -/
theorem firstMet_spec (ns : List Int) : ∀ i, i ≤ ns.length → (firstMet (fun i => ns.getD i 0) i).Nodup ∧ ∀ x, x ∈ firstMet (fun i => ns.getD i 0) i ↔ x ∈ ns.take i
  | 0, _ => ⟨List.nodup_nil, fun x => by rw [firstMet_zero]; simp⟩
  | i + 1, h => by
    obtain ⟨h1, h2⟩ := firstMet_spec ns i (by omega)
    have e : ns.getD i 0 = ns[i] := by rw [List.getD_eq_getElem?_getD, List.getElem?_eq_getElem (by omega)]; rfl
    have et : ns.take (i + 1) = ns.take i ++ [ns[i]] := by rw [List.take_add_one, List.getElem?_eq_getElem (by omega)]; rfl
    rw [firstMet_succ]
    show (if (firstMet (fun i => ns.getD i 0) i).any (· == ns.getD i 0) then firstMet (fun i => ns.getD i 0) i else firstMet (fun i => ns.getD i 0) i ++ [ns.getD i 0]).Nodup ∧ ∀ x, x ∈ (if (firstMet (fun i => ns.getD i 0) i).any (· == ns.getD i 0) then firstMet (fun i => ns.getD i 0) i else firstMet (fun i => ns.getD i 0) i ++ [ns.getD i 0]) ↔ x ∈ ns.take (i + 1)
    rw [e, et]
    split
    · rename_i ha
      rw [List.any_eq_true] at ha
      obtain ⟨y, hy, ey⟩ := ha
      have ey : y = ns[i] := eq_of_beq ey
      rw [ey] at hy
      refine ⟨h1, fun x => ?_⟩
      rw [h2 x, List.mem_append, List.mem_singleton]
      exact ⟨.inl, fun z => z.elim (fun q => q) fun q => by rw [q]; exact (h2 _).mp hy⟩
    · rename_i ha
      have hn : ns[i] ∉ firstMet (fun i => ns.getD i 0) i := fun m => ha (List.any_eq_true.mpr ⟨_, m, beq_self_eq_true _⟩)
      refine ⟨?_, fun x => ?_⟩
      · rw [List.nodup_append]
        exact ⟨h1, by simp, fun a m b m2 z => by rw [List.mem_singleton.mp m2] at z; exact hn (z ▸ m)⟩
      · rw [List.mem_append, List.mem_append, h2 x]
theorem dedup_mem : ∀ (l : List Int) (x : Int), x ∈ dedup l ↔ x ∈ l
  | [], x => by simp [dedup]
  | a :: r, x => by
    unfold dedup
    split
    · rename_i h
      rw [dedup_mem r x, List.mem_cons]
      exact ⟨.inr, fun z => z.elim (fun e => by rw [e]; simpa using h) fun q => q⟩
    · rw [List.mem_cons, List.mem_cons, dedup_mem r x]
theorem dedup_nodup : ∀ l : List Int, (dedup l).Nodup
  | [] => List.nodup_nil
  | a :: r => by
    unfold dedup
    split
    · exact dedup_nodup r
    · rename_i h
      rw [List.nodup_cons]
      exact ⟨fun m => h (by simpa using (dedup_mem r a).mp m), dedup_nodup r⟩
theorem len_same {l m : List Int} (h1 : l.Nodup) (h2 : m.Nodup) (h : ∀ x, x ∈ l ↔ x ∈ m) : l.length = m.length := ((List.perm_ext_iff_of_nodup h1 h2).mpr h).length_eq
theorem d_lenSet {a : Expr} {ia : IE} (ok : Ok X C) (hm : X.mg "len" = none) (hm2 : X.mg "set" = none) (ha : PE X a (rdE C ia W)) (hg : Gl X "len" := by rfl) (hg2 : Gl X "set" := by rfl) (na : starEach [a] X.env = (false, eval a X.env) :: starEach [] X.env := by rfl) :
    PE X (.Call (.Name "len" p) [.Call (.Name "set" p2) [a] [] q] [] pos) (rdE C (.op1 .lenSet ia) W) := by
  refine ⟨fun pins s σ H Q I h => ?_⟩
  refine Call_ (ld_blt I hg hm boot_len ?_)
  refine PyProof.Rows.callWith_builtin1 (PyProof.Rows.args_cons ?_ rfl) rfl rfl
  refine Call_ (ld_blt I hg2 hm2 boot_set ?_)
  refine PyProof.Rows.callWith_type1 (PyProof.Rows.args_cons (thn (ha.run pins s σ H _ I h) fun v s1 ⟨x, H1, I1, r1, q1⟩ => PyProof.Rows.args_nil ?_) na) na rfl
  obtain ⟨l, ns, rfl, hq, hl, q1⟩ := q1
  cases r1
  rw [← ok.K] at hq
  obtain ⟨its, r, pl, hz⟩ := I1.list hq
  have hlen : its.toArray.size = ns.length := by rw [List.size_toArray, ← r.length, List.length_map]
  refine call_set_list (I1.ok.hd ok.calm) pl.isList (by simpa using RZ.intsAre_vals r) (by rw [hlen]; unfold scanBound; omega) fun h' tk hS hk => ?_
  refine PyProof.Rows.args_nil ?_
  rw [hlen] at hS
  obtain ⟨hn1, hn2⟩ := firstMet_spec ns ns.length (Nat.le_refl _)
  have hcard : (firstMet (fun i => ns.getD i 0) ns.length).length = (dedup ns).length := len_same hn1 (dedup_nodup ns) fun x => by rw [hn2, dedup_mem, List.take_length]
  have hle := firstMet_length_le (fun i => ns.getD i 0) ns.length
  obtain ⟨o, es, ep, t, ho, hex, hd, _, _, _, hf, hn⟩ := hS
  have I2 : Inv X pins σ H1 { s1 with heap := h', toks := tk } := I1.kept fun b o e => hk b o (Heap.lt_size e) e
  exact call_len_set ho hex hd hf (by rw [hn]; omega) ⟨.int (dedup ns).length, H1, I2.tok _, ⟨_, by rw [hn, hcard]⟩, q1⟩
end
end TW

namespace TW
open PySem PySem.Spec PyProof.Rows L2
section
variable {X : Cx} {C : Ctx} {W : WX} {pos p q p2 : Pos}
theorem Ok.blk (ok : Ok X C) (s : Shared) (H : Hp) (sc : Scope) (ce : PySem.Env) (fp : List Addr) : Ok (X.blk s H sc ce fp) C := ⟨ok.K, ok.calm, ok.hu⟩
/-! targets, what is walked -/
theorem g_name {i : Nat} {x : Str} (h : PG X (.Name x pos) (gName i)) : PG X (.Name x pos) (rdTg C.K (.nm i)) := h
theorem g_nil : PGs X [] (gNs []) := pgs_nil
theorem g_cons {i : Nat} {is : List Nat} {e : Expr} {es : List Expr} (h1 : PG X e (gName i)) (h2 : PGs X es (gNs is)) (hs : (assignEach (e :: es) X.env).map (·.2) = assign e X.env :: (assignEach es X.env).map (·.2) := by rfl) : PGs X (e :: es) (gNs (i :: is)) := pgs_cons h1 h2 hs
theorem g_tup {is : List Nat} {es : List Expr} {k : Nat} (ok : Ok X C) (h : PGs X es (gNs is)) (hn : (assignEach es X.env).length = is.length := by rfl) (hst : (assignEach es X.env).findIdx? (·.1) = none := by rfl) : PG X (.Tuple es k pos) (rdTg C.K (.tup is)) := by
  have g := pg_tup (k := k) (pos := pos) ok.calm h hn hst
  rw [ok.K] at g; exact g
theorem g_lsp {is : List Nat} {es : List Expr} {k : Nat} (ok : Ok X C) (h : PGs X es (gNs is)) (hn : (assignEach es X.env).length = is.length := by rfl) (hst : (assignEach es X.env).findIdx? (·.1) = none := by rfl) : PG X (.Tuple es k pos) (rdTg C.K (.lsp is)) := by
  have g := pg_lst (k := k) (pos := pos) ok.calm h hn hst
  rw [ok.K] at g; exact g
theorem i_lst {tg l : Expr} {a b c : IE} (ok : Ok X C) (hl : PE X l (rdE C a W)) : PI X tg l (iSrc C.K .lst (rdE C a W) (rdE C b W) (rdE C c W)) := by
  have g := pi_list (tg := tg) hl
  rw [ok.K] at g; exact g
theorem i_r1 {tg e : Expr} {a b c : IE} (hm : X.mg "range" = none) (ha : PE X e (rdE C a W)) (hg : Gl X "range" := by rfl) (hs : starEach [e] X.env = (false, eval e X.env) :: starEach [] X.env := by rfl) : PI X tg (.Call (.Name "range" p) [e] [] pos) (iSrc C.K .r1 (rdE C a W) (rdE C b W) (rdE C c W)) :=
  pi_range1 hg hm (pa_cons ha pa_nil hs) hs
theorem i_r2 {tg e e2 : Expr} {a b c : IE} (hm : X.mg "range" = none) (ha : PE X e (rdE C a W)) (hb : PE X e2 (rdE C b W)) (hg : Gl X "range" := by rfl) (hs : starEach [e, e2] X.env = (false, eval e X.env) :: starEach [e2] X.env := by rfl) (hs2 : starEach [e2] X.env = (false, eval e2 X.env) :: starEach [] X.env := by rfl) :
    PI X tg (.Call (.Name "range" p) [e, e2] [] pos) (iSrc C.K .r2 (rdE C a W) (rdE C b W) (rdE C c W)) :=
  pi_range2 hg hm (pa_cons ha (pa_cons hb pa_nil hs2) hs) (by rw [hs, hs2]; rfl) hs2
theorem i_dic {tg : Expr} {i : Nat} {x : Str} {a b c : IE} (h : PE X (.Name x pos) (tVar i)) : PI X tg (.Name x pos) (iSrc C.K (.dic i) (rdE C a W) (rdE C b W) (rdE C c W)) := pi_keys h
/-! comprehensions -/
theorem t_none : PTs X [] (tB (rdE C (.cst (.bl true)) W)) := ⟨fun pins s σ H Q I hw => by
  obtain ⟨v, hv, c, rfl, q⟩ := hw
  cases hv
  exact pts_nil.run pins s σ H Q I q⟩
theorem t_one {c : Expr} {a : IE} (h : PT X c (tB (rdE C a W))) : PTs X [c] (tB (rdE C a W)) := pts_one h
theorem lock_if {k : Sk} {e : Expr} {t : TE} (h : PE X e t) : PE X e (lockIf k t) := by
  cases k with
  | dic i => exact pe_lock h
  | _ => exact h
theorem d_lc {k : Sk} {a b c test elt : IE} {t : Tg} {el tg iter : Expr} {ifs : List Expr} {scope : Scope} {own : List (Str × Nat)} (ok : Ok X C) (hN : X.N.Nodup) (hi : PI X tg iter (iSrc C.K k (rdE C a W) (rdE C b W) (rdE C c W))) (bk : BlkOk X.N X.env.scope scope own) (ho : own.map (·.2) = t.names)
    (hg : ∀ (s : Shared) (H : Hp) (c : Addr) (cl : List (Str × Addr)) (fp : List Addr), PG (X.blk s H scope (compEnvC scope cl c X.env) fp) tg (rdTg C.K t)) (ht : ∀ (s : Shared) (H : Hp) (c : Addr) (cl : List (Str × Addr)) (fp : List Addr), PTs (X.blk s H scope (compEnvC scope cl c X.env) fp) ifs (tB (rdE C test Wno)))
    (he : ∀ (s : Shared) (H : Hp) (c : Addr) (cl : List (Str × Addr)) (fp : List Addr), PE (X.blk s H scope (compEnvC scope cl c X.env) fp) el (rdE C elt Wno)) (hs : ∀ x, foldedSetIterable iter X.env x = pure x := by intro _; rfl) :
    PE X (.ListComp el [⟨tg, iter, ifs, 0⟩] scope pos) (rdE C (.lc k a b c t test elt) W) := by
  have h := pe_lc (pos := pos) ok.calm hN hi bk hg ht he hs
  rw [ho] at h
  exact lock_if h
theorem s_setLc {i : Nat} {y : Str} {py spos : Pos} {k : Sk} {a b c test elt : IE} {t : Tg} {el tg iter : Expr} {ifs : List Expr} {scope : Scope} {own : List (Str × Nat)} (ok : Ok X C) (hN : X.N.Nodup) (hy : X.N[i]? = some y) (hyl : X.env.scope.names.lookup y = some .local)
    (hsw : swapsWith (.ListComp el [⟨tg, iter, ifs, 0⟩] scope pos) (some (.Name y py)) spos.line X.env = pure true) (hk : k.pure = true) (hi : PI X tg iter (iSrc C.K k (rdE C a W) (rdE C b W) (rdE C c W))) (bk : BlkOk X.N X.env.scope scope own) (ho : own.map (·.2) = t.names)
    (hg : ∀ (s : Shared) (H : Hp) (c : Addr) (cl : List (Str × Addr)) (fp : List Addr), PG (X.blk s H scope (compEnvC scope cl c X.env) fp) tg (rdTg C.K t)) (ht : ∀ (s : Shared) (H : Hp) (c : Addr) (cl : List (Str × Addr)) (fp : List Addr), PTs (X.blk s H scope (compEnvC scope cl c X.env) fp) ifs (tB (rdE C test Wno)))
    (he : ∀ (s : Shared) (H : Hp) (c : Addr) (cl : List (Str × Addr)) (fp : List Addr), PE (X.blk s H scope (compEnvC scope cl c X.env) fp) el (rdE C elt Wno)) (hs : ∀ x, foldedSetIterable iter X.env x = pure x := by intro _; rfl) :
    PS X (.Assign [.Name y py] (.ListComp el [⟨tg, iter, ifs, 0⟩] scope pos) spos) (rdS C (.asg (.nm i) (.lc k a b c t test elt)) W) := by
  have h := ps_setLc (pos := pos) ok.calm hN hy hyl hsw hi bk hg ht he hs
  rw [ho] at h
  cases k with
  | dic i => cases hk
  | _ => exact h
theorem d_lcM {a elt : IE} {i : Nat} {el tg iter : Expr} {scope : Scope} {own : List (Str × Nat)} (ok : Ok X C) (hN : X.N.Nodup) (hi : PI X tg iter (iSrc C.K .r1 (rdE C a W) (rdE C (.cst .non) W) (rdE C (.cst .non) W))) (bk : BlkOk X.N X.env.scope scope own) (ho : own.map (·.2) = [i])
    (hg : ∀ (s : Shared) (H : Hp) (c : Addr) (cl : List (Str × Addr)) (fp : List Addr), PG (X.blk s H scope (compEnvC scope cl c X.env) fp) tg (rdTg C.K (.nm i))) (ht : ∀ (s : Shared) (H : Hp) (c : Addr) (cl : List (Str × Addr)) (fp : List Addr), PTs (X.blk s H scope (compEnvC scope cl c X.env) fp) [] (tB (rdE C (.cst (.bl true)) Wno)))
    (he : ∀ (s : Shared) (H : Hp) (c : Addr) (cl : List (Str × Addr)) (fp : List Addr), PE (X.blk s H scope (compEnvC scope cl c X.env) fp) el (rdE C elt Wno)) (hs : ∀ x, foldedSetIterable iter X.env x = pure x := by intro _; rfl) :
    PE X (.ListComp el [⟨tg, iter, [], 0⟩] scope pos) (rdE C (.lcM a i elt) W) := by
  have h := pe_lc (pos := pos) ok.calm hN hi bk hg ht he hs
  rw [ho] at h
  exact h
theorem s_setLcM {j : Nat} {y : Str} {py spos : Pos} {a elt : IE} {i : Nat} {el tg iter : Expr} {scope : Scope} {own : List (Str × Nat)} (ok : Ok X C) (hN : X.N.Nodup) (hy : X.N[j]? = some y) (hyl : X.env.scope.names.lookup y = some .local)
    (hsw : swapsWith (.ListComp el [⟨tg, iter, [], 0⟩] scope pos) (some (.Name y py)) spos.line X.env = pure true) (hi : PI X tg iter (iSrc C.K .r1 (rdE C a W) (rdE C (.cst .non) W) (rdE C (.cst .non) W))) (bk : BlkOk X.N X.env.scope scope own) (ho : own.map (·.2) = [i])
    (hg : ∀ (s : Shared) (H : Hp) (c : Addr) (cl : List (Str × Addr)) (fp : List Addr), PG (X.blk s H scope (compEnvC scope cl c X.env) fp) tg (rdTg C.K (.nm i))) (ht : ∀ (s : Shared) (H : Hp) (c : Addr) (cl : List (Str × Addr)) (fp : List Addr), PTs (X.blk s H scope (compEnvC scope cl c X.env) fp) [] (tB (rdE C (.cst (.bl true)) Wno)))
    (he : ∀ (s : Shared) (H : Hp) (c : Addr) (cl : List (Str × Addr)) (fp : List Addr), PE (X.blk s H scope (compEnvC scope cl c X.env) fp) el (rdE C elt Wno)) (hs : ∀ x, foldedSetIterable iter X.env x = pure x := by intro _; rfl) :
    PS X (.Assign [.Name y py] (.ListComp el [⟨tg, iter, [], 0⟩] scope pos) spos) (rdS C (.asg (.nm j) (.lcM a i elt)) W) := by
  have h := ps_setLc (pos := pos) ok.calm hN hy hyl hsw hi bk hg ht he hs
  rw [ho] at h
  exact h
theorem s_setFilt {j i t : Nat} {y : Str} {py spos : Pos} {test : IE} {el tg iter : Expr} {ifs : List Expr} {scope : Scope} {own : List (Str × Nat)} (ok : Ok X C) (hN : X.N.Nodup) (hy : X.N[j]? = some y) (hyl : X.env.scope.names.lookup y = some .local)
    (hsw : swapsWith (.ListComp el [⟨tg, iter, ifs, 0⟩] scope pos) (some (.Name y py)) spos.line X.env = pure true) (hi : PI X tg iter (iSrc C.K .lst (rdE C (.var i) W) (rdE C (.cst .non) W) (rdE C (.cst .non) W))) (bk : BlkOk X.N X.env.scope scope own) (ho : own.map (·.2) = [t])
    (hg : ∀ (s : Shared) (H : Hp) (c : Addr) (cl : List (Str × Addr)) (fp : List Addr), PG (X.blk s H scope (compEnvC scope cl c X.env) fp) tg (rdTg C.K (.nm t))) (ht : ∀ (s : Shared) (H : Hp) (c : Addr) (cl : List (Str × Addr)) (fp : List Addr), PTs (X.blk s H scope (compEnvC scope cl c X.env) fp) ifs (tB (rdE C test Wno)))
    (he : ∀ (s : Shared) (H : Hp) (c : Addr) (cl : List (Str × Addr)) (fp : List Addr), PE (X.blk s H scope (compEnvC scope cl c X.env) fp) el (rdE C (.var t) Wno)) (hs : ∀ x, foldedSetIterable iter X.env x = pure x := by intro _; rfl) :
    PS X (.Assign [.Name y py] (.ListComp el [⟨tg, iter, ifs, 0⟩] scope pos) spos) (rdS C (.asg (.nm j) (.filt i t test)) W) := by
  have h := ps_setLc (pos := pos) ok.calm hN hy hyl hsw hi bk hg ht he hs
  rw [ho] at h
  exact h
/-! calls of the text's own defs -/
theorem d_call {f n : Nat} {x : Str} {a : Addr} {fd : FuncData} {ps : List Str} {e : Expr} {es : List Expr} {ies : IEs} (F : FnOk X.prog X.w C.K X.mg X.base (L2.CX X.prog X.w) n a fd ps (spF C (C.Φ f))) (ok : Ok X C) (hr : Room n X.A) (tk : Takes X W) (hm : X.mg x = some (.ref a)) (hk : PySem.W.keepIn C.K (.ref a) = true) (hb : Binds C.K fd ps [])
    (ha : PA X (e :: es) (rdEs C ies W)) (hg : Gl X x := by rfl) (hdb : (x == ("__debug__" : Str)) = false := by decide) (he : starEach (e :: es) X.env = (false, eval e X.env) :: starEach es X.env := by rfl) (hpl : (backTo pos (starEach es X.env)).any (·.1) = false := by rfl) :
    PE X (.Call (.Name x p) (e :: es) [] pos) (rdE C (.call f ies) W) := by
  rw [← ok.K] at F hk hb
  exact pe_callS F hr hg hm hk hb (fun σ => passAt tk σ) ha hdb he hpl
theorem d_callT {f n : Nat} {x : Str} {a : Addr} {fd : FuncData} {ps : List Str} {e : Expr} {es : List Expr} {ies : IEs} (F : FnOk X.prog X.w C.K X.mg X.base (L2.CX X.prog X.w) n a fd ps (spF C (C.Φ f))) (ok : Ok X C) (hr : Room n X.A) (tk : Takes X W) (hm : X.mg x = some (.ref a)) (hk : PySem.W.keepIn C.K (.ref a) = true) (hb : Binds C.K fd ps [])
    (ha : PA X (e :: es) (rdEs C ies W)) (hg : Gl X x := by rfl) (hdb : (x == ("__debug__" : Str)) = false := by decide) (he : starEach (e :: es) X.env = (false, eval e X.env) :: starEach es X.env := by rfl) (hpl : (backTo pos (starEach es X.env)).any (·.1) = false := by rfl) :
    PE X (.Call (.Name x p) (e :: es) [] pos) (rdE C (.callT f ies) W) := by
  rw [← ok.K] at F hk hb
  exact pe_callS F hr hg hm hk hb (fun σ => passAt tk σ) ha hdb he hpl
theorem d_callM {f n i : Nat} {x y : Str} {a : Addr} {fd : FuncData} {ps : List Str} {py : Pos} {es : List Expr} {ies : IEs} (F : FnOk X.prog X.w C.K X.mg X.base (L2.CX X.prog X.w) n a fd ps (spF C (C.Φ f))) (ok : Ok X C) (hr : Room n X.A) (tk : Takes X W) (hm : X.mg x = some (.ref a)) (hk : PySem.W.keepIn C.K (.ref a) = true) (hb : Binds C.K fd ps [])
    (hy : PE X (.Name y py) (tVar i)) (ha : PA X es (rdEs C ies W)) (hg : Gl X x := by rfl) (hdb : (x == ("__debug__" : Str)) = false := by decide) (he : starEach (.Name y py :: es) X.env = (false, eval (.Name y py) X.env) :: starEach es X.env := by rfl) (hpl : (backTo pos (starEach es X.env)).any (·.1) = false := by rfl) :
    PE X (.Call (.Name x p) (.Name y py :: es) [] pos) (rdE C (.callM f i ies) W) := by
  rw [← ok.K] at F hk hb
  exact pe_callS F hr hg hm hk hb (fun σ => passAt tk σ) (pa_cons hy ha he) hdb he hpl
theorem pa_imp {es : List Expr} {t u : TA} (h : PA X es t) (q : ∀ σ H Q, u σ H Q → t σ H Q) : PA X es u := ⟨fun pos pins s σ H Q I w => h.run pos pins s σ H Q I (q σ H Q w)⟩
theorem d_callN {f n i : Nat} {x : Str} {a : Addr} {fd : FuncData} {ps : List Str} {e : Expr} {es : List Expr} {ies jes : IEs} (F : FnOk X.prog X.w C.K X.mg X.base (L2.CX X.prog X.w) n a fd ps (spF C (C.Φ f))) (ok : Ok X C) (hr : Room n X.A) (tk : Takes X W) (hm : X.mg x = some (.ref a)) (hk : PySem.W.keepIn C.K (.ref a) = true) (hb : Binds C.K fd ps [])
    (ha : PA X (e :: es) (rdEs C jes W)) (ht : ∀ σ H Q, tSnoc (rdEs C ies W) i σ H Q → rdEs C jes W σ H Q) (hg : Gl X x := by rfl) (hdb : (x == ("__debug__" : Str)) = false := by decide) (he : starEach (e :: es) X.env = (false, eval e X.env) :: starEach es X.env := by rfl) (hpl : (backTo pos (starEach es X.env)).any (·.1) = false := by rfl) :
    PE X (.Call (.Name x p) (e :: es) [] pos) (rdE C (.callN f i ies) W) := by
  rw [← ok.K] at F hk hb
  exact pe_callS F hr hg hm hk hb (fun σ => passAt tk σ) (pa_imp ha ht) hdb he hpl
/-! tests -/
theorem tB_and {ta tb : TE} : tB (tAndV ta tb) = tAnd (tB ta) (tB tb) := by
  funext σ H Q
  show ta σ H _ = ta σ H _
  congr 1
  funext x H1
  apply propext
  constructor
  · rintro ⟨c, rfl, h⟩
    refine ⟨c, rfl, ?_⟩
    cases c with
    | true => exact h
    | false => obtain ⟨d, e, h⟩ := h; cases e; exact h
  · rintro ⟨c, rfl, h⟩
    refine ⟨c, rfl, ?_⟩
    cases c with
    | true => exact h
    | false => exact ⟨false, rfl, h⟩
theorem tB_or {ta tb : TE} : tB (tOrV ta tb) = tOr (tB ta) (tB tb) := by
  funext σ H Q
  show ta σ H _ = ta σ H _
  congr 1
  funext x H1
  apply propext
  constructor
  · rintro ⟨c, rfl, h⟩
    refine ⟨c, rfl, ?_⟩
    cases c with
    | false => exact h
    | true => obtain ⟨d, e, h⟩ := h; cases e; exact h
  · rintro ⟨c, rfl, h⟩
    refine ⟨c, rfl, ?_⟩
    cases c with
    | false => exact h
    | true => exact ⟨true, rfl, h⟩
theorem tB_not {ta : TE} : tB (tNotV ta) = tNot (tB ta) := by
  funext σ H Q
  show ta σ H _ = ta σ H _
  congr 1
  funext x H1
  apply propext
  constructor
  · rintro ⟨c, rfl, d, e, h⟩
    cases e
    exact ⟨c, rfl, h⟩
  · rintro ⟨c, rfl, h⟩
    exact ⟨c, rfl, _, rfl, h⟩
theorem p_val {e : Expr} {a : IE} (h : PE X e (rdE C a W)) (he : ∀ whole, isTrue e X.env whole = (do let v ← whole; standAt e.pos; holding [v] (truthy v)) := by intro _; rfl) : PT X e (tB (rdE C a W)) := pt_val h he
theorem p_cmp {o : Op2} {op : CmpOp} {a b : Expr} {ia ib : IE} (ho : OpR X (compareOp op) (r2 C.K o)) (ha : PE X a (rdE C ia W)) (hb : PE X b (rdE C ib W)) (hm : behindInMarks op b = false) : PT X (.Compare a [op] [b] pos) (tB (rdE C (.op2 o ia ib) W)) := pt_cmpR ho ha hb hm
theorem p_inK {a b : Expr} {ia ib : IE} (ok : Ok X C) (ha : PE X a (rdE C ia W)) (hb : PE X b (rdE C ib W)) (h1 : behindInMarks .In b = false) : PT X (.Compare a [.In] [b] pos) (tB (rdE C (.op2 .inK ia ib) W)) := pt_cmp (pc_din (by have := ok.hu; omega) ha hb) h1
theorem p_ninK {a b : Expr} {ia ib : IE} (ok : Ok X C) (ha : PE X a (rdE C ia W)) (hb : PE X b (rdE C ib W)) (h1 : behindInMarks .NotIn b = false) : PT X (.Compare a [.NotIn] [b] pos) (tB (rdE C (.op2 .ninK ia ib) W)) := pt_cmp (pc_dnotin (by have := ok.hu; omega) ha hb) h1
theorem p_isN {a : Expr} {ia : IE} {j} {pos'} (ha : PE X a (rdE C ia W)) : PT X (.Compare a [.Is] [.Constant .none j pos'] pos) (tB (rdE C (.op1 .isN ia) W)) := pt_cmp (pc_isN ha)
theorem p_notN {a : Expr} {ia : IE} {j} {pos'} (ha : PE X a (rdE C ia W)) : PT X (.Compare a [.IsNot] [.Constant .none j pos'] pos) (tB (rdE C (.op1 .notN ia) W)) := pt_cmp (pc_notN ha)
theorem p_not {a : Expr} {ia : IE} (ha : PT X a (tB (rdE C ia W))) : PT X (.UnaryOp .Not a pos) (tB (rdE C (.not ia) W)) := by
  have h := pt_not (pos := pos) ha
  rw [← tB_not] at h; exact h
theorem w_one_and {a : Expr} {ia : IE} (ha : PT X a (tB (rdE C ia W))) : PW X (.BoolOp .And [a] pos) (tB (rdE C ia W)) := pw_and1 ha
theorem w_one_or {a : Expr} {ia : IE} (ha : PT X a (tB (rdE C ia W))) : PW X (.BoolOp .Or [a] pos) (tB (rdE C ia W)) := pw_or1 ha
theorem w_and {a b : Expr} {rest : List Expr} {ia ib : IE} (ha : PT X a (tB (rdE C ia W))) (hb : PW X (.BoolOp .And (b :: rest) pos) (tB (rdE C ib W))) : PW X (.BoolOp .And (a :: b :: rest) pos) (tB (rdE C (.and ia ib) W)) := by
  have h := pw_and ha hb
  rw [← tB_and] at h; exact h
theorem w_or {a b : Expr} {rest : List Expr} {ia ib : IE} (ha : PT X a (tB (rdE C ia W))) (hb : PW X (.BoolOp .Or (b :: rest) pos) (tB (rdE C ib W))) : PW X (.BoolOp .Or (a :: b :: rest) pos) (tB (rdE C (.or ia ib) W)) := by
  have h := pw_or ha hb
  rw [← tB_or] at h; exact h
theorem p_w {e : Expr} {a : IE} (h : PW X e (tB (rdE C a W))) : PT X e (tB (rdE C a W)) := h.pt
end
end TW

namespace TW
open PySem PySem.Spec PyProof.Rows L2
section
variable {X : Cx} {C : Ctx} {W : WX} {pos p q p2 pos' : Pos}
theorem mt_ins : MtR X "list.insert" rInsert := fun pins s σ H x xs v us Q I r rs h => by
  obtain ⟨l, ys, i, y, h1, h2, h3, h4, h5, h6, q⟩ := h
  exact mt_insert pins s σ H x xs v us Q I r rs ⟨l, ys, i, y, h1, h2, h3, h4, h5, h6, by rw [List.append_assoc]; exact q⟩
theorem d_pop {i : Nat} {x : Str} {apos cpos px : Pos} (ok : Ok X C) (h : PE X (.Name x px) (tVar i)) (hbase : attributeBase (.Name x px) "pop" X.env (eval (.Name x px) X.env) = eval (.Name x px) X.env := by rfl) (hline : (apos.endLine == cpos.line) = true := by rfl) :
    PE X (.Call (.Attribute (.Name x px) "pop" apos) [] [] cpos) (rdE C (.pop i) W) := by
  have g := pe_bm0 (cpos := cpos) PySem.F.plainAttrs_list PySem.F.slot_list_pop PySem.F.type_list_pop mt_pop h hbase hline
  rw [ok.K] at g; exact g
theorem d_popAt {i : Nat} {x : Str} {e : Expr} {ie : IE} {apos cpos px : Pos} (ok : Ok X C) (h : PE X (.Name x px) (tVar i)) (he : PE X e (rdE C ie W)) (hs : starEach [e] X.env = (false, eval e X.env) :: starEach [] X.env := by rfl)
    (hfew : ((backTo cpos (starEach [e] X.env)).all (fun x => !x.1) && (backToKw cpos (keywordEach [] X.env)).all (fun x => x.1.isSome) && decide ([e].length + ([] : List Keyword).length + (if ([] : List Keyword).isEmpty then 0 else 1) < 30)) = true := by rfl)
    (hbase : attributeBase (.Name x px) "pop" X.env (eval (.Name x px) X.env) = eval (.Name x px) X.env := by rfl) (hline : (apos.endLine == cpos.line) = true := by rfl) :
    PE X (.Call (.Attribute (.Name x px) "pop" apos) [e] [] cpos) (rdE C (.popAt i ie) W) := by
  have g := pe_bm (cpos := cpos) PySem.F.plainAttrs_list PySem.F.slot_list_pop PySem.F.type_list_pop mt_popAt h (pa_cons he pa_nil hs) hbase hfew hline hs rfl
  rw [ok.K] at g; exact g
/-! statements -/
theorem s_asg {tg e : Expr} {t : Tg} {ie : IE} (he : PE X e (rdE C ie W)) (hg : PG X tg (rdTg C.K t)) (hs : swapsWithSole [tg] e pos.line X.env = pure false := by rfl) (hw : swappedStores [tg] e X.env = pure none := by rfl)
    (h1 : (assignEach [tg] X.env).map (·.2) = [assign tg X.env] := by rfl) : PS X (.Assign [tg] e pos) (rdS C (.asg t ie) W) := ps_asg he hg hs hw h1
theorem s_set {i : Nat} {x : Str} {e : Expr} {ie : IE} (hN : X.N.Nodup) (hi : X.N[i]? = some x) (hx : Loc X.env.scope x) (he : PE X e (rdE C ie W)) (hs : swapsWith e (some (.Name x pos')) pos.line X.env = pure false := by rfl) (hf : X.fn x = true ∨ X.env.scope.names.lookup x = some .local := by first | exact .inl rfl | exact .inr rfl) :
    PS X (.Assign [.Name x pos'] e pos) (rdS C (.asg (.nm i) ie) W) := ps_set hN hi hx he hs hf
theorem s_aug {o : Op2} {op : Operator} {i : Nat} {x : Str} {e : Expr} {ie : IE} (ho : PIp X op (ipO o)) (hN : X.N.Nodup) (hi : X.N[i]? = some x) (hx : Loc X.env.scope x) (he : PE X e (rdE C ie W)) (hf : X.fn x = true ∨ X.env.scope.names.lookup x = some .local := by first | exact .inl rfl | exact .inr rfl) :
    PS X (.AugAssign (.Name x pos') op e pos) (rdS C (.aug i o ie) W) := ps_aug hN hi hx he ho hf
theorem a_add : PIp X .Add (ipO .addI) := ip_add
theorem a_sub : PIp X .Sub (ipO .subI) := ip_sub
theorem s_exp {e : Expr} {ie : IE} (he : PE X e (rdE C ie W)) (hs : swapsWith e none pos.line X.env = pure false := by rfl) : PS X (.Expr e pos) (rdS C (.exp ie) W) := ps_expr he hs
theorem s_app {i : Nat} {x : Str} {e : Expr} {ie : IE} {apos cpos px : Pos} (ok : Ok X C) (h : PE X (.Name x px) (tVar i)) (he : PE X e (rdE C ie W)) (hs : starEach [e] X.env = (false, eval e X.env) :: starEach [] X.env := by rfl)
    (hfew : ((backTo cpos (starEach [e] X.env)).all (fun x => !x.1) && (backToKw cpos (keywordEach [] X.env)).all (fun x => x.1.isSome) && decide ([e].length + ([] : List Keyword).length + (if ([] : List Keyword).isEmpty then 0 else 1) < 30)) = true := by rfl)
    (hbase : attributeBase (.Name x px) "append" X.env (eval (.Name x px) X.env) = eval (.Name x px) X.env := by rfl) (hline : (apos.endLine == cpos.line) = true := by rfl) (hw : swapsWith (.Call (.Attribute (.Name x px) "append" apos) [e] [] cpos) none pos.line X.env = pure false := by rfl) :
    PS X (.Expr (.Call (.Attribute (.Name x px) "append" apos) [e] [] cpos) pos) (rdS C (.app i ie) W) := by
  have g := pe_bm (cpos := cpos) PySem.F.plainAttrs_list PySem.F.slot_list_append PySem.F.type_list_append mt_append h (pa_cons he pa_nil hs) hbase hfew hline hs rfl
  rw [ok.K] at g
  exact ps_expr g hw
theorem s_ins {i : Nat} {x : Str} {e e2 : Expr} {ie ie2 : IE} {apos cpos px : Pos} (ok : Ok X C) (h : PE X (.Name x px) (tVar i)) (he : PE X e (rdE C ie W)) (he2 : PE X e2 (rdE C ie2 W)) (hs : starEach [e, e2] X.env = (false, eval e X.env) :: starEach [e2] X.env := by rfl) (hs2 : starEach [e2] X.env = (false, eval e2 X.env) :: starEach [] X.env := by rfl)
    (hfew : ((backTo cpos (starEach [e, e2] X.env)).all (fun x => !x.1) && (backToKw cpos (keywordEach [] X.env)).all (fun x => x.1.isSome) && decide ([e, e2].length + ([] : List Keyword).length + (if ([] : List Keyword).isEmpty then 0 else 1) < 30)) = true := by rfl)
    (hbase : attributeBase (.Name x px) "insert" X.env (eval (.Name x px) X.env) = eval (.Name x px) X.env := by rfl) (hline : (apos.endLine == cpos.line) = true := by rfl) (hpl : (backTo cpos (starEach [e2] X.env)).any (·.1) = false := by rfl) (hw : swapsWith (.Call (.Attribute (.Name x px) "insert" apos) [e, e2] [] cpos) none pos.line X.env = pure false := by rfl) :
    PS X (.Expr (.Call (.Attribute (.Name x px) "insert" apos) [e, e2] [] cpos) pos) (rdS C (.ins i ie ie2) W) := by
  have g := pe_bm (cpos := cpos) PySem.F.plainAttrs_list PySem.F.slot_list_insert PySem.F.type_list_insert mt_ins h (pa_cons he (pa_cons he2 pa_nil hs2) hs) hbase hfew hline hs hpl
  rw [ok.K] at g
  exact ps_expr g hw
theorem s_clr {i : Nat} {x : Str} {apos cpos px : Pos} (ok : Ok X C) (h : PE X (.Name x px) (tVar i)) (hbase : attributeBase (.Name x px) "clear" X.env (eval (.Name x px) X.env) = eval (.Name x px) X.env := by rfl) (hline : (apos.endLine == cpos.line) = true := by rfl)
    (hw : swapsWith (.Call (.Attribute (.Name x px) "clear" apos) [] [] cpos) none pos.line X.env = pure false := by rfl) : PS X (.Expr (.Call (.Attribute (.Name x px) "clear" apos) [] [] cpos) pos) (rdS C (.clr i) W) := by
  have g := pe_bm0 (cpos := cpos) PySem.F.plainAttrs_list PySem.F.slot_list_clear PySem.F.type_list_clear mt_clear h hbase hline
  rw [ok.K] at g
  exact ps_expr g hw
theorem s_seti {i : Nat} {x : Str} {a e : Expr} {ia ie : IE} {px tp : Pos} (h : PE X (.Name x px) (tVar i)) (ha : PE X a (rdE C ia W)) (he : PE X e (rdE C ie W))
    (hq : ∀ v, assign (.Subscript (.Name x px) a tp) X.env v = (do
      let ov ← holding [v] (eval (.Name x px) X.env)
      let iv ← holding [v, ov] (eval a X.env)
      standAt tp
      holding [v, ov, iv] (setItem ov iv v)
      release [v, ov, iv] []) := by intro _; rfl)
    (hs : swapsWithSole [.Subscript (.Name x px) a tp] e pos.line X.env = pure false := by rfl) (hw : swappedStores [.Subscript (.Name x px) a tp] e X.env = pure none := by rfl)
    (h1 : (assignEach [.Subscript (.Name x px) a tp] X.env).map (·.2) = [assign (.Subscript (.Name x px) a tp) X.env] := by rfl) : PS X (.Assign [.Subscript (.Name x px) a tp] e pos) (rdS C (.seti i ia ie) W) :=
  ps_asg he (pg_sub h ha set_list hq) hs hw h1
theorem s_set2 {i : Nat} {x : Str} {a b e : Expr} {ia ib ie : IE} {px tp tp2 : Pos} (ok : Ok X C) (h : PE X (.Name x px) (tVar i)) (ha : PE X a (rdE C ia W)) (hb : PE X b (rdE C ib W)) (he : PE X e (rdE C ie W)) (hpi : PlainIx a := by exact fun _ _ => rfl)
    (hq : ∀ v, assign (.Subscript (.Subscript (.Name x px) a tp2) b tp) X.env v = (do
      let ov ← holding [v] (eval (.Subscript (.Name x px) a tp2) X.env)
      let iv ← holding [v, ov] (eval b X.env)
      standAt tp
      holding [v, ov, iv] (setItem ov iv v)
      release [v, ov, iv] []) := by intro _; rfl)
    (hs : swapsWithSole [.Subscript (.Subscript (.Name x px) a tp2) b tp] e pos.line X.env = pure false := by rfl) (hw : swappedStores [.Subscript (.Subscript (.Name x px) a tp2) b tp] e X.env = pure none := by rfl)
    (h1 : (assignEach [.Subscript (.Subscript (.Name x px) a tp2) b tp] X.env).map (·.2) = [assign (.Subscript (.Subscript (.Name x px) a tp2) b tp) X.env] := by rfl) : PS X (.Assign [.Subscript (.Subscript (.Name x px) a tp2) b tp] e pos) (rdS C (.set2 i ia ib ie) W) :=
  ps_asg he (pg_sub (d_ix (x_lst ok) (d_var (W := W) h) ha hpi) hb set_list hq) hs hw h1
theorem s_setk {i : Nat} {x : Str} {a e : Expr} {ia ie : IE} {px tp : Pos} (ok : Ok X C) (h : PE X (.Name x px) (tVar i)) (ha : PE X a (rdE C ia W)) (he : PE X e (rdE C ie W)) (hs : swapsWith e (some (.Subscript (.Name x px) a tp)) pos.line X.env = pure false := by rfl) :
    PS X (.Assign [.Subscript (.Name x px) a tp] e pos) (rdS C (.setk i ia ie) W) := ps_dput (by have := ok.hu; omega) h ha he hs
theorem s_setp {i : Nat} {x : Str} {a e : Expr} {ia ie : IE} {px tp : Pos} (ok : Ok X C) (h : PE X (.Name x px) (tVar i)) (ha : PE X a (rdE C ia W)) (he : PE X e (rdE C ie W)) (hs : swapsWith e (some (.Subscript (.Name x px) a tp)) pos.line X.env = pure false := by rfl) :
    PS X (.Assign [.Subscript (.Name x px) a tp] e pos) (rdS C (.setp i ia ie) W) := ps_dput (by have := ok.hu; omega) h ha he hs
theorem s_if {c : Expr} {ic : IE} {a b : List Stmt} {ia ib : ISs} (hc : PT X c (tB (rdE C ic W))) (ha : PSs X a (rdSs C ia W)) (hb : PSs X b (rdSs C ib W)) : PS X (.If c a b pos) (rdS C (.ifs ic ia ib) W) := ps_if hc ha hb
theorem s_whl {c : Expr} {ic : IE} {b : List Stmt} {ib : ISs} (hp : PassesOwn (model X.prog X.w) X.A X.env X.xe) (hc : PT X c (tB (rdE C ic W))) (hb : PSs X b (rdSs C ib W)) : PS X (.While c b [] pos) (rdS C (.whl ic ib) W) := ps_while hp hc hb
theorem lock_ifS {k : Sk} {st : Stmt} {t : TS} (h : PS X st t) : PS X st (lockIfS k t) := by
  cases k with
  | dic i => exact ps_lock h
  | _ => exact h
theorem s_for {k : Sk} {a b c : IE} {t : Tg} {tg iter : Expr} {body : List Stmt} {ib : ISs} (hp : PassesOwn (model X.prog X.w) X.A X.env X.xe) (ok : Ok X C) (hi : PI X tg iter (iSrc C.K k (rdE C a W) (rdE C b W) (rdE C c W))) (hg : PG X tg (rdTg C.K t)) (hb : PSs X body (rdSs C ib W))
    (hs : ∀ x, foldedSetIterable iter X.env x = pure x := by intro _; rfl) : PS X (.For tg iter body [] pos) (rdS C (.for k a b c t ib) W) := lock_ifS (ps_for hp ok.calm hi hg hb hs)
theorem s_ret {e : Expr} {ie : IE} (he : PE X e (rdE C ie W)) : PS X (.Return (some e) pos) (rdS C (.ret ie) W) := ps_ret he
theorem s_retN : PS X (.Return none pos) (rdS C .retN W) := ps_retN
theorem s_rai {c : Nat} {x m : Str} {j : Nat} {px pc : Pos} (ok : Ok X C) (tk : Takes X W) (hx : PySem.W.excIn C.K (C.cls c) [.type "ValueError", .type "Exception", .type "BaseException", .type "object"] "ValueError.__new__" = true) (gx : X.mg x = some (.ref (C.cls c))) (kx : PySem.W.keepIn C.K (.ref (C.cls c)) = true)
    (bx : PySem.W.subIn C.K (.ref (C.cls c)) (.type "BaseException") = some true) (tx : PySem.W.typeIn C.K (.ref (C.cls c)) = some (.type "type")) (hg : Gl X x := by rfl) (hdb : (x == ("__debug__" : Str)) = false := by decide) :
    PS X (.Raise (some (.Call (.Name x px) [.Constant (.str m) j p2] [] pc)) none pos) (rdS C (.rai c) W) := by
  rw [← ok.K] at hx kx bx tx
  exact ps_raise ok.calm tk (pmk_own PySem.F.excBase_ValueError hx gx kx (raises_own bx tx) hg hdb)
theorem ss_nil : PSs X [] (rdSs C .nil W) := pss_nil
theorem ss_cons {st : Stmt} {rest : List Stmt} {s : IS} {r : ISs} (h1 : PS X st (rdS C s W)) (h2 : PSs X rest (rdSs C r W)) : PSs X (st :: rest) (rdSs C (.cons s r) W) := pss_cons h1 h2
end
end TW

namespace TW
open PySem PySem.Spec PyProof.Rows L2
section
variable {X : Cx} {C : Ctx} {W : WX} {pos p q p2 pos' : Pos}
theorem d_sortK {a : Expr} {ia : IE} (ok : Ok X C) (hm : X.mg "sorted" = none) (ha : PE X a (rdE C ia W)) (hg : Gl X "sorted" := by rfl) (hs : starEach [a] X.env = (false, eval a X.env) :: starEach [] X.env := by rfl) : PE X (.Call (.Name "sorted" p) [a] [] pos) (rdE C (.op1 .sortK ia) W) := by
  have h := pe_callB (p := p) (pos := pos) (call_sortedDI (X := X) ok.calm) hg hm boot_sorted (pa_cons ha pa_nil hs) (he := hs)
  exact h
theorem d_listK {a : Expr} {ia : IE} (ok : Ok X C) (hm : X.mg "list" = none) (ha : PE X a (rdE C ia W)) (hg : Gl X "list" := by rfl) (hs : starEach [a] X.env = (false, eval a X.env) :: starEach [] X.env := by rfl) : PE X (.Call (.Name "list" p) [a] [] pos) (rdE C (.op1 .listK ia) W) := by
  have h := pe_callTy (p := p) (pos := pos) (call_list_dK (X := X) ok.calm) hg hm boot_list (pa_cons ha pa_nil hs) (he := hs)
  exact h
theorem d_rngL {a : Expr} {ia : IE} (ok : Ok X C) (hm : X.mg "list" = none) (hm2 : X.mg "range" = none) (ha : PE X a (rdE C ia W)) (hg : Gl X "list" := by rfl) (hg2 : Gl X "range" := by rfl) (hs : starEach [a] X.env = (false, eval a X.env) :: starEach [] X.env := by rfl)
    (hs2 : starEach [.Call (.Name "range" p2) [a] [] q] X.env = (false, eval (.Call (.Name "range" p2) [a] [] q) X.env) :: starEach [] X.env := by rfl) : PE X (.Call (.Name "list" p) [.Call (.Name "range" p2) [a] [] q] [] pos) (rdE C (.op1 .rngL ia) W) := by
  have h := pe_listRg (p := p) (pos := pos) ok.calm hg hm (prg_1 (p := p2) (pos := q) hg2 hm2 ha hs) hs2
  refine ⟨fun pins s σ H Q I hw => h.run pins s σ H Q I ?_⟩
  show rdE C ia W σ H _
  have e : (fun x H1 => r1 C.K .rngL x H1 Q) = fun (x : V) (H1 : Hp) => ∃ n, x = V.int n ∧ RgOk 0 n ∧ ∀ q, H1 q = none → Q (.ref q) (upd H1 q (.lst (rgV 0 n))) := rfl
  have hw : rdE C ia W σ H fun x H1 => r1 C.K .rngL x H1 Q := hw
  rw [e] at hw
  exact hw
theorem pg_getL : PGet X (rIxL X.K) := by
  intro pins s σ H x y v u Q I rx ry h
  obtain ⟨p, xs, i, z, rfl, rfl, hq, he, q⟩ := h
  cases rx
  obtain ⟨t, rfl⟩ := ry
  obtain ⟨its, r, pl, hz⟩ := I.list hq
  obtain ⟨j, h1, h2, h3, h4, h5⟩ := atI_get he
  obtain ⟨w, ew, rw'⟩ := r.get h2
  have hl := r.length
  have hn := line63
  have fin : EP X pins σ Q w s := ⟨z, H, I, rw', q⟩
  by_cases h0 : 0 ≤ i
  · have hj : i.toNat = j := by
      rw [seqIndex_of h0 h5] at h1
      exact Option.some.inj h1
    exact wpAny_getItem_list pl.isList h0 (by omega) (by rw [hj]; simpa using ew) fin
  · have hj : (i + (its.toArray.size : Int)).toNat = j := by
      rw [seqIndex_neg (by omega) h4] at h1
      rw [List.size_toArray, ← hl]
      exact Option.some.inj h1
    exact wpAny_getItem_list_neg pl.isList (by omega) (by rw [List.size_toArray] <;> omega) (by omega) (by rw [hj]; simpa using ew) fin
theorem s_augi {o : Op2} {op : Operator} {i : Nat} {x : Str} {a e : Expr} {ia ie : IE} {px tp : Pos} (ok : Ok X C) (ho : PIp X op (ipO o)) (h : PE X (.Name x px) (tVar i)) (ha : PE X a (rdE C ia W)) (he : PE X e (rdE C ie W))
    (hq : ∀ ov iv new, augStore a ov iv new = (do holding [new, ov, iv] (setItem ov iv new); release [new, ov, iv] []; pure .next) := by intros; rfl) :
    PS X (.AugAssign (.Subscript (.Name x px) a tp) op e pos) (rdS C (.augi i ia o ie) W) := by
  have g := ps_augS (pos := pos) (tpos := tp) h ha pg_getL he ho set_list hq
  rw [ok.K] at g
  exact g
theorem s_aug2 {o : Op2} {op : Operator} {i : Nat} {k l : Int} {ox ix e : Expr} {ie : IE} {tp : Pos} (ok : Ok X C) (ho : PIp X op (ipO o)) (h : PE X ox (rdE C (.op2 .subL (.var i) (.cst (.int k))) W)) (ha : PE X ix (rdE C (.cst (.int l)) W)) (he : PE X e (rdE C ie W))
    (hq : ∀ ov iv new, augStore ix ov iv new = (do holding [new, ov, iv] (setItem ov iv new); release [new, ov, iv] []; pure .next) := by intros; rfl) :
    PS X (.AugAssign (.Subscript ox ix tp) op e pos) (rdS C (.aug2 i k l o ie) W) := by
  have g := ps_augS (pos := pos) (tpos := tp) h ha pg_getL he ho set_list hq
  rw [ok.K] at g
  exact g
theorem s_forC {a c : IE} {t : Tg} {d : D} {st : Stmt} (h : PS X st (rdS C (.for .lst a (.cst .non) (.cst .non) t (.cons (.ifs c (.cons (.ret (.cst d)) .nil) .nil) .nil)) W)) : PS X st (rdS C (.forC a t c d) W) := h
theorem d_catD {i j : Nat} {e : Expr} (h : PE X e (rdE C (.op2 .cat (.var i) (.var j)) W)) : PE X e (rdE C (.catD i j) W) := h
theorem d_idxV {i : Nat} {ie : IE} {e : Expr} (h : PE X e (rdE C (.op2 .subL (.var i) ie) W)) : PE X e (rdE C (.idxV i ie) W) := h
theorem s_appT {i t : Nat} {c : IE} {d : D} {st : Stmt} (h : PS X st (rdS C (.for .lst (.var i) (.cst .non) (.cst .non) (.nm t) (.cons (.ifs c (.cons (.ret (.cst (.bl false))) .nil) .nil) (.cons (.app t (.cst d)) .nil))) W)) : PS X st (rdS C (.appT i t c d) W) := h
theorem s_appA {i t : Nat} {d : D} {st : Stmt} (h : PS X st (rdS C (.for .lst (.var i) (.cst .non) (.cst .non) (.nm t) (.cons (.app t (.cst d)) .nil)) W)) : PS X st (rdS C (.appA i t d) W) := h
theorem d_cnt {b e : Expr} {ib ie : IE} {apos cpos : Pos} (ok : Ok X C) (h : PE X b (rdE C ib W)) (he : PE X e (rdE C ie W)) (hs : starEach [e] X.env = (false, eval e X.env) :: starEach [] X.env := by rfl)
    (hfew : ((backTo cpos (starEach [e] X.env)).all (fun x => !x.1) && (backToKw cpos (keywordEach [] X.env)).all (fun x => x.1.isSome) && decide ([e].length + ([] : List Keyword).length + (if ([] : List Keyword).isEmpty then 0 else 1) < 30)) = true := by rfl)
    (hbase : attributeBase b "count" X.env (eval b X.env) = eval b X.env := by rfl) (hline : (apos.endLine == cpos.line) = true := by rfl) :
    PE X (.Call (.Attribute b "count" apos) [e] [] cpos) (rdE C (.mth .cnt ib ie) W) := by
  have g := pe_bm (cpos := cpos) PySem.F.plainAttrs_list PySem.F.slot_list_count PySem.F.type_list_count mt_lcount h (pa_cons he pa_nil hs) hbase hfew hline hs rfl
  rw [ok.K] at g; exact g
def eqb (k : Bool) (v : Value) : Bool := match v with
  | .bool n => n == k
  | _ => false
theorem bools_vals : ∀ {bs : List Bool} {us : List Value}, Vals (bs.map V.bl) us → us = bs.map Value.bool
  | [], _, .nil => rfl
  | b :: bs, _, .cons r t => by
    have e : _ = Value.bool b := r
    subst e
    rw [bools_vals t]; rfl
theorem eqb_count {k : Bool} : ∀ {bs : List Bool}, (bs.map Value.bool).countP (eqb k) = bs.count k
  | [] => rfl
  | b :: bs => by
    rw [List.map_cons, List.countP_cons, List.count_cons, eqb_count] <;> rfl
theorem mt_lcountB : MtR X "list.count" (rCntB X.K) := by
  intro pins s σ H x xs v us Q I rx rxs h
  obtain ⟨p, ns, k, rfl, rfl, hs, q⟩ := h
  cases rx
  obtain ⟨u, rfl, ru⟩ := rxs.one
  have ru : u = .bool k := ru
  subst ru
  obtain ⟨its, rv, ⟨⟨cls, dd, data, sl⟩, n, ho, hc, hdn, hd⟩, hlen⟩ := I.list hs
  simp only at hc hd
  subst hc hd
  have hi := bools_vals rv
  subst hi
  refine call_meets PySem.F.slot_list_count ⟨_, ho, rfl⟩ PySem.F.entry_list_count (PySem.F.args_list_count_2 _ _)
    (SeqAt.list_countAt p (ns.map Value.bool).toArray n dd sl (.bool k) (eqb k)) ⟨ho, fun y hy => ?_, ?_⟩
  · have hy : y ∈ ns.map Value.bool := by simpa using hy
    obtain ⟨b, _, rfl⟩ := List.mem_map.mp hy
    exact SeqAt.EqAt.bool_bool b k
  have ec : (ns.map Value.bool).toArray.toList.countP (eqb k) = ns.count k := eqb_count
  refine ⟨.int (ns.count k : Nat), H, I.tok _, ⟨s.toks, ?_⟩, q⟩
  show Value.int (((ns.map Value.bool).toArray.toList.countP (eqb k) : Nat) : Int) s.toks = Value.int ((ns.count k : Nat) : Int) s.toks
  rw [ec]
theorem d_cntB {b e : Expr} {ib ie : IE} {apos cpos : Pos} (ok : Ok X C) (h : PE X b (rdE C ib W)) (he : PE X e (rdE C ie W)) (hs : starEach [e] X.env = (false, eval e X.env) :: starEach [] X.env := by rfl)
    (hfew : ((backTo cpos (starEach [e] X.env)).all (fun x => !x.1) && (backToKw cpos (keywordEach [] X.env)).all (fun x => x.1.isSome) && decide ([e].length + ([] : List Keyword).length + (if ([] : List Keyword).isEmpty then 0 else 1) < 30)) = true := by rfl)
    (hbase : attributeBase b "count" X.env (eval b X.env) = eval b X.env := by rfl) (hline : (apos.endLine == cpos.line) = true := by rfl) :
    PE X (.Call (.Attribute b "count" apos) [e] [] cpos) (rdE C (.mth .cntB ib ie) W) := by
  have g := pe_bm (cpos := cpos) PySem.F.plainAttrs_list PySem.F.slot_list_count PySem.F.type_list_count mt_lcountB h (pa_cons he pa_nil hs) hbase hfew hline hs rfl
  rw [ok.K] at g; exact g
/-- what is never reached may be anything -/
theorem ss_dead {b : List Stmt} : PSs X b (rdSs C (.cons .dead .nil) W) := ⟨fun pins s σ H D I h => (show False from h).elim⟩
theorem ss_frz {i : Nat} {b : List Stmt} {r : ISs} (h : PSs X b (rdSs C r W)) : PSs X b (rdSs C (.frz i r) W) := h
end
end TW

/-! ## a law's defs -/
namespace TW
open PySem PySem.Spec PyProof.Rows L2
abbrev Cn (defs : Nat → IDef) (K : PySem.W.Frag) (T : List NdefX.NTab) (n : Nat) : Ctx := ⟨K, T, sems defs n⟩
theorem sig_ok (defs : Nat → IDef) (K : PySem.W.Frag) (T : List NdefX.NTab) (n : Nat) : SigOk (Cn defs K T n) fun f => (defs f).sig := fun f => by
  cases n with
  | zero => exact .inl fun _ => rfl
  | succ n => exact .inr ⟨rfl, rfl, rfl⟩
/-- what a caller knows of a def -/
structure Cal (defs : Nat → IDef) (P : Program) (w : World) (K : PySem.W.Frag) (mg : Str → Option Value) (base : Heap) (T : List NdefX.NTab) (n f : Nat) (x : Str) (a : Addr) (fd : FuncData) (ps : List Str) : Prop where
  F : FnOk P w K mg base (L2.CX P w) (4 * n + 1) a fd ps (spF (Cn defs K T n) (sems defs n f))
  g : mg x = some (.ref a)
  k : PySem.W.keepIn K (.ref a) = true
  b : Binds K fd ps []
/-- what is known of an exception's class -/
structure Exc (K : PySem.W.Frag) (mg : Str → Option Value) (x : Str) (a : Addr) : Prop where
  e : PySem.W.excIn K a [.type "ValueError", .type "Exception", .type "BaseException", .type "object"] "ValueError.__new__" = true
  g : mg x = some (.ref a)
  k : PySem.W.keepIn K (.ref a) = true
  b : PySem.W.subIn K (.ref a) (.type "BaseException") = some true
  t : PySem.W.typeIn K (.ref a) = some (.type "type")
/-- a module's number -/
theorem d_glob {X : Cx} {C : Ctx} {W : WX} {pos : Pos} {x : Str} {i : Int} (h : ∃ t, X.mg x = some (.int i t)) (hg : Gl X x := by rfl) (hd : (x == ("__debug__" : Str)) = false := by decide) : PE X (.Name x pos) (rdE C (.cst (.int i)) W) := by
  obtain ⟨t, hm⟩ := h
  refine ⟨fun pins s σ H Q I hw => ?_⟩
  obtain ⟨v, hv, q⟩ := hw
  cases hv
  exact ld_glob I hg hm ⟨.int i, H, I, ⟨t, rfl⟩, q⟩ hd
theorem d_dic1 {X : Cx} {C : Ctx} {W : WX} {pos : Pos} {k v : Expr} {a b : IE} (hk : PE X k (rdE C a W)) (hv : PE X v (rdE C b W)) : PE X (.Dict [some k] [v] pos) (rdE C (.dic1 a b) W) := pe_disp (pps_cons hk hv pps_nil) rfl rfl (by simp) (by simp)
end TW

namespace TW
open PySem PySem.Spec PyProof.Rows L2
abbrev FnP (K : PySem.W.Frag) (x : Str) (st : Stmt) (f : Addr) (fd : FuncData) : Prop := FunD K x x (defArgs st) (defBody st) (defScope st) [] [] f fd
theorem fn_okD {P : Program} {w : World} {mg : Str → Option Value} {base : Heap} {C : Ctx} {sg : Nat → Sig} (so : SigOk C sg) {d : IDef} (ok : d.ok sg = true) {x : Str} {st : Stmt} {f : Addr} {fd : FuncData} {N ps : List Str} {k : Nat}
    (F : FnP C.K x st f fd) (S : FnScope N ps (defScope st)) (hN : N.length = d.ns) (hp : ps.length = d.np)
    (der : ∀ (cdv : Value) (A : Around) (outer : List PySem.Env) (s : Shared) (H : Hp) (E : XK), Room k (A.deeper (envOfC x (defScope st) s.heap.objs.size f cdv)) →
      PSs (cxOf (L2.CX P w) P w C.K mg base N x (defScope st) f cdv A outer s H E) (defBody st) (rdSs C d.body (WOf E))) : FnOk P w C.K mg base (L2.CX P w) (k + 1) f fd ps (spF C (semOf C.Φ d)) :=
  F.ok S (fun vs H Q E h => by obtain ⟨ds, B, F, hl, hv, _⟩ := h; rw [hp]; exact hv) fun cdv A outer s H vs Q E hr h => ⟨_, der cdv A outer s H E hr, body_ok so ok hN h⟩
theorem fn_noD {P : Program} {w : World} {mg : Str → Option Value} {base : Heap} {C : Ctx} {x : Str} {st : Stmt} {f : Addr} {fd : FuncData} {N ps : List Str} {k : Nat}
    (F : FnP C.K x st f fd) (S : FnScope N ps (defScope st)) : FnOk P w C.K mg base (L2.CX P w) (k + 1) f fd ps (spF C noSem) :=
  F.ok S (fun vs H Q E h => by obtain ⟨ds, B, F, _, _, _, _, h⟩ := h; exact h.elim) fun cdv A outer s H vs Q E hr h => by obtain ⟨ds, B, F, _, _, _, _, h⟩ := h; exact h.elim
/-- the law's own call: what it reckons is what comes out -/
theorem law_sp {C : Ctx} {fs : FnSem} (hT : C.T = []) (hp : fs.np = 1) (hk : fs.pk 0 = .sh) (hr : fs.rk = .im) {ns : List Int} {ms : Env} (h : fs.run [.scr ns] = .ok (.bl true, ms)) {H : Hp} {a : Addr} (hs : SqL C.K H a (ns.map V.int)) :
    spF C fs [.ref a] H (fun v _ => v = .bl true) fun _ _ _ => False := by
  have tab : NdefX.TabsN C.T H := by rw [hT]; intro p hp; cases hp
  refine ⟨[.scr ns], vis H Nil, fun _ => [], by rw [hp]; rfl, by rw [hp]; rfl, Sta.args vis_sub tab ?_ fun i hi => ?_, fun _ _ => rfl, ?_⟩
  · exact ⟨.ref a, [], rfl, ⟨a, rfl, vis_ext.sq hs⟩, rfl⟩
  · have : i = 0 := by simp at hi; exact hi
    subst this; exact hk
  · rw [h]
    intro v B' H' F' f st sta has
    have r := has.rep
    rw [hr] at r
    simp only [vrep, scV, Option.some.injEq] at r
    exact r.1.symm
theorem exc_mk {K : PySem.W.Frag} {h : Heap} {mg : Str → Option Value} {x : Str} (X : K.In h) (G : h.Ns mainGlobals mg) (c : (He.Fa.exc x).ok K = true) (g : (He.Fa.glo x).ok K = true) : Exc K mg x (He.ga K x) := by
  obtain ⟨h1, h2, h3, h4⟩ := He.exc_ok c
  exact ⟨h1, He.glo_ok X G g, h2, h3, h4⟩
section
variable {K : PySem.W.Frag} {T : List NdefX.NTab} {Φ Ψ : Nat → FnSem}
theorem Sta.re {ks : Nat → Kind} {pin : Nat → Option V} {B H : Hp} {σ : L2.St} {ρ : Env} {F : Nat → List Addr} (s : Sta ⟨K, T, Φ⟩ ks pin B H σ ρ F) : Sta ⟨K, T, Ψ⟩ ks pin B H σ ρ F := ⟨s.len, s.sub, s.tab, s.rep, s.nf, s.dj, s.nB, s.pin⟩
theorem Has.re {B H : Hp} {F : Nat → List Addr} {k : Kind} {d : D} {v : V} {f : List Addr} (h : Has ⟨K, T, Φ⟩ B H F k d v f) : Has ⟨K, T, Ψ⟩ B H F k d v f := ⟨h.rep, h.dj, h.nB⟩
theorem spF_imp {fs : FnSem} {vs : List V} {H : Hp} {Q : VK} {E : XK} (h : spF ⟨K, T, Φ⟩ fs vs H Q E) : spF ⟨K, T, Ψ⟩ fs vs H Q E := by
  obtain ⟨ds, B, F, h1, h2, sta, h3, h⟩ := h
  refine ⟨ds, B, F, h1, h2, sta.re, h3, ?_⟩
  cases er : fs.run ds with
  | bad => rw [er] at h; exact h
  | exc c => rw [er] at h; exact h
  | ok q =>
    obtain ⟨d, ms⟩ := q
    rw [er] at h
    exact fun v B' H' F' f st sta has => h v B' H' F' f st sta.re has.re
/-- a promise has nothing of the other defs -/
theorem spF_eq {fs : FnSem} : spF ⟨K, T, Φ⟩ fs = spF ⟨K, T, Ψ⟩ fs := by
  funext vs H Q E
  exact propext ⟨spF_imp, spF_imp⟩
end
theorem walk_ofEB {l : PySem.W.OpenLaw} {n k : Nat} {q : Program} {loose : List Str} {XP : (Str → Option Value) → Heap → Prop} {YP : World → Heap → Prop} {d : DefRec} {CX : World → CXT} {x : Str}
    (hn : l.most = some n) (hn2 : n ≤ sizeLine) (hdf : d.params.defaults = []) (hr : Room k callerA)
    (F : ∀ (w : World) (mg : Str → Option Value) (fa : Addr) (h : Heap), YP w h → h.Ns mainGlobals mg → mg d.name = some (.ref fa) →
      ∃ (K : PySem.W.Frag) (fd : FuncData) (sp : Sp), K.In h ∧ (∀ (s : Shared) (u : Value), BindsTo s fd ⟨[u], []⟩ [(x, u)]) ∧
        (∀ (H : Hp) (a : Addr) (ns : List Int), ns.length ≤ n → (∀ z ∈ ns, Builtin.Int.intBits z ≤ 1048576) → SqL K H a (ns.map V.int) → sp [.ref a] H (fun v _ => v = .bl true) fun _ _ _ => False) ∧
        ∀ base : Heap, K.In base → base.Ns mainGlobals mg → FnOk l.prog w K mg base (CX w) k fa fd [x] sp)
    (hCX : ∀ (w : World) (H : Hp) (s : Shared) (e : Value) (s' : Shared), CX w [] H s (fun _ _ _ => False) e s' → False) :
    PySem.W.WalkO q loose XP YP l.row.toRowW d [] (fun f vs => PySem.call f vs) := by
  refine Att.attach_callB hn hdf fun w s₀ s₁ mg mb fa o pm cd doc a vs ns G Y ho hd hcd hmg hobj hints hlen hbits hg => ?_
  obtain ⟨K, fd, sp, KX, hb, hsp, hF⟩ := F w mg fa _ Y G.T.g hmg
  exact law_call KX G.T.g G.T.b G.T.builtins G.T.nolimit hg hobj hints (Nat.le_trans hlen hn2) hr hF hb (fun H hO hS => hsp H a ns hlen hbits hS) fun H e s' => hCX w H s₁ e s'
theorem cx_no {P : Program} (w : World) (H : Hp) (s : Shared) (e : Value) (s' : Shared) (h : L2.CX P w [] H s (fun _ _ _ => False) e s') : False := by
  obtain ⟨_, _, _, _, _, _, _, _, _, _, _, _, z⟩ := h
  exact z
end TW

/-! ## texts: the readings in the terms' words -/
namespace TW
open PySem PySem.Spec PyProof.Rows L2
section
variable {X : Cx} {C : Ctx} {W : WX} {pos p q : Pos}
theorem d_strI {a : Expr} {ia : IE} (hm : X.mg "str" = none) (ha : PE X a (rdE C ia W)) (hg : Gl X "str" := by rfl) (hs : starEach [a] X.env = (false, eval a X.env) :: starEach [] X.env := by rfl) : PE X (.Call (.Name "str" p) [a] [] pos) (rdE C (.t1 .strI ia) W) := by
  have h := pe_callTy (p := p) (pos := pos) (call_str_int (X := X)) hg hm PySem.Pv.boot_str (pa_cons ha pa_nil hs) (he := hs)
  exact h
theorem d_intS {a : Expr} {ia : IE} (hm : X.mg "int" = none) (ha : PE X a (rdE C ia W)) (hg : Gl X "int" := by rfl) (hs : starEach [a] X.env = (false, eval a X.env) :: starEach [] X.env := by rfl) : PE X (.Call (.Name "int" p) [a] [] pos) (rdE C (.t1 .intS ia) W) := by
  have h := pe_callTy (p := p) (pos := pos) (call_int_str (X := X)) hg hm boot_int (pa_cons ha pa_nil hs) (he := hs)
  exact h
theorem d_upper {o : Expr} {io : IE} {apos : Pos} (ho : PE X o (rdE C io W)) (hbase : attributeBase o "upper" X.env (eval o X.env) = eval o X.env := by rfl) (hline : (apos.endLine == pos.line) = true := by rfl) :
    PE X (.Call (.Attribute o "upper" apos) [] [] pos) (rdE C (.t1 .upper io) W) := pe_upper ho hbase hline
theorem d_split {o e : Expr} {io ie : IE} {apos : Pos} (ho : PE X o (rdE C io W)) (he : PE X e (rdE C ie W)) (hs : starEach [e] X.env = [(false, eval e X.env)] := by rfl) (hbase : attributeBase o "split" X.env (eval o X.env) = eval o X.env := by rfl) (hline : (apos.endLine == pos.line) = true := by rfl) :
    PE X (.Call (.Attribute o "split" apos) [e] [] pos) (rdE C (.t2 .split io ie) W) := pe_split ho he hs hbase hline
theorem d_join {o e : Expr} {io ie : IE} {apos : Pos} (ok : Ok X C) (ho : PE X o (rdE C io W)) (he : PE X e (rdE C ie W)) (hs : starEach [e] X.env = [(false, eval e X.env)] := by rfl) (hbase : attributeBase o "join" X.env (eval o X.env) = eval o X.env := by rfl) (hline : (apos.endLine == pos.line) = true := by rfl) :
    PE X (.Call (.Attribute o "join" apos) [e] [] pos) (rdE C (.t2 .join io ie) W) := by
  have h := pe_join (pos := pos) ho he hs hbase hline
  rw [ok.K] at h
  exact h
theorem d_starts {o e : Expr} {io ie : IE} {apos : Pos} (ho : PE X o (rdE C io W)) (he : PE X e (rdE C ie W)) (hs : starEach [e] X.env = [(false, eval e X.env)] := by rfl) (hbase : attributeBase o "startswith" X.env (eval o X.env) = eval o X.env := by rfl) (hline : (apos.endLine == pos.line) = true := by rfl) :
    PE X (.Call (.Attribute o "startswith" apos) [e] [] pos) (rdE C (.t2 .starts io ie) W) := pe_m1 PySem.F.slot_str_startswith PySem.F.type_str_startswith mt_startswith ho he hs hbase hline
theorem d_inS {a b : Expr} {ia ib : IE} (ha : PE X a (rdE C ia W)) (hb : PE X b (rdE C ib W)) (hm : behindInMarks .In b = false) : PE X (.Compare a [.In] [b] pos) (rdE C (.t2 .inS ia ib) W) := pe_cmpR op_in_sign ha hb hm
theorem d_ninS {a b : Expr} {ia ib : IE} (ha : PE X a (rdE C ia W)) (hb : PE X b (rdE C ib W)) (hm : behindInMarks .NotIn b = false) : PE X (.Compare a [.NotIn] [b] pos) (rdE C (.t2 .ninS ia ib) W) := pe_cmpR op_notIn_sign ha hb hm
theorem o_addS : OpR X (binaryOp .Add) (r2 C.K .addS) := op_add_str
theorem p_inS {a b : Expr} {ia ib : IE} (ha : PE X a (rdE C ia W)) (hb : PE X b (rdE C ib W)) (hm : behindInMarks .In b = false) : PT X (.Compare a [.In] [b] pos) (tB (rdE C (.t2 .inS ia ib) W)) := pt_cmpR op_in_sign ha hb hm
theorem p_ninS {a b : Expr} {ia ib : IE} (ha : PE X a (rdE C ia W)) (hb : PE X b (rdE C ib W)) (hm : behindInMarks .NotIn b = false) : PT X (.Compare a [.NotIn] [b] pos) (tB (rdE C (.t2 .ninS ia ib) W)) := pt_cmpR op_notIn_sign ha hb hm
theorem d_sLo {a b : Expr} {ia ib : IE} {p2 : Pos} (ha : PE X a (rdE C ia W)) (hb : PE X b (rdE C ib W)) : PE X (.Subscript a (.Slice (some b) none none p2) pos) (rdE C (.t2 .lo ia ib) W) :=
  pe_slice (pos := pos) (p2 := p2) (sl_str (X := X)) ha (po_some hb) po_none
theorem d_sHi {a b : Expr} {ia ib : IE} {p2 : Pos} (ha : PE X a (rdE C ia W)) (hb : PE X b (rdE C ib W)) : PE X (.Subscript a (.Slice none (some b) none p2) pos) (rdE C (.t2 .hi ia ib) W) :=
  pe_slice (pos := pos) (p2 := p2) (sl_str (X := X)) ha po_none (po_some hb)
theorem d_t3 {a b c : Expr} {ia ib ic : IE} {p2 : Pos} (ha : PE X a (rdE C ia W)) (hb : PE X b (rdE C ib W)) (hc : PE X c (rdE C ic W)) : PE X (.Subscript a (.Slice (some b) (some c) none p2) pos) (rdE C (.t3 ia ib ic) W) :=
  pe_slice (pos := pos) (p2 := p2) (sl_str (X := X)) ha (po_some hb) (po_some hc)
theorem x_str : IxR X (r2 C.K .subS) := ix_str
theorem i_str {tg l : Expr} {ia : IE} {b c : IE} (hl : PE X l (rdE C ia W)) : PI X tg l (iSrc C.K .str (rdE C ia W) (rdE C b W) (rdE C c W)) := pi_str hl
theorem d_globS {x z : Str} (h : ∃ t, X.mg x = some (.str z t)) (hg : Gl X x := by rfl) (hd : (x == ("__debug__" : Str)) = false := by decide) : PE X (.Name x pos) (rdE C (.cst (.str z)) W) := by
  refine ⟨fun pins s σ H Q I h2 => ?_⟩
  obtain ⟨w, hw, q⟩ := h2
  obtain ⟨t, hm⟩ := h
  cases hw
  exact ld_glob I hg hm ⟨.str z, H, I, ⟨t, rfl⟩, q⟩ hd
end
end TW

namespace TW
open PySem
def d_are_unlike_places : IDef := ⟨2, 3, [.sh, .sh, .sh], .im, (.cons (.for .lst (.var 1) (.cst .non) (.cst .non) (.nm 2) (.cons (.ifs (.or (.op2 .lt (.var 2) (.cst (.int 0))) (.op2 .ge (.var 2) (.var 0))) (.cons (.ret (.cst (.bl false))) .nil) .nil) .nil)) (.cons (.ret (.op2 .eqI (.op1 .lenSet (.var 1)) (.op1 .len (.var 1)))) .nil))⟩
def d_steps_from : IDef := ⟨2, 6, [.sh, .sh, .top, .sh, .sh, .sh], .top, (.cons (.asg (.nm 2) (.lst .nil)) (.cons (.for .lst (.var 0) (.cst .non) (.cst .non) (.lsp [3, 4, 5]) (.cons (.ifs (.op2 .eqI (.var 3) (.var 1)) (.cons (.app 2 (.tup (.cons (.op1 .sc (.var 4)) (.cons (.op1 .sc (.var 5)) .nil)))) .nil) .nil) (.cons (.ifs (.op2 .eqI (.var 4) (.var 1)) (.cons (.app 2 (.tup (.cons (.op1 .sc (.var 3)) (.cons (.op1 .sc (.var 5)) .nil)))) .nil) .nil) .nil))) (.cons (.ret (.mv 2)) .nil)))⟩
def d_spread : IDef := ⟨3, 8, [.sh, .sh, .sh, .top, .top, .sh, .sh, .sh], .top, (.cons (.asg (.nm 3) (.dic1 (.op1 .sc (.var 1)) (.op1 .sc (.var 1)))) (.cons (.asg (.nm 4) (.lst (.cons (.op1 .sc (.var 1)) .nil))) (.cons (.asg (.nm 5) (.cst (.int 0))) (.cons (.whl (.op2 .lt (.var 5) (.op1 .len (.var 4))) (.cons (.for .lst (.call 1 (.cons (.var 0) (.cons (.op1 .sc (.op2 .subL (.var 4) (.var 5))) .nil))) (.cst .non) (.cst .non) (.tup [6, 7]) (.cons (.ifs (.and (.op2 .ninK (.var 6) (.var 3)) (.op2 .ninL (.var 6) (.var 2))) (.cons (.setk 3 (.op1 .sc (.var 6)) (.op1 .sc (.op2 .subL (.var 4) (.var 5)))) (.cons (.app 4 (.op1 .sc (.var 6))) .nil)) .nil) .nil)) (.cons (.aug 5 .addI (.cst (.int 1))) .nil))) (.cons (.ret (.mv 3)) .nil)))))⟩
def d_is_tree : IDef := ⟨2, 3, [.sh, .sh, .sh], .im, (.cons (.ifs (.or (.op2 .lt (.var 0) (.cst (.int 1))) (.or (.op2 .gt (.var 0) (.cst (.int 12))) (.op2 .neI (.op1 .len (.var 1)) (.op2 .subI (.var 0) (.cst (.int 1)))))) (.cons (.ret (.cst (.bl false))) .nil) .nil) (.cons (.for .lst (.var 1) (.cst .non) (.cst .non) (.nm 2) (.cons (.ifs (.or (.op2 .neI (.op1 .len (.var 2)) (.cst (.int 3))) (.or (.op2 .lt (.op2 .subL (.var 2) (.cst (.int 2))) (.cst (.int 1))) (.not (.call 0 (.cons (.op1 .sc (.var 0)) (.cons (.op1 .scl (.op2 .slcHi (.var 2) (.cst (.int 2)))) .nil)))))) (.cons (.ret (.cst (.bl false))) .nil) .nil) .nil)) (.cons (.ret (.op2 .eqI (.op1 .len (.call 2 (.cons (.var 1) (.cons (.cst (.int 0)) (.cons (.lst .nil) .nil))))) (.var 0))) .nil)))⟩
def d__law_mix : IDef := ⟨2, 3, [.sh, .sh, .sh], .im, (.cons (.asg (.nm 2) (.op2 .mod (.op2 .mulI (.op2 .addI (.op2 .addI (.op2 .mulI (.var 0) (.var 0)) (.op2 .mulI (.var 1) (.var 0))) (.op2 .mulI (.op2 .mulI (.cst (.int 7)) (.var 1)) (.var 1))) (.cst (.int 1103515245))) (.cst (.int 2147483629)))) (.cons (.ret (.op2 .mod (.op2 .mulI (.var 2) (.var 2)) (.cst (.int 2147483587)))) .nil))⟩
def d__law_whole : IDef := ⟨1, 1, [.sh], .im, (.cons (.ret (.op1 .sc (.and (.op1 .isInt (.var 0)) (.not (.op1 .isBool (.var 0)))))) .nil)⟩
def d__law_cell_at : IDef := ⟨2, 2, [.sh, .sh], .im, (.cons (.ifs (.op2 .lt (.var 1) (.op1 .len (.var 0))) (.cons (.ret (.op1 .sc (.op2 .subL (.var 0) (.var 1)))) .nil) .nil) (.cons (.ret (.cst (.int 0))) .nil))⟩
def d__law_older : IDef := ⟨2, 3, [.sh, .sh, .sh], .im, (.cons (.asg (.nm 2) (.call 4 (.cons (.op2 .addI (.op2 .fdiv (.var 0) (.cst (.int 5))) (.op2 .mulI (.var 1) (.var 1))) (.cons (.cst (.int 1)) .nil)))) (.cons (.ret (.op1 .sc (.op2 .subL (.lst (.cons (.op2 .subI (.var 1) (.cst (.int 1))) (.cons (.cst (.int 0)) (.cons (.op2 .mod (.var 2) (.var 1)) (.cons (.op2 .max2 (.cst (.int 0)) (.op2 .subI (.op2 .subI (.var 1) (.cst (.int 1))) (.op2 .mod (.var 2) (.cst (.int 3))))) (.cons (.op2 .fdiv (.op2 .subI (.var 1) (.cst (.int 1))) (.cst (.int 2))) .nil)))))) (.op2 .mod (.var 0) (.cst (.int 5)))))) .nil))⟩
def d__law_size_8 : IDef := ⟨2, 4, [.sh, .sh, .sh, .sh], .im, (.cons (.asg (.nm 2) (.call 4 (.cons (.op2 .addI (.var 0) (.op2 .mulI (.op2 .mulI (.cst (.int 3)) (.var 1)) (.var 1))) (.cons (.cst (.int 2)) .nil)))) (.cons (.asg (.nm 3) (.lst (.cons (.op2 .addI (.cst (.int 1)) (.op2 .mod (.var 2) (.cst (.int 9)))) (.cons (.op2 .addI (.cst (.int 1)) (.op2 .mod (.var 2) (.cst (.int 2)))) (.cons (.op2 .addI (.op2 .mulI (.op2 .addI (.cst (.int 1)) (.op2 .mod (.var 2) (.cst (.int 4)))) (.op2 .pow (.cst (.int 10)) (.cst (.int 30)))) (.op2 .mod (.var 2) (.cst (.int 5)))) (.cons (.op2 .addI (.cst (.int 1)) (.op2 .mod (.op2 .mulI (.var 0) (.var 2)) (.op2 .pow (.cst (.int 10)) (.cst (.int 39))))) .nil)))))) (.cons (.ret (.op1 .sc (.op2 .subL (.var 3) (.op2 .mod (.op2 .fdiv (.var 0) (.cst (.int 5))) (.cst (.int 4)))))) .nil)))⟩
def d__law_hung : IDef := ⟨3, 9, [.deep, .sh, .sh, .sh, .sh, .sh, .sh, .sh, .sh], .im, (.cons (.asg (.nm 3) (.lc .r1 (.var 1) (.cst .non) (.cst .non) (.nm 5) (.cst (.bl true)) (.op1 .len (.lc .lst (.var 0) (.cst .non) (.cst .non) (.nm 8) (.op2 .inL (.var 5) (.op2 .slcHi (.var 8) (.cst (.int 2)))) (.op1 .opq (.var 8)))))) (.cons (.asg (.nm 4) (.lc .r1 (.var 1) (.cst .non) (.cst .non) (.nm 5) (.op2 .eqI (.op2 .subL (.var 3) (.var 5)) (.cst (.int 1))) (.op1 .sc (.var 5)))) (.cons (.asg (.nm 5) (.op2 .subL (.var 4) (.op2 .mod (.call 4 (.cons (.op1 .sc (.var 2)) (.cons (.cst (.int 8)) .nil))) (.op1 .len (.var 4))))) (.cons (.asg (.nm 6) (.op2 .mod (.op2 .addI (.op2 .addI (.var 5) (.cst (.int 1))) (.op2 .mod (.call 4 (.cons (.op1 .sc (.var 2)) (.cons (.cst (.int 9)) .nil))) (.op2 .subI (.var 1) (.cst (.int 1))))) (.var 1))) (.cons (.for .r1 (.op1 .len (.var 0)) (.cst .non) (.cst .non) (.nm 7) (.cons (.ifs (.op2 .inL (.var 5) (.op2 .slcHi (.op2 .subL (.var 0) (.var 7)) (.cst (.int 2)))) (.cons (.seti 0 (.op1 .sc (.var 7)) (.op2 .subL (.lst (.cons (.lst (.cons (.op1 .sc (.var 6)) (.cons (.op1 .sc (.var 5)) (.cons (.op1 .sc (.op2 .subL (.op2 .subL (.var 0) (.var 7)) (.cst (.int 2)))) .nil)))) (.cons (.lst (.cons (.op1 .sc (.var 5)) (.cons (.op1 .sc (.var 6)) (.cons (.op1 .sc (.op2 .subL (.op2 .subL (.var 0) (.var 7)) (.cst (.int 2)))) .nil)))) .nil))) (.op2 .mod (.var 2) (.cst (.int 2))))) .nil) .nil) .nil)) .nil)))))⟩
def d__law_tree_10 : IDef := ⟨1, 10, [.sh, .sh, .sh, .sh, .top, .sh, .deep, .sh, .sh, .sh], .deep, (.cons (.asg (.nm 1) (.call 6 (.cons (.var 0) (.cons (.cst (.int 0)) .nil)))) (.cons (.asg (.nm 2) (.op2 .subL (.lst (.cons (.op2 .addI (.cst (.int 1)) (.op2 .mod (.op2 .fdiv (.var 1) (.cst (.int 4))) (.cst (.int 12)))) (.cons (.op2 .addI (.cst (.int 1)) (.op2 .mod (.op2 .fdiv (.var 1) (.cst (.int 4))) (.cst (.int 6)))) (.cons (.cst (.int 12)) (.cons (.op2 .addI (.cst (.int 1)) (.op2 .mod (.op2 .fdiv (.var 1) (.cst (.int 4))) (.cst (.int 12)))) .nil))))) (.op2 .mod (.var 1) (.cst (.int 4))))) (.cons (.asg (.nm 3) (.call 6 (.cons (.var 0) (.cons (.cst (.int 1)) .nil)))) (.cons (.asg (.nm 4) (.lst .nil)) (.cons (.for .r1 (.var 2) (.cst .non) (.cst .non) (.nm 5) (.cons (.ins 4 (.op2 .mod (.call 4 (.cons (.op2 .addI (.var 3) (.op2 .mulI (.var 5) (.var 5))) (.cons (.cst (.int 3)) .nil))) (.op2 .addI (.var 5) (.cst (.int 1)))) (.op1 .sc (.var 5))) .nil)) (.cons (.asg (.nm 6) (.lst .nil)) (.cons (.for .r2 (.cst (.int 1)) (.var 2) (.cst .non) (.nm 5) (.cons (.asg (.nm 8) (.lst (.cons (.op1 .sc (.op2 .subL (.var 4) (.call 7 (.cons (.op1 .sc (.var 3)) (.cons (.op1 .sc (.var 5)) .nil))))) (.cons (.op1 .sc (.op2 .subL (.var 4) (.var 5))) .nil)))) (.cons (.ifs (.op2 .eqI (.op2 .mod (.call 4 (.cons (.op2 .addI (.var 3) (.var 5)) (.cons (.cst (.int 4)) .nil))) (.cst (.int 2))) (.cst (.int 0))) (.cons (.asg (.nm 8) (.op1 .revL (.var 8))) .nil) .nil) (.cons (.ins 6 (.op2 .mod (.call 4 (.cons (.op2 .addI (.var 3) (.var 5)) (.cons (.cst (.int 5)) .nil))) (.var 5)) (.op1 .scl (.op2 .cat (.var 8) (.lst (.cons (.call 8 (.cons (.op1 .sc (.var 3)) (.cons (.op1 .sc (.var 5)) .nil))) .nil))))) .nil)))) (.cons (.for .lst (.slc (.var 0) (.cst (.int 3)) (.cst (.int 63))) (.cst .non) (.cst .non) (.nm 7) (.cons (.ifs (.and (.op2 .gt (.var 2) (.cst (.int 1))) (.op2 .eqI (.op2 .mod (.var 7) (.cst (.int 2))) (.cst (.int 0)))) (.cons (.exp (.callM 9 6 (.cons (.op1 .sc (.var 2)) (.cons (.op2 .fdiv (.var 7) (.cst (.int 2))) .nil)))) .nil) .nil) (.cons (.ifs (.and (.op2 .gt (.var 2) (.cst (.int 1))) (.op2 .eqI (.op2 .mod (.var 7) (.cst (.int 2))) (.cst (.int 1)))) (.cons (.asg (.nm 9) (.op2 .mod (.call 4 (.cons (.op1 .sc (.var 7)) (.cons (.cst (.int 6)) .nil))) (.op2 .subI (.var 2) (.cst (.int 1))))) (.cons (.set2 6 (.var 9) (.cst (.int 2)) (.op2 .addI (.cst (.int 1)) (.op2 .mod (.op2 .addI (.op2 .subL (.op2 .subL (.var 6) (.var 9)) (.cst (.int 2))) (.op2 .mod (.call 4 (.cons (.op1 .sc (.var 7)) (.cons (.cst (.int 7)) .nil))) (.cst (.int 9)))) (.op2 .pow (.cst (.int 10)) (.cst (.int 39)))))) .nil)) .nil) .nil))) (.cons (.ret (.tup (.cons (.op1 .sc (.var 2)) (.cons (.mv 6) .nil)))) .nil)))))))))⟩
def d_must_be_tree : IDef := ⟨2, 2, [.sh, .sh], .im, (.cons (.ifs (.not (.call 3 (.cons (.op1 .sc (.var 0)) (.cons (.var 1) .nil)))) (.cons (.rai 1) .nil) .nil) .nil)⟩
def d_must_be_places : IDef := ⟨2, 3, [.sh, .sh, .sh], .im, (.cons (.for .lst (.var 1) (.cst .non) (.cst .non) (.nm 2) (.cons (.ifs (.or (.op2 .lt (.var 2) (.cst (.int 0))) (.op2 .ge (.var 2) (.var 0))) (.cons (.rai 2) .nil) .nil) .nil)) .nil)⟩
def d_way : IDef := ⟨4, 6, [.sh, .sh, .sh, .sh, .sh, .top], .deep, (.cons (.exp (.call 15 (.cons (.op1 .sc (.var 0)) (.cons (.var 1) .nil)))) (.cons (.exp (.call 16 (.cons (.op1 .sc (.var 0)) (.cons (.lst (.cons (.op1 .sc (.var 2)) (.cons (.op1 .sc (.var 3)) .nil))) .nil)))) (.cons (.asg (.nm 4) (.call 2 (.cons (.var 1) (.cons (.op1 .sc (.var 3)) (.cons (.lst .nil) .nil))))) (.cons (.asg (.nm 5) (.lst (.cons (.op1 .sc (.var 2)) .nil))) (.cons (.whl (.op2 .neI (.op2 .subL (.var 5) (.op1 .neg (.cst (.int 1)))) (.var 3)) (.cons (.app 5 (.op1 .sc (.op2 .subK (.var 4) (.op2 .subL (.var 5) (.op1 .neg (.cst (.int 1))))))) .nil)) (.cons (.ret (.op1 .scl (.mv 5))) .nil))))))⟩
def d_road_length : IDef := ⟨3, 5, [.sh, .sh, .sh, .sh, .sh], .im, (.cons (.ret (.op1 .sc (.op2 .subL (.lc .lst (.call 1 (.cons (.var 0) (.cons (.op1 .sc (.var 1)) .nil))) (.cst .non) (.cst .non) (.tup [3, 4]) (.op2 .eqI (.var 3) (.var 2)) (.op1 .sc (.var 4))) (.cst (.int 0))))) .nil)⟩
def d_far : IDef := ⟨4, 6, [.sh, .sh, .sh, .sh, .sh, .sh], .im, (.cons (.asg (.nm 4) (.call 17 (.cons (.op1 .sc (.var 0)) (.cons (.var 1) (.cons (.op1 .sc (.var 2)) (.cons (.op1 .sc (.var 3)) .nil)))))) (.cons (.ret (.op1 .sumL (.lc .r2 (.cst (.int 1)) (.op1 .len (.var 4)) (.cst .non) (.nm 5) (.cst (.bl true)) (.call 18 (.cons (.var 1) (.cons (.op1 .sc (.op2 .subL (.var 4) (.op2 .subI (.var 5) (.cst (.int 1))))) (.cons (.op1 .sc (.op2 .subL (.var 4) (.var 5))) .nil))))))) .nil))⟩
def d_leaves : IDef := ⟨2, 3, [.sh, .sh, .sh], .deep, (.cons (.exp (.call 15 (.cons (.op1 .sc (.var 0)) (.cons (.var 1) .nil)))) (.cons (.ret (.lc .r1 (.var 0) (.cst .non) (.cst .non) (.nm 2) (.op2 .eqI (.op1 .len (.call 1 (.cons (.var 1) (.cons (.op1 .sc (.var 2)) .nil)))) (.cst (.int 1))) (.op1 .sc (.var 2)))) .nil))⟩
def d_odd_places : IDef := ⟨2, 3, [.sh, .sh, .sh], .deep, (.cons (.exp (.call 15 (.cons (.op1 .sc (.var 0)) (.cons (.var 1) .nil)))) (.cons (.ret (.lc .r1 (.var 0) (.cst .non) (.cst .non) (.nm 2) (.op2 .eqI (.op2 .mod (.op1 .len (.call 1 (.cons (.var 1) (.cons (.op1 .sc (.var 2)) .nil)))) (.cst (.int 2))) (.cst (.int 1))) (.op1 .sc (.var 2)))) .nil))⟩
def d__law_like_36 : IDef := ⟨2, 3, [.sh, .sh, .sh], .im, (.cons (.ifs (.or (.not (.op1 .isList (.var 0))) (.op2 .neD (.var 0) (.var 1))) (.cons (.ret (.cst (.bl false))) .nil) .nil) (.cons (.for .lst (.var 0) (.cst .non) (.cst .non) (.nm 2) (.cons (.ifs (.not (.call 5 (.cons (.op1 .sc (.var 2)) .nil))) (.cons (.ret (.cst (.bl false))) .nil) .nil) .nil)) (.cons (.ret (.cst (.bl true))) .nil)))⟩
def d_law_37 : IDef := ⟨1, 12, [.sh, .sh, .top, .sh, .sh, .sh, .sh, .sh, .sh, .top, .top, .sh], .im, (.cons (.asg (.tup [7, 8]) (.call 10 (.cons (.var 0) .nil))) (.cons (.asg (.nm 1) (.lc .lst (.var 8) (.cst .non) (.cst .non) (.nm 11) (.cst (.bl true)) (.op1 .listL (.var 11)))) (.cons (.asg (.nm 2) (.lst .nil)) (.cons (.for .r1 (.var 7) (.cst .non) (.cst .non) (.nm 3) (.cons (.app 2 (.op1 .sumL (.lc .lst (.var 8) (.cst .non) (.cst .non) (.nm 11) (.cst (.bl true)) (.op2 .addI (.op1 .toInt (.op2 .eqI (.op2 .subL (.var 11) (.cst (.int 0))) (.var 3))) (.op1 .toInt (.op2 .eqI (.op2 .subL (.var 11) (.cst (.int 1))) (.var 3))))))) .nil)) (.cons (.asg (.nm 4) (.lc .r1 (.var 7) (.cst .non) (.cst .non) (.nm 3) (.op2 .eqI (.op2 .subL (.var 2) (.var 3)) (.cst (.int 1))) (.op1 .sc (.var 3)))) (.cons (.asg (.nm 5) (.lc .r1 (.var 7) (.cst .non) (.cst .non) (.nm 3) (.or (.op2 .inT (.op2 .subL (.var 2) (.var 3)) (.tup (.cons (.cst (.int 1)) (.cons (.cst (.int 3)) (.cons (.cst (.int 5)) .nil))))) (.op2 .inT (.op2 .subL (.var 2) (.var 3)) (.tup (.cons (.cst (.int 7)) (.cons (.cst (.int 9)) (.cons (.cst (.int 11)) .nil)))))) (.op1 .sc (.var 3)))) (.cons (.for .r1 (.cst (.int 2)) (.cst .non) (.cst .non) (.nm 6) (.cons (.asg (.nm 9) (.call 34 (.cons (.op1 .sc (.var 7)) (.cons (.var 1) .nil)))) (.cons (.asg (.nm 10) (.call 35 (.cons (.op1 .sc (.var 7)) (.cons (.var 1) .nil)))) (.cons (.ifs (.or (.not (.call 36 (.cons (.var 9) (.cons (.var 4) .nil)))) (.not (.call 36 (.cons (.var 10) (.cons (.var 5) .nil))))) (.cons (.ret (.cst (.bl false))) .nil) .nil) (.cons (.app 9 (.op1 .neg (.cst (.int 1)))) (.cons (.clr 10) .nil)))))) (.cons (.ret (.op2 .eqD (.var 1) (.var 8))) .nil))))))))⟩
def d_fars : IDef := ⟨2, 5, [.sh, .sh, .top, .top, .sh], .top, (.cons (.asg (.nm 2) .dic0) (.cons (.asg (.nm 3) (.call 2 (.cons (.var 0) (.cons (.op1 .sc (.var 1)) (.cons (.lst .nil) .nil))))) (.cons (.for (.dic 3) (.cst .non) (.cst .non) (.cst .non) (.nm 4) (.cons (.setk 2 (.op1 .sc (.var 4)) (.cst (.int 0))) (.cons (.ifs (.op2 .neI (.var 4) (.var 1)) (.cons (.setk 2 (.op1 .sc (.var 4)) (.op2 .addI (.op2 .subK (.var 2) (.op2 .subK (.var 3) (.var 4))) (.call 18 (.cons (.var 0) (.cons (.op1 .sc (.var 4)) (.cons (.op1 .sc (.op2 .subK (.var 3) (.var 4))) .nil)))))) .nil) .nil) .nil))) (.cons (.ret (.mv 2)) .nil))))⟩
def d__law_mixed : IDef := ⟨2, 3, [.sh, .sh, .sh], .im, (.cons (.asg (.nm 2) (.op2 .mod (.op2 .addI (.op2 .addI (.op2 .mulI (.var 0) (.cst (.int 48271))) (.op2 .mulI (.op2 .mulI (.var 1) (.var 1)) (.cst (.int 69621)))) (.cst (.int 3))) (.cst (.int 2147483647)))) (.cons (.asg (.nm 2) (.op2 .mod (.op2 .mulI (.var 2) (.var 2)) (.cst (.int 2147483629)))) (.cons (.ret (.op2 .mod (.op2 .mulI (.var 2) (.var 2)) (.cst (.int 2147483587)))) .nil)))⟩
def d__law_names_69 : IDef := ⟨2, 4, [.sh, .sh, .top, .sh], .deep, (.cons (.asg (.nm 2) (.lst .nil)) (.cons (.for .r1 (.var 1) (.cst .non) (.cst .non) (.nm 3) (.cons (.ins 2 (.op2 .mod (.var 0) (.op2 .addI (.var 3) (.cst (.int 1)))) (.op1 .sc (.var 3))) (.cons (.asg (.nm 0) (.op2 .fdiv (.var 0) (.op2 .addI (.var 3) (.cst (.int 1))))) .nil))) (.cons (.ret (.op1 .scl (.mv 2))) .nil)))⟩
def d__law_numbers : IDef := ⟨1, 6, [.sh, .top, .top, .sh, .sh, .sh], .deep, (.cons (.asg (.nm 1) (.lc .r1 (.cst (.int 48)) (.cst .non) (.cst .non) (.nm 3) (.cst (.bl true)) (.call 68 (.cons (.call 6 (.cons (.var 0) (.cons (.cst (.int 0)) .nil))) (.cons (.op2 .addI (.cst (.int 90)) (.var 3)) .nil))))) (.cons (.asg (.nm 2) (.slc (.var 0) (.cst (.int 2)) (.cst (.int 63)))) (.cons (.for .r1 (.op1 .len (.var 2)) (.cst .non) (.cst .non) (.nm 3) (.cons (.seti 1 (.op2 .mod (.var 3) (.cst (.int 48))) (.call 68 (.cons (.op2 .addI (.op2 .subL (.var 1) (.op2 .mod (.var 3) (.cst (.int 48)))) (.op2 .subL (.var 2) (.var 3))) (.cons (.op2 .addI (.var 3) (.cst (.int 2))) .nil)))) .nil)) (.cons (.asg (.nm 1) (.op2 .cat (.var 1) (.lc .r1 (.cst (.int 48)) (.cst .non) (.cst .non) (.nm 3) (.cst (.bl true)) (.op2 .addI (.op2 .mulI (.op2 .subL (.var 1) (.var 3)) (.op2 .pow (.cst (.int 10)) (.cst (.int 28)))) (.op2 .subL (.var 1) (.op2 .subI (.var 3) (.cst (.int 1)))))))) (.cons (.ifs (.and (.op2 .eqI (.op2 .mod (.op2 .fdiv (.call 6 (.cons (.var 0) (.cons (.cst (.int 1)) .nil))) (.cst (.int 16))) (.cst (.int 2))) (.cst (.int 1))) (.op2 .neD (.var 2) (.lst .nil))) (.cons (.for .r1 (.cst (.int 96)) (.cst .non) (.cst .non) (.nm 3) (.cons (.asg (.nm 4) (.op2 .subL (.lst (.cons (.cst (.int 2147483587)) (.cons (.op2 .pow (.cst (.int 10)) (.cst (.int 38))) .nil))) (.op2 .fdiv (.var 3) (.cst (.int 48))))) (.cons (.asg (.nm 5) (.op2 .mod (.var 3) (.op1 .len (.var 2)))) (.cons (.seti 1 (.op1 .sc (.var 3)) (.op2 .mod (.op2 .subL (.var 2) (.var 5)) (.var 4))) (.cons (.seti 2 (.op1 .sc (.var 5)) (.op2 .fdiv (.op2 .subL (.var 2) (.var 5)) (.var 4))) .nil))))) .nil) .nil) (.cons (.ret (.op1 .scl (.mv 1))) .nil))))))⟩
def d_all_in : IDef := ⟨3, 4, [.sh, .sh, .sh, .sh], .im, (.cons (.ifs (.or (.op2 .eqI (.op1 .len (.var 0)) (.cst (.int 0))) (.op2 .gt (.op1 .len (.var 0)) (.var 2))) (.cons (.ret (.cst (.bl false))) .nil) .nil) (.cons (.for .str (.var 0) (.cst .non) (.cst .non) (.nm 3) (.cons (.ifs (.t2 .ninS (.var 3) (.var 1)) (.cons (.ret (.cst (.bl false))) .nil) .nil) .nil)) (.cons (.ret (.cst (.bl true))) .nil)))⟩
def d_read_count : IDef := ⟨1, 1, [.sh], .im, (.cons (.ifs (.or (.not (.call 217 (.cons (.op1 .sc (.var 0)) (.cons (.cst (.str "0123456789")) (.cons (.cst (.int 60)) .nil))))) (.and (.op2 .eqI (.op2 .subS (.var 0) (.cst (.int 0))) (.cst (.str "0"))) (.op2 .neI (.var 0) (.cst (.str "0"))))) (.cons (.rai 9) .nil) .nil) (.cons (.ret (.t1 .intS (.var 0))) .nil))⟩
def d_read_number : IDef := ⟨1, 2, [.sh, .sh], .im, (.cons (.ifs (.not (.t2 .starts (.var 0) (.cst (.str "-")))) (.cons (.ret (.call 218 (.cons (.op1 .sc (.var 0)) .nil))) .nil) .nil) (.cons (.asg (.nm 1) (.call 218 (.cons (.t2 .lo (.var 0) (.cst (.int 1))) .nil))) (.cons (.ifs (.op2 .eqI (.var 1) (.cst (.int 0))) (.cons (.rai 9) .nil) .nil) (.cons (.ret (.op1 .neg (.var 1))) .nil))))⟩
def d_read_row : IDef := ⟨1, 2, [.sh, .sh], .deep, (.cons (.ifs (.op2 .eqI (.var 0) (.cst (.str "."))) (.cons (.ret (.lst .nil)) .nil) .nil) (.cons (.ret (.lc .lst (.t2 .split (.var 0) (.cst (.str " "))) (.cst .non) (.cst .non) (.nm 1) (.cst (.bl true)) (.call 219 (.cons (.op1 .sc (.var 1)) .nil)))) .nil))⟩
def d_read_rows : IDef := ⟨1, 2, [.sh, .sh], .deep, (.cons (.ifs (.op2 .eqI (.var 0) (.cst (.str "-"))) (.cons (.ret (.lst .nil)) .nil) .nil) (.cons (.ret (.lc .lst (.t2 .split (.var 0) (.cst (.str " / "))) (.cst .non) (.cst .non) (.nm 1) (.cst (.bl true)) (.call 220 (.cons (.op1 .sc (.var 1)) .nil)))) .nil))⟩
def d_shown_row : IDef := ⟨1, 2, [.sh, .sh], .im, (.cons (.ifs (.op2 .eqI (.op1 .len (.var 0)) (.cst (.int 0))) (.cons (.ret (.cst (.str "."))) .nil) .nil) (.cons (.ret (.t2 .join (.cst (.str " ")) (.lc .lst (.var 0) (.cst .non) (.cst .non) (.nm 1) (.cst (.bl true)) (.t1 .strI (.var 1))))) .nil))⟩
def d_shown_rows : IDef := ⟨1, 2, [.sh, .sh], .im, (.cons (.ifs (.op2 .eqI (.op1 .len (.var 0)) (.cst (.int 0))) (.cons (.ret (.cst (.str "-"))) .nil) .nil) (.cons (.ret (.t2 .join (.cst (.str " / ")) (.lc .lst (.var 0) (.cst .non) (.cst .non) (.nm 1) (.cst (.bl true)) (.call 222 (.cons (.var 1) .nil))))) .nil))⟩
def d__law_rows_224 : IDef := ⟨1, 7, [.sh, .top, .sh, .top, .sh, .sh, .sh], .top, (.cons (.asg (.nm 1) (.lst .nil)) (.cons (.for .r1 (.op2 .mod (.call 4 (.cons (.op1 .sc (.var 0)) (.cons (.cst (.int 2)) .nil))) (.cst (.int 5))) (.cst .non) (.cst .non) (.nm 2) (.cons (.asg (.nm 3) (.lst .nil)) (.cons (.for .r1 (.op2 .mod (.call 4 (.cons (.op2 .addI (.var 0) (.var 2)) (.cons (.cst (.int 3)) .nil))) (.cst (.int 5))) (.cst .non) (.cst .non) (.nm 4) (.cons (.asg (.nm 5) (.call 4 (.cons (.op2 .addI (.op2 .addI (.var 0) (.op2 .mulI (.cst (.int 5)) (.var 2))) (.var 4)) (.cons (.cst (.int 4)) .nil)))) (.cons (.asg (.nm 6) (.op2 .mod (.op2 .addI (.op2 .fdiv (.var 0) (.cst (.int 7))) (.var 5)) (.op2 .pow (.cst (.int 10)) (.cst (.int 59))))) (.cons (.app 3 (.op1 .sc (.op2 .subL (.lst (.cons (.op2 .mod (.var 5) (.cst (.int 14))) (.cons (.cst (.int 0)) (.cons (.op2 .subI (.op1 .neg (.cst (.int 1))) (.op2 .mod (.var 5) (.cst (.int 14)))) (.cons (.op1 .sc (.var 6)) (.cons (.op2 .subI (.cst (.int 0)) (.var 6)) (.cons (.op2 .subI (.op2 .subI (.op2 .pow (.cst (.int 10)) (.cst (.int 60))) (.cst (.int 1))) (.var 6)) .nil))))))) (.op2 .mod (.op2 .fdiv (.var 5) (.cst (.int 16))) (.cst (.int 6)))))) .nil)))) (.cons (.app 1 (.op1 .scl (.mv 3))) .nil)))) (.cons (.ret (.mv 1)) .nil)))⟩
def d__law_shown_225 : IDef := ⟨1, 4, [.sh, .sh, .sh, .sh], .im, (.cons (.ifs (.op2 .eqI (.op1 .len (.var 0)) (.cst (.int 0))) (.cons (.ret (.cst (.str "-"))) .nil) .nil) (.cons (.asg (.nm 1) (.cst (.str ""))) (.cons (.for .r1 (.op1 .len (.var 0)) (.cst .non) (.cst .non) (.nm 2) (.cons (.ifs (.op2 .gt (.var 2) (.cst (.int 0))) (.cons (.asg (.nm 1) (.op2 .addS (.var 1) (.cst (.str " / ")))) .nil) .nil) (.cons (.ifs (.op2 .eqI (.op1 .len (.op2 .subL (.var 0) (.var 2))) (.cst (.int 0))) (.cons (.asg (.nm 1) (.op2 .addS (.var 1) (.cst (.str ".")))) .nil) .nil) (.cons (.for .r1 (.op1 .len (.op2 .subL (.var 0) (.var 2))) (.cst .non) (.cst .non) (.nm 3) (.cons (.ifs (.op2 .gt (.var 3) (.cst (.int 0))) (.cons (.asg (.nm 1) (.op2 .addS (.var 1) (.cst (.str " ")))) .nil) .nil) (.cons (.asg (.nm 1) (.op2 .addS (.var 1) (.t1 .strI (.op2 .subL (.op2 .subL (.var 0) (.var 2)) (.var 3))))) .nil))) .nil)))) (.cons (.ret (.op1 .sc (.var 1))) .nil))))⟩
def d__law_like_226 : IDef := ⟨2, 4, [.sh, .sh, .sh, .sh], .im, (.cons (.ifs (.or (.not (.op1 .isList (.var 0))) (.op2 .neI (.op1 .len (.var 0)) (.op1 .len (.var 1)))) (.cons (.ret (.cst (.bl false))) .nil) .nil) (.cons (.for .lst (.var 0) (.cst .non) (.cst .non) (.nm 2) (.cons (.ifs (.not (.op1 .isList (.var 2))) (.cons (.ret (.cst (.bl false))) .nil) .nil) (.cons (.for .lst (.var 2) (.cst .non) (.cst .non) (.nm 3) (.cons (.ifs (.not (.call 5 (.cons (.op1 .sc (.var 3)) .nil))) (.cons (.ret (.cst (.bl false))) .nil) .nil) .nil)) .nil))) (.cons (.ret (.op2 .eqD (.var 0) (.var 1))) .nil)))⟩
def d_law_227 : IDef := ⟨1, 7, [.sh, .sh, .sh, .sh, .sh, .sh, .sh], .im, (.cons (.for .lst (.op2 .cat (.lst (.cons (.cst (.int 9)) .nil)) (.op2 .slcHi (.var 0) (.cst (.int 40)))) (.cst .non) (.cst .non) (.nm 1) (.cons (.asg (.nm 2) (.call 224 (.cons (.op1 .sc (.var 1)) .nil))) (.cons (.asg (.nm 3) (.call 225 (.cons (.var 2) .nil))) (.cons (.asg (.nm 4) (.lc .lst (.var 2) (.cst .non) (.cst .non) (.nm 6) (.cst (.bl true)) (.op1 .listL (.var 6)))) (.cons (.asg (.nm 5) (.call 223 (.cons (.var 4) .nil))) (.cons (.ifs (.or (.not (.op1 .isStr (.var 5))) (.or (.op2 .neI (.var 5) (.var 3)) (.op2 .neD (.var 4) (.var 2)))) (.cons (.ret (.cst (.bl false))) .nil) .nil) (.cons (.ifs (.not (.call 226 (.cons (.call 221 (.cons (.op1 .sc (.var 3)) .nil)) (.cons (.var 2) .nil)))) (.cons (.ret (.cst (.bl false))) .nil) .nil) .nil))))))) (.cons (.ret (.cst (.bl true))) .nil))⟩
def defs (i : Nat) : IDef := match i with
  | 0 => d_are_unlike_places
  | 1 => d_steps_from
  | 2 => d_spread
  | 3 => d_is_tree
  | 4 => d__law_mix
  | 5 => d__law_whole
  | 6 => d__law_cell_at
  | 7 => d__law_older
  | 8 => d__law_size_8
  | 9 => d__law_hung
  | 10 => d__law_tree_10
  | 15 => d_must_be_tree
  | 16 => d_must_be_places
  | 17 => d_way
  | 18 => d_road_length
  | 19 => d_far
  | 34 => d_leaves
  | 35 => d_odd_places
  | 36 => d__law_like_36
  | 37 => d_law_37
  | 43 => d_fars
  | 68 => d__law_mixed
  | 69 => d__law_names_69
  | 70 => d__law_numbers
  | 217 => d_all_in
  | 218 => d_read_count
  | 219 => d_read_number
  | 220 => d_read_row
  | 221 => d_read_rows
  | 222 => d_shown_row
  | 223 => d_shown_rows
  | 224 => d__law_rows_224
  | 225 => d__law_shown_225
  | 226 => d__law_like_226
  | 227 => d_law_227
  | _ => default
end TW

/-! ## sizes of numbers; a def's reckoning -/
namespace TW
open PySem
theorem run_of {defs : Nat → IDef} {n f : Nat} {ds : List D} (h : ds.length = (defs f).np) : (sems defs (n + 1) f).run ds = (match evSs (sems defs n) (defs f).body (start (defs f).ns ds) with
    | .rt x ρ => .ok (x, if (defs f).mut = true then [gt ρ 0] else (defs f).mx ρ)
    | .nx ρ => .ok (.non, if (defs f).mut = true then [gt ρ 0] else (defs f).mx ρ)
    | .exc c => .exc c
    | .bad => .bad) := if_pos h
def Sz (n : Nat) (i : Int) : Prop := i.natAbs < 2 ^ n
theorem Sz.log {n : Nat} {i : Int} (h : Sz n i) : i.natAbs.log2 ≤ n := by
  by_cases z : i.natAbs = 0
  · rw [z]; simp
  · exact Nat.le_of_lt ((Nat.log2_lt z).mpr h)
theorem Sz.ok {n m : Nat} {i j : Int} (h : Sz n i) (g : Sz m j) (l : n + m < 50000000) : mulOk i j = true := by
  have a := h.log
  have b := g.log
  unfold mulOk
  exact decide_eq_true (by omega)
theorem Sz.mono {n m : Nat} {i : Int} (h : Sz n i) (l : n ≤ m) : Sz m i := Nat.lt_of_lt_of_le h (Nat.pow_le_pow_right (by decide) l)
theorem Sz.mul {n m : Nat} {i j : Int} (h : Sz n i) (g : Sz m j) : Sz (n + m) (i * j) := by
  unfold Sz at *
  rw [Int.natAbs_mul, Nat.pow_add]
  exact Nat.mul_lt_mul'' h g
theorem Sz.add {n m k : Nat} {i j : Int} (h : Sz n i) (g : Sz m j) (a : n ≤ k) (b : m ≤ k) : Sz (k + 1) (i + j) := by
  have h := h.mono a
  have g := g.mono b
  unfold Sz at *
  have := Int.natAbs_add_le i j
  rw [Nat.pow_succ]
  omega
theorem Sz.mod {n : Nat} {i b : Int} (h0 : 0 < b) (h : b ≤ 2 ^ n) : Sz n (i % b) := by
  unfold Sz
  have h1 := Int.emod_nonneg i (Int.ne_of_gt h0)
  have h2 := Int.emod_lt_of_pos i h0
  have h3 : (2 : Int) ^ n = ((2 ^ n : Nat) : Int) := by simp
  omega
theorem Sz.of {n : Nat} {i : Int} (h0 : -(2 ^ n) < i) (h : i < 2 ^ n) : Sz n i := by
  unfold Sz
  have h3 : (2 : Int) ^ n = ((2 ^ n : Nat) : Int) := by simp
  omega
theorem Sz.small {i : Int} (h0 : -1024 < i) (h : i < 1024) : Sz 10 i := Sz.of (by omega) (by omega)
end TW

/-! ## loops -/
namespace TW.M
open PySem
theorem for_inv0 {α : Type} {put : D → Env → Option Env} {body : Env → Out} (enc : α → D) (I : List α → Env → Prop) : ∀ (xs pre : List α) (ρ : Env), I pre ρ →
    (∀ (p : List α) (x : α) (r : List α) (ρ : Env), pre ++ xs = p ++ x :: r → I p ρ → ∃ ρ1, put (enc x) ρ = some ρ1 ∧ ∃ ρ2, body ρ1 = .nx ρ2 ∧ I (p ++ [x]) ρ2) →
    ∃ ρ', forGo put body (xs.map enc) ρ = .nx ρ' ∧ I (pre ++ xs) ρ'
  | [], pre, ρ, h, _ => ⟨ρ, rfl, by simpa using h⟩
  | x :: xs, pre, ρ, h, st => by
    obtain ⟨ρ1, h1, ρ2, h2, h3⟩ := st pre x xs ρ rfl h
    obtain ⟨ρ', h4, h5⟩ := for_inv0 enc I xs (pre ++ [x]) ρ2 h3 (fun p y r ρ e i => st p y r ρ (by simpa using e) i)
    refine ⟨ρ', ?_, by simpa using h5⟩
    simp only [List.map_cons, forGo, h1, h2]
    exact h4
/-- a for over things of one kind: what holds behind each -/
theorem for_inv {α : Type} {put : D → Env → Option Env} {body : Env → Out} {ds : List D} {ρ : Env} {o : Out} (h : forGo put body ds ρ = o) (enc : α → D) (xs : List α) (I : List α → Env → Prop) (e : ds = xs.map enc) (h0 : I [] ρ)
    (st : ∀ (p : List α) (x : α) (r : List α) (ρ : Env), xs = p ++ x :: r → I p ρ → ∃ ρ1, put (enc x) ρ = some ρ1 ∧ ∃ ρ2, body ρ1 = .nx ρ2 ∧ I (p ++ [x]) ρ2) : ∃ ρ', o = .nx ρ' ∧ I xs ρ' := by
  obtain ⟨ρ', h1, h2⟩ := for_inv0 enc I xs [] ρ h0 st
  subst e
  exact ⟨ρ', h.symm.trans h1, h2⟩
theorem for_stop0 {α : Type} {put : D → Env → Option Env} {body : Env → Out} (enc : α → D) (I : List α → Env → Prop) (S : Out → Prop) : ∀ (xs pre : List α) (ρ : Env), I pre ρ →
    (∀ (p : List α) (x : α) (r : List α) (ρ : Env), pre ++ xs = p ++ x :: r → I p ρ → ∃ ρ1, put (enc x) ρ = some ρ1 ∧ ((∃ ρ2, body ρ1 = .nx ρ2 ∧ I (p ++ [x]) ρ2) ∨ (S (body ρ1) ∧ ∀ ρ2, body ρ1 ≠ .nx ρ2))) →
    (∃ ρ', forGo put body (xs.map enc) ρ = .nx ρ' ∧ I (pre ++ xs) ρ') ∨ S (forGo put body (xs.map enc) ρ)
  | [], pre, ρ, h, _ => .inl ⟨ρ, rfl, by simpa using h⟩
  | x :: xs, pre, ρ, h, st => by
    obtain ⟨ρ1, h1, ⟨ρ2, h2, h3⟩ | ⟨h2, h3⟩⟩ := st pre x xs ρ rfl h
    · have e : forGo put body ((x :: xs).map enc) ρ = forGo put body (xs.map enc) ρ2 := by simp only [List.map_cons, forGo, h1, h2]
      rcases for_stop0 enc I S xs (pre ++ [x]) ρ2 h3 (fun p y r ρ e i => st p y r ρ (by simpa using e) i) with ⟨ρ', h4, h5⟩ | h4
      · exact .inl ⟨ρ', e.trans h4, by simpa using h5⟩
      · exact .inr (by rw [e]; exact h4)
    · right
      have : forGo put body ((x :: xs).map enc) ρ = body ρ1 := by
        simp only [List.map_cons, forGo, h1]
      rw [this]; exact h2
/-- a for that may end early -/
theorem for_stop {α : Type} {put : D → Env → Option Env} {body : Env → Out} {ds : List D} {ρ : Env} {o : Out} (h : forGo put body ds ρ = o) (enc : α → D) (xs : List α) (I : List α → Env → Prop) (S : Out → Prop) (e : ds = xs.map enc) (h0 : I [] ρ)
    (st : ∀ (p : List α) (x : α) (r : List α) (ρ : Env), xs = p ++ x :: r → I p ρ → ∃ ρ1, put (enc x) ρ = some ρ1 ∧ ((∃ ρ2, body ρ1 = .nx ρ2 ∧ I (p ++ [x]) ρ2) ∨ (S (body ρ1) ∧ ∀ ρ2, body ρ1 ≠ .nx ρ2))) : (∃ ρ', o = .nx ρ' ∧ I xs ρ') ∨ S o := by
  subst e
  subst h
  exact for_stop0 enc I S xs [] ρ h0 st
/-- a comprehension -/
theorem lc_map0 {α : Type} {put : D → Env → Option Env} {test elt : Env → Res (D × Env)} {ρ : Env} (enc : α → D) (p : α → Bool) (f : α → D) : ∀ xs : List α,
    (∀ x ∈ xs, ∃ ρ1, put (enc x) ρ = some ρ1 ∧ ∃ ρ2, test ρ1 = .ok (.bl (p x), ρ2) ∧ (p x = true → ∃ ρ3, elt ρ2 = .ok (f x, ρ3))) → lcGo put test elt (xs.map enc) ρ = .ok ((xs.filter p).map f)
  | [], _ => rfl
  | x :: xs, h => by
    obtain ⟨ρ1, h1, ρ2, h2, h3⟩ := h x (by simp)
    have ih := lc_map0 enc p f xs fun y hy => h y (by simp [hy])
    simp only [List.map_cons, lcGo, h1, h2]
    cases hp : p x with
    | true =>
      obtain ⟨ρ3, h4⟩ := h3 hp
      simp only [h4, ih, List.filter_cons, hp, if_true, List.map_cons]
    | false => simp only [ih, List.filter_cons, hp, Bool.false_eq_true, if_false]
theorem lc_map {α : Type} {put : D → Env → Option Env} {test elt : Env → Res (D × Env)} {ds : List D} {ρ : Env} {o : Res (List D)} (h : lcGo put test elt ds ρ = o) (enc : α → D) (xs : List α) (p : α → Bool) (f : α → D) (e : ds = xs.map enc)
    (st : ∀ x ∈ xs, ∃ ρ1, put (enc x) ρ = some ρ1 ∧ ∃ ρ2, test ρ1 = .ok (.bl (p x), ρ2) ∧ (p x = true → ∃ ρ3, elt ρ2 = .ok (f x, ρ3))) : o = .ok ((xs.filter p).map f) := by
  subst e
  exact h.symm.trans (lc_map0 enc p f xs st)
/-- a comprehension without a test -/
theorem lc_all {α : Type} {put : D → Env → Option Env} {elt : Env → Res (D × Env)} {Φ : Nat → FnSem} {ds : List D} {ρ : Env} {o : Res (List D)} (h : lcGo put (evE Φ (.cst (.bl true))) elt ds ρ = o) (enc : α → D) (xs : List α) (f : α → D) (e : ds = xs.map enc)
    (st : ∀ x ∈ xs, ∃ ρ1, put (enc x) ρ = some ρ1 ∧ ∃ ρ3, elt ρ1 = .ok (f x, ρ3)) : o = .ok (xs.map f) := by
  have := lc_map h enc xs (fun _ => true) f e fun x hx => by
    obtain ⟨ρ1, h1, ρ3, h3⟩ := st x hx
    exact ⟨ρ1, h1, ρ1, by simp only [evE], fun _ => ⟨ρ3, h3⟩⟩
  rw [this, List.filter_eq_self.mpr (by simp)]
/-- a def's reckoning -/
theorem run_at {n f : Nat} {ds : List D} {d : IDef} (hd : defs f = d) (h : ds.length = d.np) {X : Res (D × Env)} (g : (match evSs (sems defs n) d.body (start d.ns ds) with
    | .rt x ρ => .ok (x, if d.mut = true then [gt ρ 0] else [])
    | .nx ρ => .ok (.non, if d.mut = true then [gt ρ 0] else [])
    | .exc c => .exc c
    | .bad => .bad) = X) (hj : d.mj = none := by rfl) : (sems defs (n + 1) f).run ds = X := by
  subst hd
  have mx : ∀ ρ, (defs f).mx ρ = [] := fun ρ => by unfold IDef.mx; rw [hj]
  exact (run_of h).trans (by simp only [mx]; exact g)
theorem run_rt {n f : Nat} {ds : List D} {d : IDef} (hd : defs f = d) (h : ds.length = d.np) (hm : d.mut = false) {x : D} {ρ : Env} (g : evSs (sems defs n) d.body (start d.ns ds) = .rt x ρ) (hj : d.mj = none := by rfl) : (sems defs (n + 1) f).run ds = .ok (x, []) :=
  run_at hd h (by rw [g, hm]; rfl) hj
theorem run_ex {n f : Nat} {ds : List D} {d : IDef} (hd : defs f = d) (h : ds.length = d.np) {c : Nat} (g : evSs (sems defs n) d.body (start d.ns ds) = .exc c) (hj : d.mj = none := by rfl) : (sems defs (n + 1) f).run ds = .exc c :=
  run_at hd h (by rw [g]) hj
theorem suc_of {k n : Nat} (h : k + 1 ≤ n) : ∃ m, n = m + 1 ∧ k ≤ m := ⟨n - 1, by omega, by omega⟩
theorem ints_map : ∀ xs : List Int, ints? (xs.map .int) = some xs
  | [] => rfl
  | x :: xs => by simp [ints?, ints_map xs]
theorem eqS_ii (i j : Int) : eqS (.int i) (.int j) = some (decide (i = j)) := by
  show some (i == j) = _
  by_cases h : i = j <;> simp [h]
theorem eqS_bb (i j : Bool) : eqS (.bl i) (.bl j) = some (decide (i = j)) := by
  show some (i == j) = _
  cases i <;> cases j <;> rfl
theorem isSc_i (i : Int) : (D.int i).isSc = true := rfl
theorem isSc_b (i : Bool) : (D.bl i).isSc = true := rfl
theorem isSc_s (i : Str) : (D.str i).isSc = true := rfl
theorem isSc_n : D.non.isSc = true := rfl
theorem isNon_i (i : Int) : (D.int i).isNon = false := rfl
theorem isNon_b (i : Bool) : (D.bl i).isNon = false := rfl
theorem isNon_l (i : List D) : (D.lst i).isNon = false := rfl
theorem isNon_n : D.non.isNon = true := rfl
theorem inF_ints (x : Int) : ∀ xs : List Int, inF (.int x) (xs.map .int) = some (decide (x ∈ xs))
  | [] => by simp [inF, D.isSc]
  | y :: xs => by
    simp only [List.map_cons, inF, eqS_ii, inF_ints x xs]
    by_cases h : y = x <;> by_cases k : x ∈ xs <;> simp [h, k, eq_comm] <;> (intro z; exact h z.symm)
theorem nth_nat {α : Type} (xs : List α) (k : Nat) : nth xs (k : Int) = xs[k]? := by
  unfold nth ixAt
  rw [if_pos (by omega)]
  by_cases h : k < xs.length
  · rw [if_pos (by omega)]; simp
  · rw [if_neg (by omega)]; simp [Nat.le_of_not_lt h]
theorem ints_mapf {α : Type} (f : α → Int) : ∀ xs : List α, ints? (xs.map fun x => .int (f x)) = some (xs.map f)
  | [] => rfl
  | x :: xs => by simp [ints?, ints_mapf f xs]
theorem range_split {L k : Nat} {p r : List Nat} (h : List.range L = p ++ k :: r) : k = p.length ∧ k < L := by
  have h1 : (List.range L)[p.length]? = some k := by rw [h]; simp
  obtain ⟨h2, h3⟩ := List.getElem?_eq_some_iff.mp h1
  simp at h2 h3
  exact ⟨h3.symm, by omega⟩
/-- lists of whole numbers, rows, pairs -/
def li (xs : List Int) : D := .lst (xs.map .int)
def lli (xs : List (List Int)) : D := .lst (xs.map li)
end TW.M

/-! ## trees: a metric of roads -/
namespace TW.M
abbrev Rd := Int × Int × Int
/-- a tree's metric -/
structure TM (V : Int → Prop) (E : Int → Int → Int → Prop) (d : Int → Int → Int) : Prop where
  symm : ∀ x y, d x y = d y x
  self : ∀ x, V x → d x x = 0
  pos : ∀ x y, V x → V y → x ≠ y → 1 ≤ d x y
  four : ∀ x y z w, V x → V y → V z → V w → d x y + d z w ≤ d x z + d y w ∨ d x y + d z w ≤ d x w + d y z
  e : ∀ x y l, E x y l → V x ∧ V y ∧ x ≠ y ∧ 1 ≤ l ∧ d x y = l
  esym : ∀ x y l, E x y l → E y x l
  step : ∀ x y, V x → V y → x ≠ y → ∃ z l, E x z l ∧ d x y = l + d z y
  two : ∀ x z w l m, E x z l → E x w m → z ≠ w → d z w = l + m
  side : ∀ x z l y, E x z l → V y → d x y = l + d z y ∨ d z y = l + d x y
def gvs (r : Int) (g : List Rd) : List Int := g.map (·.1) ++ [r]
/-- leaves put on, the last one first -/
def WF (r : Int) : List Rd → Prop
  | [] => True
  | (v, p, l) :: g => v ∉ gvs r g ∧ p ∈ gvs r g ∧ 1 ≤ l ∧ WF r g
def gd : List Rd → Int → Int → Int
  | [], _, _ => 0
  | (v, p, l) :: g, x, y => if x = v then (if y = v then 0 else l + gd g p y) else if y = v then l + gd g x p else gd g x y
def gE (g : List Rd) (x y l : Int) : Prop := (x, y, l) ∈ g ∨ (y, x, l) ∈ g
end TW.M

namespace TW.M
/-- come to from a place, along roads, to none that is barred -/
inductive Rch (rs : List Rd) (bar : List Int) (s : Int) : Int → Prop
  | base : Rch rs bar s s
  | step {u v l : Int} : Rch rs bar s u → gE rs u v l → v ∉ bar → Rch rs bar s v
abbrev Pl (n : Nat) (x : Int) : Prop := 0 ≤ x ∧ x < n
def RdOk (n : Nat) (r : Rd) : Prop := Pl n r.1 ∧ Pl n r.2.1 ∧ r.1 ≠ r.2.1 ∧ 1 ≤ r.2.2
structure IsT (n : Nat) (rs : List Rd) : Prop where
  len : rs.length + 1 = n
  ok : ∀ r ∈ rs, RdOk n r
  conn : ∀ v, Pl n v → Rch rs [] 0 v
def nm (r : Rd) : Rd := (min r.1 r.2.1, max r.1 r.2.1, r.2.2)
def nm2 (r : Rd) : Int × Int := (min r.1 r.2.1, max r.1 r.2.1)
theorem len_of_sub {α : Type} [DecidableEq α] : ∀ {l1 l2 : List α}, l1.Nodup → (∀ x ∈ l1, x ∈ l2) → l1.length ≤ l2.length
  | [], _, _, _ => by simp
  | x :: l1, l2, h, s => by
    rw [List.nodup_cons] at h
    have m := s x (by simp)
    have := len_of_sub (l1 := l1) (l2 := l2.erase x) h.2 fun y hy => by
      have yx : y ≠ x := fun e => h.1 (e ▸ hy)
      exact (List.mem_erase_of_ne yx).mpr (s y (by simp [hy]))
    rw [List.length_erase_of_mem m] at this
    have := List.length_pos_of_mem m
    simp; omega
def plc (n : Nat) : List Int := (List.range n).map fun (k : Nat) => (k : Int)
/-- a tree with its metric -/
structure Tr (n : Nat) (rs : List Rd) (d : Int → Int → Int) : Prop where
  tm : TM (Pl n) (gE rs) d
  len : rs.length + 1 = n
  ok : ∀ r ∈ rs, RdOk n r
  nd : (rs.map nm2).Nodup
end TW.M

namespace TW.M
open PySem
def rd (r : Rd) : D := .lst [.int r.1, .int r.2.1, .int r.2.2]
def rds (rs : List Rd) : D := .lst (rs.map rd)
def pr (p : Int × Int) : D := .tup [.int p.1, .int p.2]
def nb1 (r : Rd) (p : Int) : List (Int × Int) := (if r.1 = p then [(r.2.1, r.2.2)] else []) ++ (if r.2.1 = p then [(r.1, r.2.2)] else [])
/-- the neighbours of a place -/
def nbs (rs : List Rd) (p : Int) : List (Int × Int) := rs.flatMap fun r => nb1 r p
/-- what a spreading tells -/
structure Spr (rs : List Rd) (bar : List Int) (s : Int) (ks : List (Int × Int)) : Prop where
  head : ∃ r, ks = (s, s) :: r
  nd : (ks.map (·.1)).Nodup
  mem : ∀ v, v ∈ ks.map (·.1) ↔ Rch rs bar s v
  par : ∀ pre v p post, ks = pre ++ (v, p) :: post → pre ≠ [] → p ∈ pre.map (·.1) ∧ (∃ l, gE rs p v l) ∧ v ∉ bar
def dks (ks : List (Int × Int)) : List (Int × D) := ks.map fun k => (k.1, .int k.2)
end TW.M

namespace TW.M
open PySem
/-- on the way -/
structure Spr0 (rs : List Rd) (bar : List Int) (s : Int) (ks : List (Int × Int)) : Prop where
  head : ∃ r, ks = (s, s) :: r
  nd : (ks.map (·.1)).Nodup
  mem : ∀ v, v ∈ ks.map (·.1) → Rch rs bar s v
  par : ∀ pre v p post, ks = pre ++ (v, p) :: post → pre ≠ [] → p ∈ pre.map (·.1) ∧ (∃ l, gE rs p v l) ∧ v ∉ bar
def ends (rs : List Rd) : List Int := rs.flatMap fun r => [r.1, r.2.1]
theorem ends_len : ∀ rs : List Rd, (ends rs).length = 2 * rs.length
  | [] => rfl
  | r :: rs => by have := ends_len rs; simp only [ends, List.flatMap_cons, List.length_append, List.length_cons] at *; simp at *; omega
theorem Spr0.len {rs : List Rd} {bar : List Int} {s : Int} {ks : List (Int × Int)} (h : Spr0 rs bar s ks) : ks.length ≤ 2 * rs.length + 1 := by
  have := len_of_sub (l2 := s :: ends rs) h.nd fun v hv => by
    have r := h.mem v hv
    cases r with
    | base => simp
    | step a e b =>
      refine List.mem_cons_of_mem _ (List.mem_flatMap.mpr ?_)
      rcases e with e | e
      · exact ⟨_, e, by simp⟩
      · exact ⟨_, e, by simp⟩
  simp [ends_len] at this; omega
/-- all that is come to from what was looked at is there -/
def Clo (rs : List Rd) (bar : List Int) (us ks : List Int) : Prop := ∀ u ∈ us, ∀ v l, gE rs u v l → v ∈ ks ∨ v ∈ bar
end TW.M

namespace TW.M
section
variable {V : Int → Prop} {E : Int → Int → Int → Prop} {d : Int → Int → Int}
namespace TM
variable (T : TM V E d)
include T
theorem nn {x y : Int} (hx : V x) (hy : V y) : 0 ≤ d x y := by
  by_cases e : x = y
  · rw [e, T.self y hy]; exact Int.le_refl _
  · have := T.pos x y hx hy e; omega
theorem zero {x y : Int} (hx : V x) (hy : V y) (h : d x y ≤ 0) : x = y := Classical.byContradiction fun e => by
  have := T.pos x y hx hy e; omega
theorem tri {x y z : Int} (hx : V x) (hy : V y) (hz : V z) : d x y ≤ d x z + d z y := by
  have := T.four x y z z hx hy hz hz
  have := T.self z hz
  have := T.symm y z; omega
theorem uniq {x y z w l m : Int} (a : E x z l) (b : E x w m) (hy : V y) (h : d x y = l + d z y) (k : d x y = m + d w y) : z = w := Classical.byContradiction fun n => by
  obtain ⟨hx, hz, _, _, dz⟩ := T.e _ _ _ a
  obtain ⟨_, hw, _, _, dw⟩ := T.e _ _ _ b
  have t := T.two x z w l m a b n
  have f := T.four z w x y hz hw hx hy
  have := T.symm z x; have := T.symm w x
  omega
theorem lab {x z l m : Int} (a : E x z l) (b : E x z m) : l = m := (T.e _ _ _ a).2.2.2.2.symm.trans (T.e _ _ _ b).2.2.2.2
end TM
end
/-- a way to b -/
def IsWay (rs : List Rd) (d : Int → Int → Int) (b : Int) : List Int → Prop
  | [] => False
  | [x] => x = b
  | x :: y :: r => (∃ l, gE rs x y l ∧ d x b = l + d y b) ∧ IsWay rs d b (y :: r)
theorem IsWay.last {rs : List Rd} {d : Int → Int → Int} {b : Int} : ∀ {ps : List Int}, IsWay rs d b ps → ps.getLast? = some b
  | [x], h => by have h : x = b := h; subst h; rfl
  | x :: y :: r, h => by
    have := h.2.last
    rw [List.getLast?_cons_cons]; exact this
theorem IsWay.mem {n : Nat} {rs : List Rd} {d : Int → Int → Int} (T : TM (Pl n) (gE rs) d) {b : Int} (hb : Pl n b) : ∀ {a : Int} {ps : List Int}, Pl n a → IsWay rs d b (a :: ps) → ∀ z, z ∈ a :: ps ↔ Pl n z ∧ d a z + d z b = d a b
  | a, [], ha, h, z => by
    have h : a = b := h
    subst h
    have s := T.self a ha
    simp only [List.mem_singleton]
    constructor
    · rintro rfl; exact ⟨ha, by omega⟩
    · rintro ⟨hz, e⟩
      have := T.nn hz ha
      have c := T.symm z a
      exact (T.zero hz ha (by omega))
  | a, y :: r, ha, ⟨⟨l, e, hd⟩, h⟩, z => by
    obtain ⟨_, hy, ay, hl, day⟩ := T.e _ _ _ e
    have ih := IsWay.mem T hb hy h z
    rw [List.mem_cons, ih]
    have sa := T.self a ha
    constructor
    · rintro (rfl | ⟨hz, k⟩)
      · exact ⟨ha, by omega⟩
      · refine ⟨hz, ?_⟩
        have t1 := T.tri ha hz hy
        have t2 := T.tri ha hb hz
        omega
    · rintro ⟨hz, k⟩
      by_cases az : z = a
      · exact .inl az
      right
      refine ⟨hz, ?_⟩
      obtain ⟨y', l', e', h'⟩ := T.step a z ha hz (Ne.symm az)
      obtain ⟨_, hy', _, hl', _⟩ := T.e _ _ _ e'
      have t1 := T.tri hy' hb hz
      have s1 := T.side a y' l' b e' hb
      have : d a b = l' + d y' b := by omega
      have := T.uniq e e' hb hd this
      subst this
      have := T.lab e e'
      omega
theorem IsWay.uniq {n : Nat} {rs : List Rd} {d : Int → Int → Int} (T : TM (Pl n) (gE rs) d) {b : Int} (hb : Pl n b) : ∀ {a : Int} {ps qs : List Int}, Pl n a → IsWay rs d b (a :: ps) → IsWay rs d b (a :: qs) → ps = qs
  | a, [], [], _, _, _ => rfl
  | a, [], y :: r, ha, h, ⟨⟨l, e, hd⟩, k⟩ => by
    have h : a = b := h
    subst h
    obtain ⟨_, hy, ay, hl, day⟩ := T.e _ _ _ e
    have := T.self a ha; have := T.nn hy ha; omega
  | a, y :: r, [], ha, ⟨⟨l, e, hd⟩, k⟩, h => by
    have h : a = b := h
    subst h
    obtain ⟨_, hy, ay, hl, day⟩ := T.e _ _ _ e
    have := T.self a ha; have := T.nn hy ha; omega
  | a, y :: r, y' :: r', ha, ⟨⟨l, e, hd⟩, k⟩, ⟨⟨l', e', hd'⟩, k'⟩ => by
    have := T.uniq e e' hb hd hd'
    subst this
    rw [IsWay.uniq T hb (T.e _ _ _ e).2.1 k k']
end TW.M

namespace TW.M
open PySem
theorem rng0 (n : Nat) : rng 0 (n : Int) 1 = plc n := by
  unfold rng plc
  rw [if_pos (by decide)]
  have : (((n : Int) - 0 + 1 - 1) / 1).toNat = n := by simp
  rw [this]
  exact List.map_congr_left fun k _ => by omega
def rl (r : Rd) : List Int := [r.1, r.2.1, r.2.2]
/-- rows that make a tree of so many places -/
def TreeOf (many : Int) (rows : List (List Int)) : Prop := ∃ (n : Nat) (rs : List Rd), many = n ∧ n ≤ 12 ∧ rows = rs.map rl ∧ IsT n rs
end TW.M

namespace TW.M
open PySem
section
variable {n : Nat} {rs : List Rd} {d : Int → Int → Int}
theorem Tr.small (T : Tr n rs d) (h12 : n ≤ 12) : rs.length ≤ 1000 := by have := T.len; omega
end
end TW.M

namespace TW.M
open PySem
theorem sc_ints (xs : List Int) : (xs.map D.int).all D.isSc = true := by simp [D.isSc]
section
variable {n : Nat} {rs : List Rd} {d : Int → Int → Int}
theorem IsWay.at {b : Int} : ∀ {ps : List Int}, IsWay rs d b ps → ∀ k, k + 1 < ps.length → ∃ x y l, ps[k]? = some x ∧ ps[k + 1]? = some y ∧ gE rs x y l ∧ d x b = l + d y b
  | [x], _, k, hk => by simp at hk
  | x :: y :: r, ⟨⟨l, e, hd⟩, h⟩, 0, _ => ⟨x, y, l, rfl, rfl, e, hd⟩
  | x :: y :: r, ⟨_, h⟩, k + 1, hk => by
    obtain ⟨u, v, l, h1, h2, h3⟩ := h.at k (by simpa using hk)
    exact ⟨u, v, l, by simpa using h1, by simpa using h2, h3⟩
def fks (d : Int → Int → Int) (s : Int) (vs : List Int) : List (Int × D) := vs.map fun v => (v, .int (d s v))
end
end TW.M

namespace TW.M
theorem Rch.trans {rs : List Rd} {u v w : Int} (h : Rch rs [] u v) (k : Rch rs [] v w) : Rch rs [] u w := by
  induction k with
  | base => exact h
  | step _ e b ih => exact .step ih e b
theorem Rch.one {rs : List Rd} {u v l : Int} (e : gE rs u v l) : Rch rs [] u v := .step .base e (by simp)
theorem gE_symm {rs : List Rd} {u v l : Int} (e : gE rs u v l) : gE rs v u l := Or.symm e
theorem Rch.symm {rs : List Rd} {u v : Int} (h : Rch rs [] u v) : Rch rs [] v u := by
  induction h with
  | base => exact .base
  | step _ e b ih => exact (Rch.one (gE_symm e)).trans ih
/-- a map of places that keeps roads, or lets them fall together -/
theorem Rch.map {rs rs' : List Rd} (f : Int → Int) (hf : ∀ x y l, gE rs x y l → f x = f y ∨ ∃ l', gE rs' (f x) (f y) l') {u v : Int} (h : Rch rs [] u v) : Rch rs' [] (f u) (f v) := by
  induction h with
  | base => exact .base
  | step _ e b ih =>
    rcases hf _ _ _ e with h | ⟨l', h⟩
    · rw [← h]; exact ih
    · exact ih.trans (.one h)
theorem Rch.mono {rs rs' : List Rd} (hf : ∀ x y l, gE rs x y l → ∃ l', gE rs' x y l') {u v : Int} (h : Rch rs [] u v) : Rch rs' [] u v :=
  h.map id fun x y l e => .inr (hf x y l e)
/-- a leaf hung to another place -/
def rehang (p o : Int) (t : Bool) (r : Rd) : Rd := if p = r.1 ∨ p = r.2.1 then (if t then (p, o, r.2.2) else (o, p, r.2.2)) else r
/-- roads at a place -/
def deg (rs : List Rd) (p : Int) : Nat := (rs.filter fun r => decide (p = r.1 ∨ p = r.2.1)).length
end TW.M

namespace TW.M
open PySem
def mix (a k : Int) : Int := (a * a + k * a + 7 * k * k) * 1103515245 % 2147483629 * ((a * a + k * a + 7 * k * k) * 1103515245 % 2147483629) % 2147483587
theorem run_mix {n : Nat} (hn : 1 ≤ n) {a k : Int} (ha : Sz 2000000 a) (hk : Sz 2000000 k) : (sems defs n 4).run [.int a, .int k] = .ok (.int (mix a k), []) := by
  obtain ⟨n, rfl, -⟩ := suc_of hn
  have s7 : Sz 2000000 7 := Sz.mono (Sz.small (by decide) (by decide)) (by decide)
  have h7 := s7.mul hk
  have h77 := h7.mul hk
  have hs := ((ha.mul ha).add (hk.mul ha) (Nat.le_refl _) (Nat.le_refl _)).add h77 (k := 6000000) (by decide) (by decide)
  have hc : Sz 31 1103515245 := Sz.of (by decide) (by decide)
  have hm : Sz 31 ((a * a + k * a + 7 * k * k) * 1103515245 % 2147483629) := Sz.mod (by decide) (by decide)
  have h1 : mulOk a a = true := ha.ok ha (by decide)
  have h2 : mulOk k a = true := hk.ok ha (by decide)
  have h3 : mulOk 7 k = true := s7.ok hk (by decide)
  have h4 : mulOk (7 * k) k = true := h7.ok hk (by decide)
  have h5 : mulOk (a * a + k * a + 7 * k * k) 1103515245 = true := hs.ok hc (by decide)
  have h6 : mulOk ((a * a + k * a + 7 * k * k) * 1103515245 % 2147483629) ((a * a + k * a + 7 * k * k) * 1103515245 % 2147483629) = true := hm.ok hm (by decide)
  refine run_at (d := d__law_mix) rfl rfl ?_
  simp [d__law_mix, evE.eq_1, evE.eq_2, evE.eq_3, evE.eq_4, evE.eq_5, evE.eq_6, evE.eq_7, evE.eq_8, evE.eq_9, evE.eq_10, evE.eq_11, evE.eq_12, evE.eq_13, evE.eq_14, evE.eq_15, evE.eq_16, evE.eq_17, evE.eq_18, evE.eq_19, evE.eq_20, evE.eq_21, evE.eq_22, evE.eq_23, evE.eq_24, evE.eq_25, evE.eq_26, evE.eq_27, evE.eq_28, evE.eq_29, evE.eq_30, T1.run, T2.run, evEs.eq_1, evEs.eq_2, evS.eq_1, evS.eq_2, evS.eq_3, evS.eq_4, evS.eq_5, evS.eq_6, evS.eq_7, evS.eq_8, evS.eq_9, evS.eq_10, evS.eq_11, evS.eq_12, evS.eq_13, evS.eq_14, evS.eq_15, evS.eq_16, evS.eq_17, evS.eq_18, evS.eq_19, evS.eq_20, evS.eq_21, evS.eq_22, evS.eq_23, evSs.eq_1, evSs.eq_2, evSs.eq_3, TW.gt, TW.st, TW.sts, TW.start, List.map_cons, List.map_nil, List.length_cons, List.length_nil, List.length_map, List.replicate_succ, List.replicate_zero, Nat.reduceAdd, Nat.reduceSub, List.cons_append, List.nil_append, Tg.put, Tg.names, srcRes, srcOf, Sk.out, Sk.pure, wipeE, Op1.run, Op2.run, slc3, okI, okB, okA, okT, isSc_i, isSc_b, isSc_s, isSc_n, isNon_i, isNon_b, isNon_l, isNon_n, eqS_ii, eqS_bb, inF_ints, ints_map, ints_mapf, bit, IDef.mut, kAt, ownK, if_true, if_false, ↓reduceIte, Bool.false_eq_true, decide_true, decide_false, Bool.not_true, Bool.not_false, true_and, and_true, and_self, Option.isSome_some, Option.isSome_none, eq_self, h1, h2, h3, h4, h5, h6, mix]
/-- the k-th number of the script -/
def cellAt (ns : List Int) (k : Nat) : Int := ns.getD k 0
def older (c k : Int) : Int := ([k - 1, 0, mix (c / 5 + k * k) 1 % k, (let j := k - 1 - mix (c / 5 + k * k) 1 % 3; if j > 0 then j else 0), (k - 1) / 2] : List Int).getD (c % 5).toNat 0
def size (c k : Int) : Int := let m := mix (c + 3 * k * k) 2
  ([1 + m % 9, 1 + m % 2, (1 + m % 4) * 1000000000000000000000000000000 + m % 5, 1 + c * m % 1000000000000000000000000000000000000000] : List Int).getD (c / 5 % 4).toNat 0
def big39 : Int := 1000000000000000000000000000000000000000
theorem log_small {x : Int} (h0 : 0 < x) (h : x ≤ 8000) : x.natAbs.log2 < 9000 := Nat.lt_of_le_of_lt (Nat.log2_le_self _) (by omega)
theorem nth_li {xs : List Int} {k : Nat} (h : k < xs.length) : nth (xs.map D.int) (k : Int) = some (.int (xs.getD k 0)) := by
  rw [nth_nat, List.getElem?_map, List.getD_eq_getElem?_getD, List.getElem?_eq_getElem h]; rfl
theorem getD_mem {xs : List Int} {k : Nat} (h : k < xs.length) : xs.getD k 0 ∈ xs := by
  rw [List.getD_eq_getElem?_getD, List.getElem?_eq_getElem h]; exact List.getElem_mem h
end TW.M

/-! ## a def's body, statement by statement -/
namespace TW
def dropS : Nat → ISs → ISs
  | 0, b => b
  | k + 1, .cons _ r => dropS k r
  | _, _ => .nil
def nthS : Nat → ISs → IS
  | 0, .cons s _ => s
  | k + 1, .cons _ r => nthS k r
  | _, _ => .dead
theorem step_at {Φ : Nat → FnSem} {b : ISs} {ρ ρ1 : Env} (k : Nat) (hb : dropS k b = .cons (nthS k b) (dropS (k + 1) b)) (h : evS Φ (nthS k b) ρ = .nx ρ1) : evSs Φ (dropS k b) ρ = evSs Φ (dropS (k + 1) b) ρ1 := by
  rw [hb, evSs.eq_2, h]
end TW
namespace TW
def forB : IS → ISs
  | .for _ _ _ _ _ b => b
  | _ => .nil
end TW

/-! ## texts: counts, numbers, rows -/
namespace TW.M
open PySem
theorem len_mk (l : List Nat) : (mkS l).length = l.length := by simp [mkS, Str.length]
theorem one_mk (c : Nat) : (⟨#[c]⟩ : Str) = mkS [c] := rfl
theorem cps_mk (l : List Nat) : (mkS l).cps.toList = l := rfl
theorem app_mk (a b : List Nat) : mkS a ++ mkS b = mkS (a ++ b) := TL.ext_tl (TL.tl_append _ _)
theorem mk_inj {a b : List Nat} : mkS a = mkS b ↔ a = b := ⟨fun h => by have := congrArg tlS h; rwa [tlS_mk, tlS_mk] at this, fun h => by rw [h]⟩
theorem eqS_ss (a b : List Nat) : eqS (.str (mkS a)) (.str (mkS b)) = some (decide (a = b)) := by
  show some (mkS a == mkS b) = _
  by_cases h : a = b
  · subst h; simp
  · simp [h, mk_inj]
theorem signs_mk (l : List Nat) : signs (mkS l) = l.map fun c => .str (mkS [c]) := rfl
theorem cFig : ("0123456789" : Str) = mkS [48, 49, 50, 51, 52, 53, 54, 55, 56, 57] := by decide +kernel
theorem c0 : ("0" : Str) = mkS [48] := by decide +kernel
theorem cMinus : ("-" : Str) = mkS [45] := by decide +kernel
theorem cDot : ("." : Str) = mkS [46] := by decide +kernel
theorem cSp : (" " : Str) = mkS [32] := by decide +kernel
theorem cSl : (" / " : Str) = mkS [32, 47, 32] := by decide +kernel
theorem cNo : ("" : Str) = mkS [] := by decide +kernel
theorem t2_nin (c : Nat) (S : List Nat) : T2.run .ninS (mkS [c]) (.str (mkS S)) = some (.bl (!decide (c ∈ S))) := rfl
theorem t1_int {l : List Nat} (h : l ≠ [] ∧ l.length ≤ 640 ∧ ∀ c ∈ l, 48 ≤ c ∧ c ≤ 57) : T1.run .intS (.str (mkS l)) = some (.int (digV l)) := by
  show (if tlS (mkS l) ≠ [] ∧ _ ∧ _ then _ else _) = _
  refine if_pos ⟨h.1, List.all_eq_true.mpr fun c hc => ?_, by rw [len_mk]; exact h.2.1⟩
  have := h.2.2 c hc
  simp [this]
theorem t2_starts (l S : List Nat) (h : S ≠ []) : T2.run .starts (mkS l) (.str (mkS S)) = some (.bl (preT S l)) := if_pos h
theorem t2_lo (l : List Nat) (i : Int) (h : l.length ≤ lim) : T2.run .lo (mkS l) (.int i) = some (.str (mkS (cut l (some i) none))) := if_pos (by rw [len_mk]; exact h)
/-- one to so many signs, each of S -/
def allIn (l S : List Nat) (k : Nat) : Bool := decide (l ≠ [] ∧ l.length ≤ k ∧ ∀ c ∈ l, c ∈ S)
theorem run_all_in {m : Nat} (hm : 1 ≤ m) {l S : List Nat} {k : Nat} (hl : l.length ≤ lim) : (sems defs m 217).run [.str (mkS l), .str (mkS S), .int k] = .ok (.bl (allIn l S k), []) := by
  obtain ⟨m, rfl, hm1⟩ := suc_of hm
  suffices H : ∃ ρ, evSs (sems defs m) d_all_in.body (start d_all_in.ns [.str (mkS l), .str (mkS S), .int k]) = .rt (.bl (allIn l S k)) ρ by
    obtain ⟨ρ, e⟩ := H
    exact run_rt (d := d_all_in) rfl rfl rfl e
  obtain ⟨o1, ho⟩ : ∃ o1, evSs (sems defs m) d_all_in.body (start d_all_in.ns [.str (mkS l), .str (mkS S), .int k]) = o1 := ⟨_, rfl⟩
  rw [ho]
  have b1 : (mkS l).length ≤ lim := by rw [len_mk]; exact hl
  have z0 : 0 ≤ lim := Nat.zero_le _
  by_cases h0 : l = []
  · subst h0
    have e : decide (((0 : Nat) : Int) = 0) = true := by decide
    simp only [d_all_in, evE.eq_1, evE.eq_2, evE.eq_3, evE.eq_4, evE.eq_5, evE.eq_6, evE.eq_7, evE.eq_8, evE.eq_9, evE.eq_10, evE.eq_11, evE.eq_12, evE.eq_13, evE.eq_14, evE.eq_15, evE.eq_16, evE.eq_17, evE.eq_18, evE.eq_19, evE.eq_20, evE.eq_21, evE.eq_22, evE.eq_23, evE.eq_24, evE.eq_25, evE.eq_26, evE.eq_27, evE.eq_28, evE.eq_29, evE.eq_30, T1.run, T2.run, evEs.eq_1, evEs.eq_2, evS.eq_1, evS.eq_2, evS.eq_3, evS.eq_4, evS.eq_5, evS.eq_6, evS.eq_7, evS.eq_8, evS.eq_9, evS.eq_10, evS.eq_11, evS.eq_12, evS.eq_13, evS.eq_14, evS.eq_15, evS.eq_16, evS.eq_17, evS.eq_18, evS.eq_19, evS.eq_20, evS.eq_21, evS.eq_22, evS.eq_23, evSs.eq_1, evSs.eq_2, evSs.eq_3, TW.gt, TW.st, TW.sts, TW.start, List.map_cons, List.map_nil, List.length_cons, List.length_nil, List.length_map, List.replicate_succ, List.replicate_zero, Nat.reduceAdd, Nat.reduceSub, List.cons_append, List.nil_append, Tg.put, Tg.names, srcRes, srcOf, Sk.out, Sk.pure, wipeE, Op1.run, Op2.run, slc3, okI, okB, okA, okT, isSc_i, isSc_b, isSc_s, isSc_n, isNon_i, isNon_b, isNon_l, isNon_n, eqS_ii, eqS_bb, inF_ints, ints_map, ints_mapf, bit, IDef.mut, kAt, ownK, if_true, if_false, ↓reduceIte, Bool.false_eq_true, decide_true, decide_false, Bool.not_true, Bool.not_false, true_and, and_true, and_self, Option.isSome_some, Option.isSome_none, eq_self, b1, z0, len_mk, eqS_ii, e] at ho
    have : allIn [] S k = false := by simp [allIn]
    rw [this]
    exact ⟨_, ho.symm⟩
  have h1 : decide ((l.length : Int) = 0) = false := decide_eq_false (by
    have : l.length ≠ 0 := fun z => h0 (List.length_eq_zero_iff.mp z)
    omega)
  by_cases h2 : l.length ≤ k
  rotate_left
  · have e : decide ((k : Int) < (l.length : Int)) = true := decide_eq_true (by omega)
    simp only [d_all_in, evE.eq_1, evE.eq_2, evE.eq_3, evE.eq_4, evE.eq_5, evE.eq_6, evE.eq_7, evE.eq_8, evE.eq_9, evE.eq_10, evE.eq_11, evE.eq_12, evE.eq_13, evE.eq_14, evE.eq_15, evE.eq_16, evE.eq_17, evE.eq_18, evE.eq_19, evE.eq_20, evE.eq_21, evE.eq_22, evE.eq_23, evE.eq_24, evE.eq_25, evE.eq_26, evE.eq_27, evE.eq_28, evE.eq_29, evE.eq_30, T1.run, T2.run, evEs.eq_1, evEs.eq_2, evS.eq_1, evS.eq_2, evS.eq_3, evS.eq_4, evS.eq_5, evS.eq_6, evS.eq_7, evS.eq_8, evS.eq_9, evS.eq_10, evS.eq_11, evS.eq_12, evS.eq_13, evS.eq_14, evS.eq_15, evS.eq_16, evS.eq_17, evS.eq_18, evS.eq_19, evS.eq_20, evS.eq_21, evS.eq_22, evS.eq_23, evSs.eq_1, evSs.eq_2, evSs.eq_3, TW.gt, TW.st, TW.sts, TW.start, List.map_cons, List.map_nil, List.length_cons, List.length_nil, List.length_map, List.replicate_succ, List.replicate_zero, Nat.reduceAdd, Nat.reduceSub, List.cons_append, List.nil_append, Tg.put, Tg.names, srcRes, srcOf, Sk.out, Sk.pure, wipeE, Op1.run, Op2.run, slc3, okI, okB, okA, okT, isSc_i, isSc_b, isSc_s, isSc_n, isNon_i, isNon_b, isNon_l, isNon_n, eqS_ii, eqS_bb, inF_ints, ints_map, ints_mapf, bit, IDef.mut, kAt, ownK, if_true, if_false, ↓reduceIte, Bool.false_eq_true, decide_true, decide_false, Bool.not_true, Bool.not_false, true_and, and_true, and_self, Option.isSome_some, Option.isSome_none, eq_self, b1, hl, len_mk, eqS_ii, h1, e] at ho
    have : allIn l S k = false := by simp [allIn, h2]
    rw [this]
    exact ⟨_, ho.symm⟩
  have e : decide ((k : Int) < (l.length : Int)) = false := decide_eq_false (by omega)
  simp only [d_all_in, evE.eq_1, evE.eq_2, evE.eq_3, evE.eq_4, evE.eq_5, evE.eq_6, evE.eq_7, evE.eq_8, evE.eq_9, evE.eq_10, evE.eq_11, evE.eq_12, evE.eq_13, evE.eq_14, evE.eq_15, evE.eq_16, evE.eq_17, evE.eq_18, evE.eq_19, evE.eq_20, evE.eq_21, evE.eq_22, evE.eq_23, evE.eq_24, evE.eq_25, evE.eq_26, evE.eq_27, evE.eq_28, evE.eq_29, evE.eq_30, T1.run, T2.run, evEs.eq_1, evEs.eq_2, evS.eq_1, evS.eq_2, evS.eq_3, evS.eq_4, evS.eq_5, evS.eq_6, evS.eq_7, evS.eq_8, evS.eq_9, evS.eq_10, evS.eq_11, evS.eq_12, evS.eq_13, evS.eq_14, evS.eq_15, evS.eq_16, evS.eq_17, evS.eq_18, evS.eq_19, evS.eq_20, evS.eq_21, evS.eq_22, evS.eq_23, evSs.eq_1, evSs.eq_2, evSs.eq_3, TW.gt, TW.st, TW.sts, TW.start, List.map_cons, List.map_nil, List.length_cons, List.length_nil, List.length_map, List.replicate_succ, List.replicate_zero, Nat.reduceAdd, Nat.reduceSub, List.cons_append, List.nil_append, Tg.put, Tg.names, srcRes, srcOf, Sk.out, Sk.pure, wipeE, Op1.run, Op2.run, slc3, okI, okB, okA, okT, isSc_i, isSc_b, isSc_s, isSc_n, isNon_i, isNon_b, isNon_l, isNon_n, eqS_ii, eqS_bb, inF_ints, ints_map, ints_mapf, bit, IDef.mut, kAt, ownK, if_true, if_false, ↓reduceIte, Bool.false_eq_true, decide_true, decide_false, Bool.not_true, Bool.not_false, true_and, and_true, and_self, Option.isSome_some, Option.isSome_none, eq_self, b1, hl, len_mk, eqS_ii, h1, e, signs_mk] at ho
  generalize hF : forGo _ _ _ _ = o at ho
  rcases for_stop hF (fun c : Nat => D.str (mkS [c])) l (fun pre ρ => (∀ c ∈ pre, c ∈ S) ∧ ∃ x, ρ = [some (.str (mkS l)), some (.str (mkS S)), some (.int k), x]) (fun o => (∃ ρ, o = .rt (.bl false) ρ) ∧ ∃ c ∈ l, c ∉ S) rfl ⟨by simp, none, rfl⟩ (by
    rintro pre c r ρ e ⟨hp, x, rfl⟩
    refine ⟨_, rfl, ?_⟩
    by_cases h : c ∈ S
    · left
      have e1 : T2.run .ninS (mkS [c]) (.str (mkS S)) = some (.bl false) := by rw [t2_nin, decide_eq_true h]; rfl
      refine ⟨_, by simp only [evE.eq_1, evE.eq_2, evE.eq_3, evE.eq_4, evE.eq_5, evE.eq_6, evE.eq_7, evE.eq_8, evE.eq_9, evE.eq_10, evE.eq_11, evE.eq_12, evE.eq_13, evE.eq_14, evE.eq_15, evE.eq_16, evE.eq_17, evE.eq_18, evE.eq_19, evE.eq_20, evE.eq_21, evE.eq_22, evE.eq_23, evE.eq_24, evE.eq_25, evE.eq_26, evE.eq_27, evE.eq_28, evE.eq_29, evE.eq_30, evEs.eq_1, evEs.eq_2, evS.eq_1, evS.eq_2, evS.eq_3, evS.eq_4, evS.eq_5, evS.eq_6, evS.eq_7, evS.eq_8, evS.eq_9, evS.eq_10, evS.eq_11, evS.eq_12, evS.eq_13, evS.eq_14, evS.eq_15, evS.eq_16, evS.eq_17, evS.eq_18, evS.eq_19, evS.eq_20, evS.eq_21, evS.eq_22, evS.eq_23, evSs.eq_1, evSs.eq_2, evSs.eq_3, TW.gt, TW.st, TW.sts, TW.start, List.map_cons, List.map_nil, List.length_cons, List.length_nil, List.length_map, List.replicate_succ, List.replicate_zero, Nat.reduceAdd, Nat.reduceSub, List.cons_append, List.nil_append, Tg.put, Tg.names, srcRes, srcOf, Sk.out, Sk.pure, wipeE, Op1.run, Op2.run, slc3, okI, okB, okA, okT, isSc_i, isSc_b, isSc_s, isSc_n, isNon_i, isNon_b, isNon_l, isNon_n, eqS_ii, eqS_bb, inF_ints, ints_map, ints_mapf, bit, IDef.mut, kAt, ownK, if_true, if_false, ↓reduceIte, Bool.false_eq_true, decide_true, decide_false, Bool.not_true, Bool.not_false, true_and, and_true, and_self, Option.isSome_some, Option.isSome_none, eq_self, e1] <;> rfl, fun z hz => ?_, _, rfl⟩
      rcases List.mem_append.mp hz with hz | hz
      · exact hp z hz
      · rw [List.mem_singleton.mp hz]; exact h
    · right
      have e1 : T2.run .ninS (mkS [c]) (.str (mkS S)) = some (.bl true) := by rw [t2_nin, decide_eq_false h]; rfl
      refine ⟨⟨⟨_, by simp only [evE.eq_1, evE.eq_2, evE.eq_3, evE.eq_4, evE.eq_5, evE.eq_6, evE.eq_7, evE.eq_8, evE.eq_9, evE.eq_10, evE.eq_11, evE.eq_12, evE.eq_13, evE.eq_14, evE.eq_15, evE.eq_16, evE.eq_17, evE.eq_18, evE.eq_19, evE.eq_20, evE.eq_21, evE.eq_22, evE.eq_23, evE.eq_24, evE.eq_25, evE.eq_26, evE.eq_27, evE.eq_28, evE.eq_29, evE.eq_30, evEs.eq_1, evEs.eq_2, evS.eq_1, evS.eq_2, evS.eq_3, evS.eq_4, evS.eq_5, evS.eq_6, evS.eq_7, evS.eq_8, evS.eq_9, evS.eq_10, evS.eq_11, evS.eq_12, evS.eq_13, evS.eq_14, evS.eq_15, evS.eq_16, evS.eq_17, evS.eq_18, evS.eq_19, evS.eq_20, evS.eq_21, evS.eq_22, evS.eq_23, evSs.eq_1, evSs.eq_2, evSs.eq_3, TW.gt, TW.st, TW.sts, TW.start, List.map_cons, List.map_nil, List.length_cons, List.length_nil, List.length_map, List.replicate_succ, List.replicate_zero, Nat.reduceAdd, Nat.reduceSub, List.cons_append, List.nil_append, Tg.put, Tg.names, srcRes, srcOf, Sk.out, Sk.pure, wipeE, Op1.run, Op2.run, slc3, okI, okB, okA, okT, isSc_i, isSc_b, isSc_s, isSc_n, isNon_i, isNon_b, isNon_l, isNon_n, eqS_ii, eqS_bb, inF_ints, ints_map, ints_mapf, bit, IDef.mut, kAt, ownK, if_true, if_false, ↓reduceIte, Bool.false_eq_true, decide_true, decide_false, Bool.not_true, Bool.not_false, true_and, and_true, and_self, Option.isSome_some, Option.isSome_none, eq_self, e1] <;> rfl⟩, c, by rw [e]; simp, h⟩, fun ρ2 => by simp [evE.eq_1, evE.eq_2, evE.eq_3, evE.eq_4, evE.eq_5, evE.eq_6, evE.eq_7, evE.eq_8, evE.eq_9, evE.eq_10, evE.eq_11, evE.eq_12, evE.eq_13, evE.eq_14, evE.eq_15, evE.eq_16, evE.eq_17, evE.eq_18, evE.eq_19, evE.eq_20, evE.eq_21, evE.eq_22, evE.eq_23, evE.eq_24, evE.eq_25, evE.eq_26, evE.eq_27, evE.eq_28, evE.eq_29, evE.eq_30, evEs.eq_1, evEs.eq_2, evS.eq_1, evS.eq_2, evS.eq_3, evS.eq_4, evS.eq_5, evS.eq_6, evS.eq_7, evS.eq_8, evS.eq_9, evS.eq_10, evS.eq_11, evS.eq_12, evS.eq_13, evS.eq_14, evS.eq_15, evS.eq_16, evS.eq_17, evS.eq_18, evS.eq_19, evS.eq_20, evS.eq_21, evS.eq_22, evS.eq_23, evSs.eq_1, evSs.eq_2, evSs.eq_3, TW.gt, TW.st, TW.sts, TW.start, List.map_cons, List.map_nil, List.length_cons, List.length_nil, List.length_map, List.replicate_succ, List.replicate_zero, Nat.reduceAdd, Nat.reduceSub, List.cons_append, List.nil_append, Tg.put, Tg.names, srcRes, srcOf, Sk.out, Sk.pure, wipeE, Op1.run, Op2.run, slc3, okI, okB, okA, okT, isSc_i, isSc_b, isSc_s, isSc_n, isNon_i, isNon_b, isNon_l, isNon_n, eqS_ii, eqS_bb, inF_ints, ints_map, ints_mapf, bit, IDef.mut, kAt, ownK, if_true, if_false, ↓reduceIte, Bool.false_eq_true, decide_true, decide_false, Bool.not_true, Bool.not_false, true_and, and_true, and_self, Option.isSome_some, Option.isSome_none, eq_self, e1]⟩) with ⟨ρ, rfl, hp, x, rfl⟩ | ⟨⟨ρ, rfl⟩, c, hc, hs⟩
  · have : allIn l S k = true := decide_eq_true ⟨h0, h2, hp⟩
    rw [this]
    simp only [evE.eq_1, evE.eq_2, evE.eq_3, evE.eq_4, evE.eq_5, evE.eq_6, evE.eq_7, evE.eq_8, evE.eq_9, evE.eq_10, evE.eq_11, evE.eq_12, evE.eq_13, evE.eq_14, evE.eq_15, evE.eq_16, evE.eq_17, evE.eq_18, evE.eq_19, evE.eq_20, evE.eq_21, evE.eq_22, evE.eq_23, evE.eq_24, evE.eq_25, evE.eq_26, evE.eq_27, evE.eq_28, evE.eq_29, evE.eq_30, T1.run, T2.run, evEs.eq_1, evEs.eq_2, evS.eq_1, evS.eq_2, evS.eq_3, evS.eq_4, evS.eq_5, evS.eq_6, evS.eq_7, evS.eq_8, evS.eq_9, evS.eq_10, evS.eq_11, evS.eq_12, evS.eq_13, evS.eq_14, evS.eq_15, evS.eq_16, evS.eq_17, evS.eq_18, evS.eq_19, evS.eq_20, evS.eq_21, evS.eq_22, evS.eq_23, evSs.eq_1, evSs.eq_2, evSs.eq_3, TW.gt, TW.st, TW.sts, TW.start, List.map_cons, List.map_nil, List.length_cons, List.length_nil, List.length_map, List.replicate_succ, List.replicate_zero, Nat.reduceAdd, Nat.reduceSub, List.cons_append, List.nil_append, Tg.put, Tg.names, srcRes, srcOf, Sk.out, Sk.pure, wipeE, Op1.run, Op2.run, slc3, okI, okB, okA, okT, isSc_i, isSc_b, isSc_s, isSc_n, isNon_i, isNon_b, isNon_l, isNon_n, eqS_ii, eqS_bb, inF_ints, ints_map, ints_mapf, bit, IDef.mut, kAt, ownK, if_true, if_false, ↓reduceIte, Bool.false_eq_true, decide_true, decide_false, Bool.not_true, Bool.not_false, true_and, and_true, and_self, Option.isSome_some, Option.isSome_none, eq_self] at ho
    exact ⟨_, ho.symm⟩
  · have : allIn l S k = false := decide_eq_false fun z => hs (z.2.2 c hc)
    rw [this]
    simp only [evE.eq_1, evE.eq_2, evE.eq_3, evE.eq_4, evE.eq_5, evE.eq_6, evE.eq_7, evE.eq_8, evE.eq_9, evE.eq_10, evE.eq_11, evE.eq_12, evE.eq_13, evE.eq_14, evE.eq_15, evE.eq_16, evE.eq_17, evE.eq_18, evE.eq_19, evE.eq_20, evE.eq_21, evE.eq_22, evE.eq_23, evE.eq_24, evE.eq_25, evE.eq_26, evE.eq_27, evE.eq_28, evE.eq_29, evE.eq_30, T1.run, T2.run, evEs.eq_1, evEs.eq_2, evS.eq_1, evS.eq_2, evS.eq_3, evS.eq_4, evS.eq_5, evS.eq_6, evS.eq_7, evS.eq_8, evS.eq_9, evS.eq_10, evS.eq_11, evS.eq_12, evS.eq_13, evS.eq_14, evS.eq_15, evS.eq_16, evS.eq_17, evS.eq_18, evS.eq_19, evS.eq_20, evS.eq_21, evS.eq_22, evS.eq_23, evSs.eq_1, evSs.eq_2, evSs.eq_3, TW.gt, TW.st, TW.sts, TW.start, List.map_cons, List.map_nil, List.length_cons, List.length_nil, List.length_map, List.replicate_succ, List.replicate_zero, Nat.reduceAdd, Nat.reduceSub, List.cons_append, List.nil_append, Tg.put, Tg.names, srcRes, srcOf, Sk.out, Sk.pure, wipeE, Op1.run, Op2.run, slc3, okI, okB, okA, okT, isSc_i, isSc_b, isSc_s, isSc_n, isNon_i, isNon_b, isNon_l, isNon_n, eqS_ii, eqS_bb, inF_ints, ints_map, ints_mapf, bit, IDef.mut, kAt, ownK, if_true, if_false, ↓reduceIte, Bool.false_eq_true, decide_true, decide_false, Bool.not_true, Bool.not_false, true_and, and_true, and_self, Option.isSome_some, Option.isSome_none, eq_self] at ho
    exact ⟨_, ho.symm⟩
theorem figs {l : List Nat} {k : Nat} : allIn l [48, 49, 50, 51, 52, 53, 54, 55, 56, 57] k = decide (l ≠ [] ∧ l.length ≤ k ∧ ∀ c ∈ l, 48 ≤ c ∧ c ≤ 57) := decide_eq_decide.mpr (by
  refine and_congr_right fun _ => and_congr_right fun _ => ⟨fun h c hc => ?_, fun h c hc => ?_⟩
  · have := h c hc
    simp only [List.mem_cons, List.not_mem_nil, or_false] at this
    omega
  · have := h c hc
    simp only [List.mem_cons, List.not_mem_nil, or_false]
    omega)
/-- the text of a number from nought on -/
def isCnt (l : List Nat) : Bool := decide (l ≠ [] ∧ l.length ≤ 60 ∧ ∀ c ∈ l, 48 ≤ c ∧ c ≤ 57) && !(decide (l.getD 0 0 = 48) && !decide (l = [48]))
theorem run_read_count {m : Nat} (hm : 2 ≤ m) {l : List Nat} (hl : l.length ≤ lim) : (sems defs m 218).run [.str (mkS l)] = if isCnt l = true then .ok (.int (digV l), []) else .exc 9 := by
  obtain ⟨m, rfl, hm1⟩ := suc_of hm
  have A := run_all_in (m := m) (by omega) (l := l) (S := [48, 49, 50, 51, 52, 53, 54, 55, 56, 57]) (k := 60) hl
  rw [figs, ← cFig] at A
  have b1 : (mkS l).length ≤ lim := by rw [len_mk]; exact hl
  by_cases h : l ≠ [] ∧ l.length ≤ 60 ∧ ∀ c ∈ l, 48 ≤ c ∧ c ≤ 57
  rotate_left
  · rw [decide_eq_false h] at A
    rw [if_neg (by unfold isCnt; rw [decide_eq_false h]; simp)]
    refine run_ex (d := d_read_count) rfl rfl ?_
    simp only [d_read_count, evE.eq_1, evE.eq_2, evE.eq_3, evE.eq_4, evE.eq_5, evE.eq_6, evE.eq_7, evE.eq_8, evE.eq_9, evE.eq_10, evE.eq_11, evE.eq_12, evE.eq_13, evE.eq_14, evE.eq_15, evE.eq_16, evE.eq_17, evE.eq_18, evE.eq_19, evE.eq_20, evE.eq_21, evE.eq_22, evE.eq_23, evE.eq_24, evE.eq_25, evE.eq_26, evE.eq_27, evE.eq_28, evE.eq_29, evE.eq_30, T1.run, T2.run, evEs.eq_1, evEs.eq_2, evS.eq_1, evS.eq_2, evS.eq_3, evS.eq_4, evS.eq_5, evS.eq_6, evS.eq_7, evS.eq_8, evS.eq_9, evS.eq_10, evS.eq_11, evS.eq_12, evS.eq_13, evS.eq_14, evS.eq_15, evS.eq_16, evS.eq_17, evS.eq_18, evS.eq_19, evS.eq_20, evS.eq_21, evS.eq_22, evS.eq_23, evSs.eq_1, evSs.eq_2, evSs.eq_3, TW.gt, TW.st, TW.sts, TW.start, List.map_cons, List.map_nil, List.length_cons, List.length_nil, List.length_map, List.replicate_succ, List.replicate_zero, Nat.reduceAdd, Nat.reduceSub, List.cons_append, List.nil_append, Tg.put, Tg.names, srcRes, srcOf, Sk.out, Sk.pure, wipeE, Op1.run, Op2.run, slc3, okI, okB, okA, okT, isSc_i, isSc_b, isSc_s, isSc_n, isNon_i, isNon_b, isNon_l, isNon_n, eqS_ii, eqS_bb, inF_ints, ints_map, ints_mapf, bit, IDef.mut, kAt, ownK, if_true, if_false, ↓reduceIte, Bool.false_eq_true, decide_true, decide_false, Bool.not_true, Bool.not_false, true_and, and_true, and_self, Option.isSome_some, Option.isSome_none, eq_self, show ((60 : Int)) = ((60 : Nat) : Int) from rfl, A]
  rw [decide_eq_true h] at A
  obtain ⟨g1, g2, g3⟩ := h
  have T := t1_int (l := l) ⟨g1, by omega, g3⟩
  obtain ⟨c, r, rfl⟩ : ∃ c r, l = c :: r := by cases l with | nil => exact absurd rfl g1 | cons c r => exact ⟨c, r, rfl⟩
  have n0 : nth (c :: r) 0 = some c := nth_nat (c :: r) 0
  have x60 : ((60 : Int)) = ((60 : Nat) : Int) := rfl
  unfold isCnt
  rw [decide_eq_true ⟨g1, g2, g3⟩]
  by_cases e1 : c = 48
  · have d1 : decide ([c] = [(48 : Nat)]) = true := decide_eq_true (by rw [e1])
    by_cases e2 : (c :: r) = [48]
    · rw [if_pos (by simp [e2])]
      have d2 : decide (c :: r = [(48 : Nat)]) = true := decide_eq_true e2
      exact run_rt (d := d_read_count) rfl rfl rfl (by simp only [d_read_count, evE.eq_1, evE.eq_2, evE.eq_3, evE.eq_4, evE.eq_5, evE.eq_6, evE.eq_7, evE.eq_8, evE.eq_9, evE.eq_10, evE.eq_11, evE.eq_12, evE.eq_13, evE.eq_14, evE.eq_15, evE.eq_16, evE.eq_17, evE.eq_18, evE.eq_19, evE.eq_20, evE.eq_21, evE.eq_22, evE.eq_23, evE.eq_24, evE.eq_25, evE.eq_26, evE.eq_27, evE.eq_28, evE.eq_29, evE.eq_30, evEs.eq_1, evEs.eq_2, evS.eq_1, evS.eq_2, evS.eq_3, evS.eq_4, evS.eq_5, evS.eq_6, evS.eq_7, evS.eq_8, evS.eq_9, evS.eq_10, evS.eq_11, evS.eq_12, evS.eq_13, evS.eq_14, evS.eq_15, evS.eq_16, evS.eq_17, evS.eq_18, evS.eq_19, evS.eq_20, evS.eq_21, evS.eq_22, evS.eq_23, evSs.eq_1, evSs.eq_2, evSs.eq_3, TW.gt, TW.st, TW.sts, TW.start, List.map_cons, List.map_nil, List.length_cons, List.length_nil, List.length_map, List.replicate_succ, List.replicate_zero, Nat.reduceAdd, Nat.reduceSub, List.cons_append, List.nil_append, Tg.put, Tg.names, srcRes, srcOf, Sk.out, Sk.pure, wipeE, Op1.run, Op2.run, slc3, okI, okB, okA, okT, isSc_i, isSc_b, isSc_s, isSc_n, isNon_i, isNon_b, isNon_l, isNon_n, eqS_ii, eqS_bb, inF_ints, ints_map, ints_mapf, bit, IDef.mut, kAt, ownK, if_true, if_false, ↓reduceIte, Bool.false_eq_true, decide_true, decide_false, Bool.not_true, Bool.not_false, true_and, and_true, and_self, Option.isSome_some, Option.isSome_none, eq_self, x60, A, if_pos b1, cps_mk, n0, one_mk, c0, eqS_ss, d1, d2, T] <;> rfl)
    · rw [if_neg (by simp only [e1] at *; simp; exact fun z => e2 (by rw [z]))]
      have d2 : decide (c :: r = [(48 : Nat)]) = false := decide_eq_false e2
      exact run_ex (d := d_read_count) rfl rfl (by simp only [d_read_count, evE.eq_1, evE.eq_2, evE.eq_3, evE.eq_4, evE.eq_5, evE.eq_6, evE.eq_7, evE.eq_8, evE.eq_9, evE.eq_10, evE.eq_11, evE.eq_12, evE.eq_13, evE.eq_14, evE.eq_15, evE.eq_16, evE.eq_17, evE.eq_18, evE.eq_19, evE.eq_20, evE.eq_21, evE.eq_22, evE.eq_23, evE.eq_24, evE.eq_25, evE.eq_26, evE.eq_27, evE.eq_28, evE.eq_29, evE.eq_30, evEs.eq_1, evEs.eq_2, evS.eq_1, evS.eq_2, evS.eq_3, evS.eq_4, evS.eq_5, evS.eq_6, evS.eq_7, evS.eq_8, evS.eq_9, evS.eq_10, evS.eq_11, evS.eq_12, evS.eq_13, evS.eq_14, evS.eq_15, evS.eq_16, evS.eq_17, evS.eq_18, evS.eq_19, evS.eq_20, evS.eq_21, evS.eq_22, evS.eq_23, evSs.eq_1, evSs.eq_2, evSs.eq_3, TW.gt, TW.st, TW.sts, TW.start, List.map_cons, List.map_nil, List.length_cons, List.length_nil, List.length_map, List.replicate_succ, List.replicate_zero, Nat.reduceAdd, Nat.reduceSub, List.cons_append, List.nil_append, Tg.put, Tg.names, srcRes, srcOf, Sk.out, Sk.pure, wipeE, Op1.run, Op2.run, slc3, okI, okB, okA, okT, isSc_i, isSc_b, isSc_s, isSc_n, isNon_i, isNon_b, isNon_l, isNon_n, eqS_ii, eqS_bb, inF_ints, ints_map, ints_mapf, bit, IDef.mut, kAt, ownK, if_true, if_false, ↓reduceIte, Bool.false_eq_true, decide_true, decide_false, Bool.not_true, Bool.not_false, true_and, and_true, and_self, Option.isSome_some, Option.isSome_none, eq_self, x60, A, if_pos b1, cps_mk, n0, one_mk, c0, eqS_ss, d1, d2, T])
  · rw [if_pos (by simp [e1])]
    have d1 : decide ([c] = [48]) = false := decide_eq_false (by simpa using e1)
    exact run_rt (d := d_read_count) rfl rfl rfl (by simp only [d_read_count, evE.eq_1, evE.eq_2, evE.eq_3, evE.eq_4, evE.eq_5, evE.eq_6, evE.eq_7, evE.eq_8, evE.eq_9, evE.eq_10, evE.eq_11, evE.eq_12, evE.eq_13, evE.eq_14, evE.eq_15, evE.eq_16, evE.eq_17, evE.eq_18, evE.eq_19, evE.eq_20, evE.eq_21, evE.eq_22, evE.eq_23, evE.eq_24, evE.eq_25, evE.eq_26, evE.eq_27, evE.eq_28, evE.eq_29, evE.eq_30, evEs.eq_1, evEs.eq_2, evS.eq_1, evS.eq_2, evS.eq_3, evS.eq_4, evS.eq_5, evS.eq_6, evS.eq_7, evS.eq_8, evS.eq_9, evS.eq_10, evS.eq_11, evS.eq_12, evS.eq_13, evS.eq_14, evS.eq_15, evS.eq_16, evS.eq_17, evS.eq_18, evS.eq_19, evS.eq_20, evS.eq_21, evS.eq_22, evS.eq_23, evSs.eq_1, evSs.eq_2, evSs.eq_3, TW.gt, TW.st, TW.sts, TW.start, List.map_cons, List.map_nil, List.length_cons, List.length_nil, List.length_map, List.replicate_succ, List.replicate_zero, Nat.reduceAdd, Nat.reduceSub, List.cons_append, List.nil_append, Tg.put, Tg.names, srcRes, srcOf, Sk.out, Sk.pure, wipeE, Op1.run, Op2.run, slc3, okI, okB, okA, okT, isSc_i, isSc_b, isSc_s, isSc_n, isNon_i, isNon_b, isNon_l, isNon_n, eqS_ii, eqS_bb, inF_ints, ints_map, ints_mapf, bit, IDef.mut, kAt, ownK, if_true, if_false, ↓reduceIte, Bool.false_eq_true, decide_true, decide_false, Bool.not_true, Bool.not_false, true_and, and_true, and_self, Option.isSome_some, Option.isSome_none, eq_self, x60, A, if_pos b1, cps_mk, n0, one_mk, c0, eqS_ss, d1, T] <;> rfl)
/-- the text of a number -/
def isNum (l : List Nat) : Bool := if l.getD 0 0 = 45 then isCnt l.tail && !decide (digV l.tail = 0) else isCnt l
def numV (l : List Nat) : Int := if l.getD 0 0 = 45 then -(digV l.tail : Int) else digV l
theorem preT_one {s : Nat} {l : List Nat} (h : s ≠ 0) : preT [s] l = decide (l.getD 0 0 = s) := by
  cases l with
  | nil => simp [preT]; omega
  | cons c r => simp [preT, Bool.beq_eq_decide_eq]
theorem run_read_number {m : Nat} (hm : 3 ≤ m) {l : List Nat} (hl : l.length ≤ lim) : (sems defs m 219).run [.str (mkS l)] = if isNum l = true then .ok (.int (numV l), []) else .exc 9 := by
  obtain ⟨m, rfl, hm1⟩ := suc_of hm
  have n1 := t2_starts l [45] (by simp)
  have p1 := preT_one (s := 45) (l := l) (by decide)
  have b1 := t2_lo l 1 hl
  unfold isNum numV
  by_cases h : l.getD 0 0 = 45
  rotate_left
  · rw [if_neg h, if_neg h]
    rw [decide_eq_false h] at p1
    have A := run_read_count (m := m) (by omega) hl
    by_cases g : isCnt l = true
    · rw [if_pos g] at A ⊢
      exact run_rt (d := d_read_number) rfl rfl rfl (by simp only [d_read_number, evE.eq_1, evE.eq_2, evE.eq_3, evE.eq_4, evE.eq_5, evE.eq_6, evE.eq_7, evE.eq_8, evE.eq_9, evE.eq_10, evE.eq_11, evE.eq_12, evE.eq_13, evE.eq_14, evE.eq_15, evE.eq_16, evE.eq_17, evE.eq_18, evE.eq_19, evE.eq_20, evE.eq_21, evE.eq_22, evE.eq_23, evE.eq_24, evE.eq_25, evE.eq_26, evE.eq_27, evE.eq_28, evE.eq_29, evE.eq_30, evEs.eq_1, evEs.eq_2, evS.eq_1, evS.eq_2, evS.eq_3, evS.eq_4, evS.eq_5, evS.eq_6, evS.eq_7, evS.eq_8, evS.eq_9, evS.eq_10, evS.eq_11, evS.eq_12, evS.eq_13, evS.eq_14, evS.eq_15, evS.eq_16, evS.eq_17, evS.eq_18, evS.eq_19, evS.eq_20, evS.eq_21, evS.eq_22, evS.eq_23, evSs.eq_1, evSs.eq_2, evSs.eq_3, TW.gt, TW.st, TW.sts, TW.start, List.map_cons, List.map_nil, List.length_cons, List.length_nil, List.length_map, List.replicate_succ, List.replicate_zero, Nat.reduceAdd, Nat.reduceSub, List.cons_append, List.nil_append, Tg.put, Tg.names, srcRes, srcOf, Sk.out, Sk.pure, wipeE, Op1.run, Op2.run, slc3, okI, okB, okA, okT, isSc_i, isSc_b, isSc_s, isSc_n, isNon_i, isNon_b, isNon_l, isNon_n, eqS_ii, eqS_bb, inF_ints, ints_map, ints_mapf, bit, IDef.mut, kAt, ownK, if_true, if_false, ↓reduceIte, Bool.false_eq_true, decide_true, decide_false, Bool.not_true, Bool.not_false, true_and, and_true, and_self, Option.isSome_some, Option.isSome_none, eq_self, cMinus, n1, p1, A] <;> rfl)
    · rw [if_neg g] at A ⊢
      exact run_ex (d := d_read_number) rfl rfl (by simp only [d_read_number, evE.eq_1, evE.eq_2, evE.eq_3, evE.eq_4, evE.eq_5, evE.eq_6, evE.eq_7, evE.eq_8, evE.eq_9, evE.eq_10, evE.eq_11, evE.eq_12, evE.eq_13, evE.eq_14, evE.eq_15, evE.eq_16, evE.eq_17, evE.eq_18, evE.eq_19, evE.eq_20, evE.eq_21, evE.eq_22, evE.eq_23, evE.eq_24, evE.eq_25, evE.eq_26, evE.eq_27, evE.eq_28, evE.eq_29, evE.eq_30, evEs.eq_1, evEs.eq_2, evS.eq_1, evS.eq_2, evS.eq_3, evS.eq_4, evS.eq_5, evS.eq_6, evS.eq_7, evS.eq_8, evS.eq_9, evS.eq_10, evS.eq_11, evS.eq_12, evS.eq_13, evS.eq_14, evS.eq_15, evS.eq_16, evS.eq_17, evS.eq_18, evS.eq_19, evS.eq_20, evS.eq_21, evS.eq_22, evS.eq_23, evSs.eq_1, evSs.eq_2, evSs.eq_3, TW.gt, TW.st, TW.sts, TW.start, List.map_cons, List.map_nil, List.length_cons, List.length_nil, List.length_map, List.replicate_succ, List.replicate_zero, Nat.reduceAdd, Nat.reduceSub, List.cons_append, List.nil_append, Tg.put, Tg.names, srcRes, srcOf, Sk.out, Sk.pure, wipeE, Op1.run, Op2.run, slc3, okI, okB, okA, okT, isSc_i, isSc_b, isSc_s, isSc_n, isNon_i, isNon_b, isNon_l, isNon_n, eqS_ii, eqS_bb, inF_ints, ints_map, ints_mapf, bit, IDef.mut, kAt, ownK, if_true, if_false, ↓reduceIte, Bool.false_eq_true, decide_true, decide_false, Bool.not_true, Bool.not_false, true_and, and_true, and_self, Option.isSome_some, Option.isSome_none, eq_self, cMinus, n1, p1, A])
  · rw [if_pos h, if_pos h]
    rw [decide_eq_true h] at p1
    have A := run_read_count (m := m) (by omega) (l := l.tail) (by rw [List.length_tail]; omega)
    have k : cut l (some 1) none = l.tail := by
      cases l with
      | nil => rfl
      | cons c r =>
        unfold cut clip
        simp
    by_cases g : isCnt l.tail = true
    · rw [if_pos g] at A
      by_cases z : digV l.tail = 0
      · rw [if_neg (by simp [z])]
        have d1 : decide ((digV l.tail : Int) = 0) = true := decide_eq_true (by omega)
        exact run_ex (d := d_read_number) rfl rfl (by simp only [d_read_number, evE.eq_1, evE.eq_2, evE.eq_3, evE.eq_4, evE.eq_5, evE.eq_6, evE.eq_7, evE.eq_8, evE.eq_9, evE.eq_10, evE.eq_11, evE.eq_12, evE.eq_13, evE.eq_14, evE.eq_15, evE.eq_16, evE.eq_17, evE.eq_18, evE.eq_19, evE.eq_20, evE.eq_21, evE.eq_22, evE.eq_23, evE.eq_24, evE.eq_25, evE.eq_26, evE.eq_27, evE.eq_28, evE.eq_29, evE.eq_30, evEs.eq_1, evEs.eq_2, evS.eq_1, evS.eq_2, evS.eq_3, evS.eq_4, evS.eq_5, evS.eq_6, evS.eq_7, evS.eq_8, evS.eq_9, evS.eq_10, evS.eq_11, evS.eq_12, evS.eq_13, evS.eq_14, evS.eq_15, evS.eq_16, evS.eq_17, evS.eq_18, evS.eq_19, evS.eq_20, evS.eq_21, evS.eq_22, evS.eq_23, evSs.eq_1, evSs.eq_2, evSs.eq_3, TW.gt, TW.st, TW.sts, TW.start, List.map_cons, List.map_nil, List.length_cons, List.length_nil, List.length_map, List.replicate_succ, List.replicate_zero, Nat.reduceAdd, Nat.reduceSub, List.cons_append, List.nil_append, Tg.put, Tg.names, srcRes, srcOf, Sk.out, Sk.pure, wipeE, Op1.run, Op2.run, slc3, okI, okB, okA, okT, isSc_i, isSc_b, isSc_s, isSc_n, isNon_i, isNon_b, isNon_l, isNon_n, eqS_ii, eqS_bb, inF_ints, ints_map, ints_mapf, bit, IDef.mut, kAt, ownK, if_true, if_false, ↓reduceIte, Bool.false_eq_true, decide_true, decide_false, Bool.not_true, Bool.not_false, true_and, and_true, and_self, Option.isSome_some, Option.isSome_none, eq_self, cMinus, n1, p1, A, b1, k, eqS_ii, d1])
      · rw [if_pos (by simp [z, g])]
        have d1 : decide ((digV l.tail : Int) = 0) = false := decide_eq_false (by omega)
        exact run_rt (d := d_read_number) rfl rfl rfl (by simp only [d_read_number, evE.eq_1, evE.eq_2, evE.eq_3, evE.eq_4, evE.eq_5, evE.eq_6, evE.eq_7, evE.eq_8, evE.eq_9, evE.eq_10, evE.eq_11, evE.eq_12, evE.eq_13, evE.eq_14, evE.eq_15, evE.eq_16, evE.eq_17, evE.eq_18, evE.eq_19, evE.eq_20, evE.eq_21, evE.eq_22, evE.eq_23, evE.eq_24, evE.eq_25, evE.eq_26, evE.eq_27, evE.eq_28, evE.eq_29, evE.eq_30, evEs.eq_1, evEs.eq_2, evS.eq_1, evS.eq_2, evS.eq_3, evS.eq_4, evS.eq_5, evS.eq_6, evS.eq_7, evS.eq_8, evS.eq_9, evS.eq_10, evS.eq_11, evS.eq_12, evS.eq_13, evS.eq_14, evS.eq_15, evS.eq_16, evS.eq_17, evS.eq_18, evS.eq_19, evS.eq_20, evS.eq_21, evS.eq_22, evS.eq_23, evSs.eq_1, evSs.eq_2, evSs.eq_3, TW.gt, TW.st, TW.sts, TW.start, List.map_cons, List.map_nil, List.length_cons, List.length_nil, List.length_map, List.replicate_succ, List.replicate_zero, Nat.reduceAdd, Nat.reduceSub, List.cons_append, List.nil_append, Tg.put, Tg.names, srcRes, srcOf, Sk.out, Sk.pure, wipeE, Op1.run, Op2.run, slc3, okI, okB, okA, okT, isSc_i, isSc_b, isSc_s, isSc_n, isNon_i, isNon_b, isNon_l, isNon_n, eqS_ii, eqS_bb, inF_ints, ints_map, ints_mapf, bit, IDef.mut, kAt, ownK, if_true, if_false, ↓reduceIte, Bool.false_eq_true, decide_true, decide_false, Bool.not_true, Bool.not_false, true_and, and_true, and_self, Option.isSome_some, Option.isSome_none, eq_self, cMinus, n1, p1, A, b1, k, eqS_ii, d1] <;> rfl)
    · rw [if_neg g] at A
      rw [if_neg (by simp [g])]
      exact run_ex (d := d_read_number) rfl rfl (by simp only [d_read_number, evE.eq_1, evE.eq_2, evE.eq_3, evE.eq_4, evE.eq_5, evE.eq_6, evE.eq_7, evE.eq_8, evE.eq_9, evE.eq_10, evE.eq_11, evE.eq_12, evE.eq_13, evE.eq_14, evE.eq_15, evE.eq_16, evE.eq_17, evE.eq_18, evE.eq_19, evE.eq_20, evE.eq_21, evE.eq_22, evE.eq_23, evE.eq_24, evE.eq_25, evE.eq_26, evE.eq_27, evE.eq_28, evE.eq_29, evE.eq_30, evEs.eq_1, evEs.eq_2, evS.eq_1, evS.eq_2, evS.eq_3, evS.eq_4, evS.eq_5, evS.eq_6, evS.eq_7, evS.eq_8, evS.eq_9, evS.eq_10, evS.eq_11, evS.eq_12, evS.eq_13, evS.eq_14, evS.eq_15, evS.eq_16, evS.eq_17, evS.eq_18, evS.eq_19, evS.eq_20, evS.eq_21, evS.eq_22, evS.eq_23, evSs.eq_1, evSs.eq_2, evSs.eq_3, TW.gt, TW.st, TW.sts, TW.start, List.map_cons, List.map_nil, List.length_cons, List.length_nil, List.length_map, List.replicate_succ, List.replicate_zero, Nat.reduceAdd, Nat.reduceSub, List.cons_append, List.nil_append, Tg.put, Tg.names, srcRes, srcOf, Sk.out, Sk.pure, wipeE, Op1.run, Op2.run, slc3, okI, okB, okA, okT, isSc_i, isSc_b, isSc_s, isSc_n, isNon_i, isNon_b, isNon_l, isNon_n, eqS_ii, eqS_bb, inF_ints, ints_map, ints_mapf, bit, IDef.mut, kAt, ownK, if_true, if_false, ↓reduceIte, Bool.false_eq_true, decide_true, decide_false, Bool.not_true, Bool.not_false, true_and, and_true, and_self, Option.isSome_some, Option.isSome_none, eq_self, cMinus, n1, p1, A, b1, k])
/-! ### numbers' own texts -/
theorem numT_num (n : Nat) : numT n = TL.numL n := rfl
theorem numT_head {n : Nat} : 0 < n → (numT n).getD 0 0 ≠ 48 := by
  induction n using Nat.strongRecOn with
  | _ n ih =>
    intro h
    by_cases k : n < 10
    · rw [numT_num, TL.numL_lt k]; simp; omega
    · rw [numT_num, TL.numL_step (by omega)]
      have := ih (n / 10) (by omega) (by omega)
      rw [numT_num] at this
      have ne := TL.numL_ne (n / 10)
      generalize TL.numL (n / 10) = L at this ne
      cases L with
      | nil => exact absurd rfl ne
      | cons c r => simpa using this
theorem numT_dig {n c : Nat} (h : c ∈ numT n) : 48 ≤ c ∧ c ≤ 57 := TL.numL_digits n c h
theorem numT_val (n : Nat) : digV (numT n) = n := TL.numL_val n
theorem isCnt_num {n : Nat} (h : n < 10 ^ 60) : isCnt (numT n) = true := by
  have l := TL.numL_len (n := n) (k := 60) (by decide) h
  have ne := TL.numL_ne n
  unfold isCnt
  rw [decide_eq_true ⟨ne, l, fun c hc => numT_dig hc⟩]
  by_cases z : n = 0
  · subst z; decide +kernel
  · have := numT_head (n := n) (by omega)
    rw [decide_eq_false this]; rfl
theorem decT_len {n : Int} (h : n.natAbs < 10 ^ 60) : (decT n).length ≤ 61 := by
  have l := TL.numL_len (n := n.natAbs) (k := 60) (by decide) h
  unfold decT
  split
  · exact Nat.succ_le_succ l
  · exact Nat.le_succ_of_le l
theorem isNum_dec {n : Int} (h : n.natAbs < 10 ^ 60) : isNum (decT n) = true ∧ numV (decT n) = n := by
  unfold decT
  split
  · rename_i g
    unfold isNum numV
    simp only [List.getD_cons_zero, if_true, List.tail_cons, numT_val, isCnt_num h]
    have : n.natAbs ≠ 0 := by omega
    simp [this]; omega
  · rename_i g
    have ne := TL.numL_ne n.natAbs
    have k : (numT n.natAbs).getD 0 0 ≠ 45 := by
      rw [numT_num]
      have d := TL.numL_digits n.natAbs
      generalize TL.numL n.natAbs = L at ne d
      cases L with
      | nil => exact absurd rfl ne
      | cons c r =>
        have := d c (by simp)
        simp; omega
    unfold isNum numV
    rw [if_neg k, if_neg k, isCnt_num h, numT_val]
    refine ⟨rfl, by omega⟩
theorem dec_sign {n : Int} {c : Nat} (h : c ∈ decT n) : c = 45 ∨ 48 ≤ c ∧ c ≤ 57 := by
  unfold decT at h
  split at h
  · rcases List.mem_cons.mp h with h | h
    · exact .inl h
    · exact .inr (numT_dig h)
  · exact .inr (numT_dig h)
/-! ### rows -/
/-- a row's text -/
def showRow (r : List Int) : List Nat := if r = [] then [46] else glueT [32] (r.map decT)
def showRows (rows : List (List Int)) : List Nat := if rows = [] then [45] else glueT [32, 47, 32] (rows.map showRow)
theorem glue_mem {S : List Nat} {c : Nat} : ∀ {ps : List (List Nat)}, c ∈ glueT S ps → c ∈ S ∨ ∃ p ∈ ps, c ∈ p
  | [], h => by cases h
  | [p], h => .inr ⟨p, by simp, h⟩
  | p :: q :: r, h => by
    change c ∈ p ++ (S ++ glueT S (q :: r)) at h
    rcases List.mem_append.mp h with h | h
    · exact .inr ⟨p, by simp, h⟩
    rcases List.mem_append.mp h with h | h
    · exact .inl h
    · rcases glue_mem h with h | ⟨x, hx, h⟩
      · exact .inl h
      · exact .inr ⟨x, List.mem_cons_of_mem _ hx, h⟩
theorem glue_len {S : List Nat} {k : Nat} : ∀ {ps : List (List Nat)}, (∀ p ∈ ps, p.length ≤ k) → (glueT S ps).length ≤ ps.length * (k + S.length)
  | [], _ => by simp [glueT]
  | [p], h => by
    have := h p (by simp)
    simp [glueT]; omega
  | p :: q :: r, h => by
    show (p ++ (S ++ glueT S (q :: r))).length ≤ _
    have h1 := h p (by simp)
    have h2 := glue_len (S := S) (k := k) (ps := q :: r) fun x hx => h x (List.mem_cons_of_mem _ hx)
    simp only [List.length_append, List.length_cons] at h2 ⊢
    rw [Nat.succ_mul] at *
    rw [Nat.succ_mul]
    omega
/-- a row's text holds no stroke -/
theorem row_free {r : List Int} {c : Nat} (h : c ∈ showRow r) : c ≠ 47 := by
  unfold showRow at h
  split at h
  · rw [List.mem_singleton.mp h]; decide
  · rcases glue_mem h with h | ⟨p, hp, h⟩
    · rw [List.mem_singleton.mp h]; decide
    · obtain ⟨n, _, rfl⟩ := List.mem_map.mp hp
      rcases dec_sign h with h | h <;> omega
theorem stroke_free : ∀ {p q : List Nat}, (∀ c ∈ p, c ≠ 47) → (q = [] ∨ ∃ r, q = 32 :: r) → ∀ i, i < p.length → TL.pre [32, 47, 32] ((p ++ q).drop i) = false
  | [], _, _, _, _, hi => by simp at hi
  | c :: p, q, h, hq, 0, _ => by
    rw [List.drop_zero]
    unfold TL.pre
    cases p with
    | nil =>
      rcases hq with rfl | ⟨r, rfl⟩
      · simp
      · simp
    | cons d p' =>
      have := h d (by simp)
      simp [this]
  | c :: p, q, h, hq, i + 1, hi => by
    have := stroke_free (p := p) (q := q) (fun x hx => h x (by simp [hx])) hq i (by simpa using hi)
    simpa using this
theorem spl_strokes : ∀ {ps : List (List Nat)}, ps ≠ [] → (∀ p ∈ ps, ∀ c ∈ p, c ≠ 47) → TL.spl [32, 47, 32] 0 [] (TL.joinL [32, 47, 32] ps) = ps
  | [], h, _ => absurd rfl h
  | [p], _, hp => by
    show TL.spl _ 0 [] p = [p]
    rw [TL.spl_last fun i hi => by
      have := stroke_free (p := p) (q := []) (hp p (by simp)) (.inl rfl) i hi
      simpa using this, List.nil_append]
  | p :: q :: r, _, hp => by
    show TL.spl _ 0 [] (p ++ ([32, 47, 32] ++ TL.joinL [32, 47, 32] (q :: r))) = p :: q :: r
    rw [TL.spl_part (by simp) fun i hi => stroke_free (hp p (by simp)) (.inr ⟨_, rfl⟩) i hi, List.nil_append, spl_strokes (by simp) fun z hz => hp z (List.mem_cons_of_mem _ hz)]
theorem words_back {r : List Int} (h : r ≠ []) : splT [32] 0 [] (showRow r) = r.map decT := by
  unfold showRow
  rw [if_neg h, splT_spl, glueT_join]
  refine TL.spl_join (by simpa using h) fun p hp hc => ?_
  obtain ⟨n, _, rfl⟩ := List.mem_map.mp hp
  rcases dec_sign hc with h | h <;> omega
theorem rows_back {rows : List (List Int)} (h : rows ≠ []) : splT [32, 47, 32] 0 [] (showRows rows) = rows.map showRow := by
  unfold showRows
  rw [if_neg h, splT_spl, glueT_join]
  refine spl_strokes (by simpa using h) fun p hp c hc => ?_
  obtain ⟨n, _, rfl⟩ := List.mem_map.mp hp
  exact row_free hc
end TW.M

namespace TW.M
open PySem
def Small (B : Int) (rs : List Rd) : Prop := ∀ r ∈ rs, r.2.2 ≤ B
end TW.M

namespace TW.M
open PySem
def insAt {α : Type} (xs : List α) (i : Nat) (x : α) : List α := xs.take i ++ x :: xs.drop i
/-- growing: roads among the first places -/
structure Grow (n : Nat) (B : Int) (names : List Int) (k : Nat) (rs : List Rd) : Prop where
  len : rs.length = k
  ok : ∀ r ∈ rs, r.1 ∈ names.take (k + 1) ∧ r.2.1 ∈ names.take (k + 1) ∧ r.1 ≠ r.2.1 ∧ 1 ≤ r.2.2 ∧ r.2.2 ≤ B
  conn : ∀ x ∈ names.take (k + 1), ∀ y ∈ names.take (k + 1), Rch rs [] x y
end TW.M

namespace TW.M
open PySem
theorem run_whole {m : Nat} (hm : 1 ≤ m) (i : Int) : (sems defs m 5).run [.int i] = .ok (.bl true, []) := by
  obtain ⟨m, rfl, -⟩ := suc_of hm
  refine run_rt (ρ := [some (.int i)]) (d := d__law_whole) rfl rfl rfl ?_
  simp only [d__law_whole, evE.eq_1, evE.eq_2, evE.eq_3, evE.eq_4, evE.eq_5, evE.eq_6, evE.eq_7, evE.eq_8, evE.eq_9, evE.eq_10, evE.eq_11, evE.eq_12, evE.eq_13, evE.eq_14, evE.eq_15, evE.eq_16, evE.eq_17, evE.eq_18, evE.eq_19, evE.eq_20, evE.eq_21, evE.eq_22, evE.eq_23, evE.eq_24, evE.eq_25, evE.eq_26, evE.eq_27, evE.eq_28, evE.eq_29, evE.eq_30, T1.run, T2.run, evEs.eq_1, evEs.eq_2, evS.eq_1, evS.eq_2, evS.eq_3, evS.eq_4, evS.eq_5, evS.eq_6, evS.eq_7, evS.eq_8, evS.eq_9, evS.eq_10, evS.eq_11, evS.eq_12, evS.eq_13, evS.eq_14, evS.eq_15, evS.eq_16, evS.eq_17, evS.eq_18, evS.eq_19, evS.eq_20, evS.eq_21, evS.eq_22, evS.eq_23, evSs.eq_1, evSs.eq_2, evSs.eq_3, TW.gt, TW.st, TW.sts, TW.start, List.map_cons, List.map_nil, List.length_cons, List.length_nil, List.length_map, List.replicate_succ, List.replicate_zero, Nat.reduceAdd, Nat.reduceSub, List.cons_append, List.nil_append, Tg.put, Tg.names, srcRes, srcOf, Sk.out, Sk.pure, wipeE, Op1.run, Op2.run, slc3, okI, okB, okA, okT, isSc_i, isSc_b, isSc_s, isSc_n, isNon_i, isNon_b, isNon_l, isNon_n, eqS_ii, eqS_bb, inF_ints, ints_map, ints_mapf, bit, IDef.mut, kAt, ownK, if_true, if_false, ↓reduceIte, Bool.false_eq_true, decide_true, decide_false, Bool.not_true, Bool.not_false, true_and, and_true, and_self, Option.isSome_some, Option.isSome_none, eq_self]
theorem beqs_ints : ∀ xs ys : List Int, D.beqs (xs.map .int) (ys.map .int) = decide (xs = ys)
  | [], [] => rfl
  | [], _ :: _ => rfl
  | _ :: _, [] => rfl
  | x :: xs, y :: ys => by
    simp only [List.map_cons, D.beqs, D.beq, beqs_ints xs ys]
    by_cases h : x = y <;> by_cases k : xs = ys <;> simp [h, k]
theorem beq_li (xs ys : List Int) : D.beq (li xs) (li ys) = decide (xs = ys) := beqs_ints xs ys
theorem eqables_ints (k : Nat) : ∀ xs : List Int, D.eqables k (xs.map .int) = true
  | [] => by simp [D.eqables]
  | x :: xs => by simp [D.eqables, D.eqable, eqables_ints k xs]
theorem eqable_li (k : Nat) (xs : List Int) : D.eqable (k + 1) (li xs) = true := by simp [li, D.eqable, eqables_ints]
end TW.M

namespace TW.M
open PySem
def M31 : Int := 2147483587
def mixed (c k : Int) : Int := let a := (c * 48271 + k * k * 69621 + 3) % 2147483647
  (a * a % 2147483629) * (a * a % 2147483629) % 2147483587
def B38 : Int := 100000000000000000000000000000000000000
/-- numbers from nought on, below a bound -/
def In (B : Int) (xs : List Int) : Prop := ∀ x ∈ xs, 0 ≤ x ∧ x < B
theorem rng0i (n : Nat) : rng 0 (n : Int) 1 = (List.range n).map fun (k : Nat) => (k : Int) := rng0 n
end TW.M

namespace TW.M
open PySem
theorem getD_at {α : Type} {l : List α} {k : Nat} {d : α} (h : k < l.length) : l.getD k d = l[k] := by simp [List.getD, h]
theorem beqs_llT : ∀ xs : List (List Int), D.beqs (xs.map li) (xs.map li) = true
  | [] => rfl
  | x :: xs => by
    have := beq_li x x
    simp [D.beqs, beqs_llT xs, this]
theorem eqables_llT (k : Nat) : ∀ xs : List (List Int), D.eqables (k + 1) (xs.map li) = true
  | [] => by simp [D.eqables]
  | x :: xs => by
    have := eqable_li k x
    simp [D.eqables, eqables_llT k xs, this]
/-- rows that a text can tell -/
def Rk (rows : List (List Int)) : Prop := rows.length ≤ 4 ∧ ∀ r ∈ rows, r.length ≤ 4 ∧ ∀ x ∈ r, x.natAbs < 10 ^ 60
theorem t1_str {x : Int} (h : x.natAbs < 10 ^ 60) : T1.run .strI (.int x) = some (.str (mkS (decT x))) := if_pos (by
  have : x.natAbs.log2 < 200 := by
    by_cases z : x.natAbs = 0
    · rw [z]; decide
    · exact (Nat.log2_lt z).mpr (Nat.lt_trans h (by decide))
  omega)
theorem strs_mk : ∀ ls : List (List Nat), strs? (ls.map fun l => D.str (mkS l)) = some (ls.map mkS)
  | [] => rfl
  | l :: r => by
    show (strs? (r.map fun l => D.str (mkS l))).map (mkS l :: ·) = _
    rw [strs_mk r]; rfl
theorem t2_join {S : List Nat} {ls : List (List Nat)} {k : Nat} (h : ∀ l ∈ ls, l.length ≤ k) (hb : ls.length * k + ls.length * S.length ≤ lim) : T2.run .join (mkS S) (.lst (ls.map fun l => D.str (mkS l))) = some (.str (mkS (glueT S ls))) := by
  have e : ∀ ls : List (List Nat), (∀ l ∈ ls, l.length ≤ k) → ((ls.map mkS).map (·.length)).sum ≤ ls.length * k := fun ls => by
    induction ls with
    | nil => simp
    | cons l r ih =>
      intro h
      have h1 := h l (by simp)
      have h2 := ih fun x hx => h x (List.mem_cons_of_mem _ hx)
      simp only [List.map_cons, List.sum_cons, len_mk, List.length_cons, Nat.succ_mul] at h2 ⊢
      omega
  show (match strs? (ls.map fun l => D.str (mkS l)) with | some ss => _ | none => none) = _
  rw [strs_mk]
  show (if ((ls.map mkS).map (·.length)).sum + (ls.map mkS).length * (mkS S).length ≤ lim then _ else _) = _
  rw [if_pos (by
    have := e ls h
    rw [List.length_map, len_mk]; omega)]
  rw [tlS_mk, List.map_map, show (tlS ∘ mkS) = id from rfl, List.map_id]
theorem t2_split {l : List Nat} {S : List Nat} (h : S ≠ []) (h2 : ∀ c ∈ S, c < 256) (hl : l.length ≤ lim) : T2.run .split (mkS l) (.str (mkS S)) = some (.lst ((splT S 0 [] l).map fun l => .str (mkS l))) := by
  show (if tlS (mkS S) ≠ [] ∧ _ ∧ _ then _ else _) = _
  rw [if_pos ⟨h, List.all_eq_true.mpr fun c hc => decide_eq_true (h2 c hc), by rw [len_mk]; exact hl⟩]
  rfl
theorem showRow_len {r : List Int} (h : r.length ≤ 4) (hx : ∀ x ∈ r, x.natAbs < 10 ^ 60) : (showRow r).length ≤ 248 := by
  unfold showRow
  split
  · simp
  · have := glue_len (S := [32]) (k := 61) (ps := r.map decT) (fun p hp => by
      obtain ⟨n, hn, rfl⟩ := List.mem_map.mp hp
      exact decT_len (hx n hn))
    simp only [List.length_map, List.length_singleton] at this
    omega
theorem showRows_len {rows : List (List Int)} (h : Rk rows) : (showRows rows).length ≤ 1004 := by
  unfold showRows
  split
  · simp
  · have := glue_len (S := [32, 47, 32]) (k := 248) (ps := rows.map showRow) (fun p hp => by
      obtain ⟨r, hr, rfl⟩ := List.mem_map.mp hp
      exact showRow_len (h.2 r hr).1 (h.2 r hr).2)
    have h4 := h.1
    simp only [List.length_map, List.length_cons, List.length_nil] at this
    omega
theorem run_shown_row {m : Nat} (hm : 1 ≤ m) {r : List Int} (h : r.length ≤ 4) (hx : ∀ x ∈ r, x.natAbs < 10 ^ 60) : (sems defs m 222).run [li r] = .ok (.str (mkS (showRow r)), []) := by
  obtain ⟨m, rfl, hm1⟩ := suc_of hm
  suffices H : ∃ ρ, evSs (sems defs m) d_shown_row.body (start d_shown_row.ns [li r]) = .rt (.str (mkS (showRow r))) ρ by
    obtain ⟨ρ, e⟩ := H
    exact run_rt (d := d_shown_row) rfl rfl rfl e
  obtain ⟨o1, ho⟩ : ∃ o1, evSs (sems defs m) d_shown_row.body (start d_shown_row.ns [li r]) = o1 := ⟨_, rfl⟩
  rw [ho]
  unfold showRow
  by_cases h0 : r = []
  · subst h0
    have e : decide (((0 : Nat) : Int) = 0) = true := by decide
    simp only [d_shown_row, evE.eq_1, evE.eq_2, evE.eq_3, evE.eq_4, evE.eq_5, evE.eq_6, evE.eq_7, evE.eq_8, evE.eq_9, evE.eq_10, evE.eq_11, evE.eq_12, evE.eq_13, evE.eq_14, evE.eq_15, evE.eq_16, evE.eq_17, evE.eq_18, evE.eq_19, evE.eq_20, evE.eq_21, evE.eq_22, evE.eq_23, evE.eq_24, evE.eq_25, evE.eq_26, evE.eq_27, evE.eq_28, evE.eq_29, evE.eq_30, evEs.eq_1, evEs.eq_2, evS.eq_1, evS.eq_2, evS.eq_3, evS.eq_4, evS.eq_5, evS.eq_6, evS.eq_7, evS.eq_8, evS.eq_9, evS.eq_10, evS.eq_11, evS.eq_12, evS.eq_13, evS.eq_14, evS.eq_15, evS.eq_16, evS.eq_17, evS.eq_18, evS.eq_19, evS.eq_20, evS.eq_21, evS.eq_22, evS.eq_23, evSs.eq_1, evSs.eq_2, evSs.eq_3, TW.gt, TW.st, TW.sts, TW.start, List.map_cons, List.map_nil, List.length_cons, List.length_nil, List.length_map, List.replicate_succ, List.replicate_zero, Nat.reduceAdd, Nat.reduceSub, List.cons_append, List.nil_append, Tg.put, Tg.names, srcRes, srcOf, Sk.out, Sk.pure, wipeE, Op1.run, Op2.run, slc3, okI, okB, okA, okT, isSc_i, isSc_b, isSc_s, isSc_n, isNon_i, isNon_b, isNon_l, isNon_n, eqS_ii, eqS_bb, inF_ints, ints_map, ints_mapf, bit, IDef.mut, kAt, ownK, if_true, if_false, ↓reduceIte, Bool.false_eq_true, decide_true, decide_false, Bool.not_true, Bool.not_false, true_and, and_true, and_self, Option.isSome_some, Option.isSome_none, eq_self, li, eqS_ii, e, cDot] at ho
    rw [if_pos rfl]
    exact ⟨_, ho.symm⟩
  rw [if_neg h0]
  have e : decide ((r.length : Int) = 0) = false := decide_eq_false (by
    have : r.length ≠ 0 := fun z => h0 (List.length_eq_zero_iff.mp z)
    omega)
  have bl : r.length ≤ lim := by unfold lim; omega
  simp only [d_shown_row, evE.eq_1, evE.eq_2, evE.eq_3, evE.eq_4, evE.eq_5, evE.eq_6, evE.eq_7, evE.eq_8, evE.eq_9, evE.eq_10, evE.eq_11, evE.eq_12, evE.eq_13, evE.eq_14, evE.eq_15, evE.eq_16, evE.eq_17, evE.eq_18, evE.eq_19, evE.eq_20, evE.eq_21, evE.eq_22, evE.eq_23, evE.eq_24, evE.eq_25, evE.eq_26, evE.eq_27, evE.eq_28, evE.eq_29, evE.eq_30, evEs.eq_1, evEs.eq_2, evS.eq_1, evS.eq_2, evS.eq_3, evS.eq_4, evS.eq_5, evS.eq_6, evS.eq_7, evS.eq_8, evS.eq_9, evS.eq_10, evS.eq_11, evS.eq_12, evS.eq_13, evS.eq_14, evS.eq_15, evS.eq_16, evS.eq_17, evS.eq_18, evS.eq_19, evS.eq_20, evS.eq_21, evS.eq_22, evS.eq_23, evSs.eq_1, evSs.eq_2, evSs.eq_3, TW.gt, TW.st, TW.sts, TW.start, List.map_cons, List.map_nil, List.length_cons, List.length_nil, List.length_map, List.replicate_succ, List.replicate_zero, Nat.reduceAdd, Nat.reduceSub, List.cons_append, List.nil_append, Tg.put, Tg.names, srcRes, srcOf, Sk.out, Sk.pure, wipeE, Op1.run, Op2.run, slc3, okI, okB, okA, okT, isSc_i, isSc_b, isSc_s, isSc_n, isNon_i, isNon_b, isNon_l, isNon_n, eqS_ii, eqS_bb, inF_ints, ints_map, ints_mapf, bit, IDef.mut, kAt, ownK, if_true, if_false, ↓reduceIte, Bool.false_eq_true, decide_true, decide_false, Bool.not_true, Bool.not_false, true_and, and_true, and_self, Option.isSome_some, Option.isSome_none, eq_self, li, eqS_ii, e, bl] at ho
  generalize hL : lcGo _ _ _ _ _ = o at ho
  have := lc_all hL D.int r (fun x => .str (mkS (decT x))) rfl (by
    intro x hxr
    exact ⟨_, rfl, [some (.lst (r.map .int)), some (.int x)], by simp only [evE.eq_1, evE.eq_2, evE.eq_3, evE.eq_4, evE.eq_5, evE.eq_6, evE.eq_7, evE.eq_8, evE.eq_9, evE.eq_10, evE.eq_11, evE.eq_12, evE.eq_13, evE.eq_14, evE.eq_15, evE.eq_16, evE.eq_17, evE.eq_18, evE.eq_19, evE.eq_20, evE.eq_21, evE.eq_22, evE.eq_23, evE.eq_24, evE.eq_25, evE.eq_26, evE.eq_27, evE.eq_28, evE.eq_29, evE.eq_30, evEs.eq_1, evEs.eq_2, evS.eq_1, evS.eq_2, evS.eq_3, evS.eq_4, evS.eq_5, evS.eq_6, evS.eq_7, evS.eq_8, evS.eq_9, evS.eq_10, evS.eq_11, evS.eq_12, evS.eq_13, evS.eq_14, evS.eq_15, evS.eq_16, evS.eq_17, evS.eq_18, evS.eq_19, evS.eq_20, evS.eq_21, evS.eq_22, evS.eq_23, evSs.eq_1, evSs.eq_2, evSs.eq_3, TW.gt, TW.st, TW.sts, TW.start, List.map_cons, List.map_nil, List.length_cons, List.length_nil, List.length_map, List.replicate_succ, List.replicate_zero, Nat.reduceAdd, Nat.reduceSub, List.cons_append, List.nil_append, Tg.put, Tg.names, srcRes, srcOf, Sk.out, Sk.pure, wipeE, Op1.run, Op2.run, slc3, okI, okB, okA, okT, isSc_i, isSc_b, isSc_s, isSc_n, isNon_i, isNon_b, isNon_l, isNon_n, eqS_ii, eqS_bb, inF_ints, ints_map, ints_mapf, bit, IDef.mut, kAt, ownK, if_true, if_false, ↓reduceIte, Bool.false_eq_true, decide_true, decide_false, Bool.not_true, Bool.not_false, true_and, and_true, and_self, Option.isSome_some, Option.isSome_none, eq_self, t1_str (hx x hxr)]⟩)
  subst this
  have j := t2_join (S := [32]) (ls := r.map decT) (k := 61) (fun l hl => by
    obtain ⟨n, hn, rfl⟩ := List.mem_map.mp hl
    exact decT_len (hx n hn)) (by rw [List.length_map]; unfold lim; simp; omega)
  rw [List.map_map] at j
  simp only [evE.eq_1, evE.eq_2, evE.eq_3, evE.eq_4, evE.eq_5, evE.eq_6, evE.eq_7, evE.eq_8, evE.eq_9, evE.eq_10, evE.eq_11, evE.eq_12, evE.eq_13, evE.eq_14, evE.eq_15, evE.eq_16, evE.eq_17, evE.eq_18, evE.eq_19, evE.eq_20, evE.eq_21, evE.eq_22, evE.eq_23, evE.eq_24, evE.eq_25, evE.eq_26, evE.eq_27, evE.eq_28, evE.eq_29, evE.eq_30, evEs.eq_1, evEs.eq_2, evS.eq_1, evS.eq_2, evS.eq_3, evS.eq_4, evS.eq_5, evS.eq_6, evS.eq_7, evS.eq_8, evS.eq_9, evS.eq_10, evS.eq_11, evS.eq_12, evS.eq_13, evS.eq_14, evS.eq_15, evS.eq_16, evS.eq_17, evS.eq_18, evS.eq_19, evS.eq_20, evS.eq_21, evS.eq_22, evS.eq_23, evSs.eq_1, evSs.eq_2, evSs.eq_3, TW.gt, TW.st, TW.sts, TW.start, List.map_cons, List.map_nil, List.length_cons, List.length_nil, List.length_map, List.replicate_succ, List.replicate_zero, Nat.reduceAdd, Nat.reduceSub, List.cons_append, List.nil_append, Tg.put, Tg.names, srcRes, srcOf, Sk.out, Sk.pure, wipeE, Op1.run, Op2.run, slc3, okI, okB, okA, okT, isSc_i, isSc_b, isSc_s, isSc_n, isNon_i, isNon_b, isNon_l, isNon_n, eqS_ii, eqS_bb, inF_ints, ints_map, ints_mapf, bit, IDef.mut, kAt, ownK, if_true, if_false, ↓reduceIte, Bool.false_eq_true, decide_true, decide_false, Bool.not_true, Bool.not_false, true_and, and_true, and_self, Option.isSome_some, Option.isSome_none, eq_self, cSp] at ho
  rw [show (fun x => D.str (mkS (decT x))) = (fun l => D.str (mkS l)) ∘ decT from rfl] at ho
  simp only [evE.eq_1, evE.eq_2, evE.eq_3, evE.eq_4, evE.eq_5, evE.eq_6, evE.eq_7, evE.eq_8, evE.eq_9, evE.eq_10, evE.eq_11, evE.eq_12, evE.eq_13, evE.eq_14, evE.eq_15, evE.eq_16, evE.eq_17, evE.eq_18, evE.eq_19, evE.eq_20, evE.eq_21, evE.eq_22, evE.eq_23, evE.eq_24, evE.eq_25, evE.eq_26, evE.eq_27, evE.eq_28, evE.eq_29, evE.eq_30, evEs.eq_1, evEs.eq_2, evS.eq_1, evS.eq_2, evS.eq_3, evS.eq_4, evS.eq_5, evS.eq_6, evS.eq_7, evS.eq_8, evS.eq_9, evS.eq_10, evS.eq_11, evS.eq_12, evS.eq_13, evS.eq_14, evS.eq_15, evS.eq_16, evS.eq_17, evS.eq_18, evS.eq_19, evS.eq_20, evS.eq_21, evS.eq_22, evS.eq_23, evSs.eq_1, evSs.eq_2, evSs.eq_3, TW.gt, TW.st, TW.sts, TW.start, List.map_cons, List.map_nil, List.length_cons, List.length_nil, List.length_map, List.replicate_succ, List.replicate_zero, Nat.reduceAdd, Nat.reduceSub, List.cons_append, List.nil_append, Tg.put, Tg.names, srcRes, srcOf, Sk.out, Sk.pure, wipeE, Op1.run, Op2.run, slc3, okI, okB, okA, okT, isSc_i, isSc_b, isSc_s, isSc_n, isNon_i, isNon_b, isNon_l, isNon_n, eqS_ii, eqS_bb, inF_ints, ints_map, ints_mapf, bit, IDef.mut, kAt, ownK, if_true, if_false, ↓reduceIte, Bool.false_eq_true, decide_true, decide_false, Bool.not_true, Bool.not_false, true_and, and_true, and_self, Option.isSome_some, Option.isSome_none, eq_self, j] at ho
  exact ⟨_, ho.symm⟩
theorem run_shown_rows {m : Nat} (hm : 2 ≤ m) {rows : List (List Int)} (h : Rk rows) : (sems defs m 223).run [.lst (rows.map li)] = .ok (.str (mkS (showRows rows)), []) := by
  obtain ⟨m, rfl, hm1⟩ := suc_of hm
  suffices H : ∃ ρ, evSs (sems defs m) d_shown_rows.body (start d_shown_rows.ns [.lst (rows.map li)]) = .rt (.str (mkS (showRows rows))) ρ by
    obtain ⟨ρ, e⟩ := H
    exact run_rt (d := d_shown_rows) rfl rfl rfl e
  obtain ⟨o1, ho⟩ : ∃ o1, evSs (sems defs m) d_shown_rows.body (start d_shown_rows.ns [.lst (rows.map li)]) = o1 := ⟨_, rfl⟩
  rw [ho]
  have h4 := h.1
  unfold showRows
  by_cases h0 : rows = []
  · subst h0
    have e : decide (((0 : Nat) : Int) = 0) = true := by decide
    simp only [d_shown_rows, evE.eq_1, evE.eq_2, evE.eq_3, evE.eq_4, evE.eq_5, evE.eq_6, evE.eq_7, evE.eq_8, evE.eq_9, evE.eq_10, evE.eq_11, evE.eq_12, evE.eq_13, evE.eq_14, evE.eq_15, evE.eq_16, evE.eq_17, evE.eq_18, evE.eq_19, evE.eq_20, evE.eq_21, evE.eq_22, evE.eq_23, evE.eq_24, evE.eq_25, evE.eq_26, evE.eq_27, evE.eq_28, evE.eq_29, evE.eq_30, evEs.eq_1, evEs.eq_2, evS.eq_1, evS.eq_2, evS.eq_3, evS.eq_4, evS.eq_5, evS.eq_6, evS.eq_7, evS.eq_8, evS.eq_9, evS.eq_10, evS.eq_11, evS.eq_12, evS.eq_13, evS.eq_14, evS.eq_15, evS.eq_16, evS.eq_17, evS.eq_18, evS.eq_19, evS.eq_20, evS.eq_21, evS.eq_22, evS.eq_23, evSs.eq_1, evSs.eq_2, evSs.eq_3, TW.gt, TW.st, TW.sts, TW.start, List.map_cons, List.map_nil, List.length_cons, List.length_nil, List.length_map, List.replicate_succ, List.replicate_zero, Nat.reduceAdd, Nat.reduceSub, List.cons_append, List.nil_append, Tg.put, Tg.names, srcRes, srcOf, Sk.out, Sk.pure, wipeE, Op1.run, Op2.run, slc3, okI, okB, okA, okT, isSc_i, isSc_b, isSc_s, isSc_n, isNon_i, isNon_b, isNon_l, isNon_n, eqS_ii, eqS_bb, inF_ints, ints_map, ints_mapf, bit, IDef.mut, kAt, ownK, if_true, if_false, ↓reduceIte, Bool.false_eq_true, decide_true, decide_false, Bool.not_true, Bool.not_false, true_and, and_true, and_self, Option.isSome_some, Option.isSome_none, eq_self, eqS_ii, e, cMinus] at ho
    rw [if_pos rfl]
    exact ⟨_, ho.symm⟩
  rw [if_neg h0]
  have e : decide ((rows.length : Int) = 0) = false := decide_eq_false (by
    have : rows.length ≠ 0 := fun z => h0 (List.length_eq_zero_iff.mp z)
    omega)
  have bl : rows.length ≤ lim := by unfold lim; omega
  simp only [d_shown_rows, evE.eq_1, evE.eq_2, evE.eq_3, evE.eq_4, evE.eq_5, evE.eq_6, evE.eq_7, evE.eq_8, evE.eq_9, evE.eq_10, evE.eq_11, evE.eq_12, evE.eq_13, evE.eq_14, evE.eq_15, evE.eq_16, evE.eq_17, evE.eq_18, evE.eq_19, evE.eq_20, evE.eq_21, evE.eq_22, evE.eq_23, evE.eq_24, evE.eq_25, evE.eq_26, evE.eq_27, evE.eq_28, evE.eq_29, evE.eq_30, evEs.eq_1, evEs.eq_2, evS.eq_1, evS.eq_2, evS.eq_3, evS.eq_4, evS.eq_5, evS.eq_6, evS.eq_7, evS.eq_8, evS.eq_9, evS.eq_10, evS.eq_11, evS.eq_12, evS.eq_13, evS.eq_14, evS.eq_15, evS.eq_16, evS.eq_17, evS.eq_18, evS.eq_19, evS.eq_20, evS.eq_21, evS.eq_22, evS.eq_23, evSs.eq_1, evSs.eq_2, evSs.eq_3, TW.gt, TW.st, TW.sts, TW.start, List.map_cons, List.map_nil, List.length_cons, List.length_nil, List.length_map, List.replicate_succ, List.replicate_zero, Nat.reduceAdd, Nat.reduceSub, List.cons_append, List.nil_append, Tg.put, Tg.names, srcRes, srcOf, Sk.out, Sk.pure, wipeE, Op1.run, Op2.run, slc3, okI, okB, okA, okT, isSc_i, isSc_b, isSc_s, isSc_n, isNon_i, isNon_b, isNon_l, isNon_n, eqS_ii, eqS_bb, inF_ints, ints_map, ints_mapf, bit, IDef.mut, kAt, ownK, if_true, if_false, ↓reduceIte, Bool.false_eq_true, decide_true, decide_false, Bool.not_true, Bool.not_false, true_and, and_true, and_self, Option.isSome_some, Option.isSome_none, eq_self, eqS_ii, e, bl] at ho
  generalize hL : lcGo _ _ _ _ _ = o at ho
  have := lc_all hL li rows (fun x => .str (mkS (showRow x))) rfl (by
    intro r hr
    exact ⟨_, rfl, [some (.lst (rows.map li)), some (li r)], by simp only [evE.eq_1, evE.eq_2, evE.eq_3, evE.eq_4, evE.eq_5, evE.eq_6, evE.eq_7, evE.eq_8, evE.eq_9, evE.eq_10, evE.eq_11, evE.eq_12, evE.eq_13, evE.eq_14, evE.eq_15, evE.eq_16, evE.eq_17, evE.eq_18, evE.eq_19, evE.eq_20, evE.eq_21, evE.eq_22, evE.eq_23, evE.eq_24, evE.eq_25, evE.eq_26, evE.eq_27, evE.eq_28, evE.eq_29, evE.eq_30, evEs.eq_1, evEs.eq_2, evS.eq_1, evS.eq_2, evS.eq_3, evS.eq_4, evS.eq_5, evS.eq_6, evS.eq_7, evS.eq_8, evS.eq_9, evS.eq_10, evS.eq_11, evS.eq_12, evS.eq_13, evS.eq_14, evS.eq_15, evS.eq_16, evS.eq_17, evS.eq_18, evS.eq_19, evS.eq_20, evS.eq_21, evS.eq_22, evS.eq_23, evSs.eq_1, evSs.eq_2, evSs.eq_3, TW.gt, TW.st, TW.sts, TW.start, List.map_cons, List.map_nil, List.length_cons, List.length_nil, List.length_map, List.replicate_succ, List.replicate_zero, Nat.reduceAdd, Nat.reduceSub, List.cons_append, List.nil_append, Tg.put, Tg.names, srcRes, srcOf, Sk.out, Sk.pure, wipeE, Op1.run, Op2.run, slc3, okI, okB, okA, okT, isSc_i, isSc_b, isSc_s, isSc_n, isNon_i, isNon_b, isNon_l, isNon_n, eqS_ii, eqS_bb, inF_ints, ints_map, ints_mapf, bit, IDef.mut, kAt, ownK, if_true, if_false, ↓reduceIte, Bool.false_eq_true, decide_true, decide_false, Bool.not_true, Bool.not_false, true_and, and_true, and_self, Option.isSome_some, Option.isSome_none, eq_self, run_shown_row (m := m) (by omega) (h.2 r hr).1 (h.2 r hr).2]⟩)
  subst this
  have j := t2_join (S := [32, 47, 32]) (ls := rows.map showRow) (k := 248) (fun l hl => by
    obtain ⟨r, hr, rfl⟩ := List.mem_map.mp hl
    exact showRow_len (h.2 r hr).1 (h.2 r hr).2) (by rw [List.length_map]; unfold lim; simp; omega)
  rw [List.map_map] at j
  simp only [evE.eq_1, evE.eq_2, evE.eq_3, evE.eq_4, evE.eq_5, evE.eq_6, evE.eq_7, evE.eq_8, evE.eq_9, evE.eq_10, evE.eq_11, evE.eq_12, evE.eq_13, evE.eq_14, evE.eq_15, evE.eq_16, evE.eq_17, evE.eq_18, evE.eq_19, evE.eq_20, evE.eq_21, evE.eq_22, evE.eq_23, evE.eq_24, evE.eq_25, evE.eq_26, evE.eq_27, evE.eq_28, evE.eq_29, evE.eq_30, evEs.eq_1, evEs.eq_2, evS.eq_1, evS.eq_2, evS.eq_3, evS.eq_4, evS.eq_5, evS.eq_6, evS.eq_7, evS.eq_8, evS.eq_9, evS.eq_10, evS.eq_11, evS.eq_12, evS.eq_13, evS.eq_14, evS.eq_15, evS.eq_16, evS.eq_17, evS.eq_18, evS.eq_19, evS.eq_20, evS.eq_21, evS.eq_22, evS.eq_23, evSs.eq_1, evSs.eq_2, evSs.eq_3, TW.gt, TW.st, TW.sts, TW.start, List.map_cons, List.map_nil, List.length_cons, List.length_nil, List.length_map, List.replicate_succ, List.replicate_zero, Nat.reduceAdd, Nat.reduceSub, List.cons_append, List.nil_append, Tg.put, Tg.names, srcRes, srcOf, Sk.out, Sk.pure, wipeE, Op1.run, Op2.run, slc3, okI, okB, okA, okT, isSc_i, isSc_b, isSc_s, isSc_n, isNon_i, isNon_b, isNon_l, isNon_n, eqS_ii, eqS_bb, inF_ints, ints_map, ints_mapf, bit, IDef.mut, kAt, ownK, if_true, if_false, ↓reduceIte, Bool.false_eq_true, decide_true, decide_false, Bool.not_true, Bool.not_false, true_and, and_true, and_self, Option.isSome_some, Option.isSome_none, eq_self, cSl] at ho
  rw [show (fun x => D.str (mkS (showRow x))) = (fun l => D.str (mkS l)) ∘ showRow from rfl] at ho
  simp only [evE.eq_1, evE.eq_2, evE.eq_3, evE.eq_4, evE.eq_5, evE.eq_6, evE.eq_7, evE.eq_8, evE.eq_9, evE.eq_10, evE.eq_11, evE.eq_12, evE.eq_13, evE.eq_14, evE.eq_15, evE.eq_16, evE.eq_17, evE.eq_18, evE.eq_19, evE.eq_20, evE.eq_21, evE.eq_22, evE.eq_23, evE.eq_24, evE.eq_25, evE.eq_26, evE.eq_27, evE.eq_28, evE.eq_29, evE.eq_30, evEs.eq_1, evEs.eq_2, evS.eq_1, evS.eq_2, evS.eq_3, evS.eq_4, evS.eq_5, evS.eq_6, evS.eq_7, evS.eq_8, evS.eq_9, evS.eq_10, evS.eq_11, evS.eq_12, evS.eq_13, evS.eq_14, evS.eq_15, evS.eq_16, evS.eq_17, evS.eq_18, evS.eq_19, evS.eq_20, evS.eq_21, evS.eq_22, evS.eq_23, evSs.eq_1, evSs.eq_2, evSs.eq_3, TW.gt, TW.st, TW.sts, TW.start, List.map_cons, List.map_nil, List.length_cons, List.length_nil, List.length_map, List.replicate_succ, List.replicate_zero, Nat.reduceAdd, Nat.reduceSub, List.cons_append, List.nil_append, Tg.put, Tg.names, srcRes, srcOf, Sk.out, Sk.pure, wipeE, Op1.run, Op2.run, slc3, okI, okB, okA, okT, isSc_i, isSc_b, isSc_s, isSc_n, isNon_i, isNon_b, isNon_l, isNon_n, eqS_ii, eqS_bb, inF_ints, ints_map, ints_mapf, bit, IDef.mut, kAt, ownK, if_true, if_false, ↓reduceIte, Bool.false_eq_true, decide_true, decide_false, Bool.not_true, Bool.not_false, true_and, and_true, and_self, Option.isSome_some, Option.isSome_none, eq_self, j] at ho
  exact ⟨_, ho.symm⟩
theorem dec_not_dot {r : List Int} (h : r ≠ []) : showRow r ≠ [46] := fun e => by
  have w := words_back h
  rw [e] at w
  have : (46 : Nat) ∈ showRow r := by rw [e]; simp
  unfold showRow at this
  rw [if_neg h] at this
  rcases glue_mem this with h | ⟨p, hp, h⟩
  · simp at h
  · obtain ⟨n, _, rfl⟩ := List.mem_map.mp hp
    rcases dec_sign h with h | h <;> omega
theorem run_read_row {m : Nat} (hm : 4 ≤ m) {r : List Int} (h : r.length ≤ 4) (hx : ∀ x ∈ r, x.natAbs < 10 ^ 60) : (sems defs m 220).run [.str (mkS (showRow r))] = .ok (li r, []) := by
  obtain ⟨m, rfl, hm1⟩ := suc_of hm
  have len := showRow_len h hx
  by_cases h0 : r = []
  · subst h0
    have e : decide (showRow [] = [46]) = true := by decide
    exact run_rt (d := d_read_row) rfl rfl rfl (by simp only [d_read_row, evE.eq_1, evE.eq_2, evE.eq_3, evE.eq_4, evE.eq_5, evE.eq_6, evE.eq_7, evE.eq_8, evE.eq_9, evE.eq_10, evE.eq_11, evE.eq_12, evE.eq_13, evE.eq_14, evE.eq_15, evE.eq_16, evE.eq_17, evE.eq_18, evE.eq_19, evE.eq_20, evE.eq_21, evE.eq_22, evE.eq_23, evE.eq_24, evE.eq_25, evE.eq_26, evE.eq_27, evE.eq_28, evE.eq_29, evE.eq_30, evEs.eq_1, evEs.eq_2, evS.eq_1, evS.eq_2, evS.eq_3, evS.eq_4, evS.eq_5, evS.eq_6, evS.eq_7, evS.eq_8, evS.eq_9, evS.eq_10, evS.eq_11, evS.eq_12, evS.eq_13, evS.eq_14, evS.eq_15, evS.eq_16, evS.eq_17, evS.eq_18, evS.eq_19, evS.eq_20, evS.eq_21, evS.eq_22, evS.eq_23, evSs.eq_1, evSs.eq_2, evSs.eq_3, TW.gt, TW.st, TW.sts, TW.start, List.map_cons, List.map_nil, List.length_cons, List.length_nil, List.length_map, List.replicate_succ, List.replicate_zero, Nat.reduceAdd, Nat.reduceSub, List.cons_append, List.nil_append, Tg.put, Tg.names, srcRes, srcOf, Sk.out, Sk.pure, wipeE, Op1.run, Op2.run, slc3, okI, okB, okA, okT, isSc_i, isSc_b, isSc_s, isSc_n, isNon_i, isNon_b, isNon_l, isNon_n, eqS_ii, eqS_bb, inF_ints, ints_map, ints_mapf, bit, IDef.mut, kAt, ownK, if_true, if_false, ↓reduceIte, Bool.false_eq_true, decide_true, decide_false, Bool.not_true, Bool.not_false, true_and, and_true, and_self, Option.isSome_some, Option.isSome_none, eq_self, cDot, eqS_ss, e] <;> rfl)
  have e : decide (showRow r = [46]) = false := decide_eq_false (dec_not_dot h0)
  have s := t2_split (l := showRow r) (S := [32]) (by simp) (by simp) (by unfold lim; omega)
  rw [words_back h0, List.map_map] at s
  have bl : r.length ≤ lim := by unfold lim; omega
  suffices H : ∃ ρ, evSs (sems defs m) d_read_row.body (start d_read_row.ns [.str (mkS (showRow r))]) = .rt (li r) ρ by
    obtain ⟨ρ, e⟩ := H
    exact run_rt (d := d_read_row) rfl rfl rfl e
  obtain ⟨o1, ho⟩ : ∃ o1, evSs (sems defs m) d_read_row.body (start d_read_row.ns [.str (mkS (showRow r))]) = o1 := ⟨_, rfl⟩
  rw [ho]
  simp only [d_read_row, evE.eq_1, evE.eq_2, evE.eq_3, evE.eq_4, evE.eq_5, evE.eq_6, evE.eq_7, evE.eq_8, evE.eq_9, evE.eq_10, evE.eq_11, evE.eq_12, evE.eq_13, evE.eq_14, evE.eq_15, evE.eq_16, evE.eq_17, evE.eq_18, evE.eq_19, evE.eq_20, evE.eq_21, evE.eq_22, evE.eq_23, evE.eq_24, evE.eq_25, evE.eq_26, evE.eq_27, evE.eq_28, evE.eq_29, evE.eq_30, evEs.eq_1, evEs.eq_2, evS.eq_1, evS.eq_2, evS.eq_3, evS.eq_4, evS.eq_5, evS.eq_6, evS.eq_7, evS.eq_8, evS.eq_9, evS.eq_10, evS.eq_11, evS.eq_12, evS.eq_13, evS.eq_14, evS.eq_15, evS.eq_16, evS.eq_17, evS.eq_18, evS.eq_19, evS.eq_20, evS.eq_21, evS.eq_22, evS.eq_23, evSs.eq_1, evSs.eq_2, evSs.eq_3, TW.gt, TW.st, TW.sts, TW.start, List.map_cons, List.map_nil, List.length_cons, List.length_nil, List.length_map, List.replicate_succ, List.replicate_zero, Nat.reduceAdd, Nat.reduceSub, List.cons_append, List.nil_append, Tg.put, Tg.names, srcRes, srcOf, Sk.out, Sk.pure, wipeE, Op1.run, Op2.run, slc3, okI, okB, okA, okT, isSc_i, isSc_b, isSc_s, isSc_n, isNon_i, isNon_b, isNon_l, isNon_n, eqS_ii, eqS_bb, inF_ints, ints_map, ints_mapf, bit, IDef.mut, kAt, ownK, if_true, if_false, ↓reduceIte, Bool.false_eq_true, decide_true, decide_false, Bool.not_true, Bool.not_false, true_and, and_true, and_self, Option.isSome_some, Option.isSome_none, eq_self, cDot, cSp, eqS_ss, e, s, bl] at ho
  generalize hL : lcGo _ _ _ _ _ = o at ho
  have := lc_all hL ((fun l => D.str (mkS l)) ∘ decT) r D.int rfl (by
    intro x hxr
    have A := run_read_number (m := m) (by omega) (l := decT x) (by have := decT_len (hx x hxr); unfold lim; omega)
    rw [if_pos (isNum_dec (hx x hxr)).1, (isNum_dec (hx x hxr)).2] at A
    exact ⟨_, rfl, [some (.str (mkS (showRow r))), some (.str (mkS (decT x)))], by simp only [evE.eq_1, evE.eq_2, evE.eq_3, evE.eq_4, evE.eq_5, evE.eq_6, evE.eq_7, evE.eq_8, evE.eq_9, evE.eq_10, evE.eq_11, evE.eq_12, evE.eq_13, evE.eq_14, evE.eq_15, evE.eq_16, evE.eq_17, evE.eq_18, evE.eq_19, evE.eq_20, evE.eq_21, evE.eq_22, evE.eq_23, evE.eq_24, evE.eq_25, evE.eq_26, evE.eq_27, evE.eq_28, evE.eq_29, evE.eq_30, evEs.eq_1, evEs.eq_2, evS.eq_1, evS.eq_2, evS.eq_3, evS.eq_4, evS.eq_5, evS.eq_6, evS.eq_7, evS.eq_8, evS.eq_9, evS.eq_10, evS.eq_11, evS.eq_12, evS.eq_13, evS.eq_14, evS.eq_15, evS.eq_16, evS.eq_17, evS.eq_18, evS.eq_19, evS.eq_20, evS.eq_21, evS.eq_22, evS.eq_23, evSs.eq_1, evSs.eq_2, evSs.eq_3, TW.gt, TW.st, TW.sts, TW.start, List.map_cons, List.map_nil, List.length_cons, List.length_nil, List.length_map, List.replicate_succ, List.replicate_zero, Nat.reduceAdd, Nat.reduceSub, List.cons_append, List.nil_append, Tg.put, Tg.names, srcRes, srcOf, Sk.out, Sk.pure, wipeE, Op1.run, Op2.run, slc3, okI, okB, okA, okT, isSc_i, isSc_b, isSc_s, isSc_n, isNon_i, isNon_b, isNon_l, isNon_n, eqS_ii, eqS_bb, inF_ints, ints_map, ints_mapf, bit, IDef.mut, kAt, ownK, if_true, if_false, ↓reduceIte, Bool.false_eq_true, decide_true, decide_false, Bool.not_true, Bool.not_false, true_and, and_true, and_self, Option.isSome_some, Option.isSome_none, eq_self, Function.comp_def, A]⟩)
  subst this
  simp only [evE.eq_1, evE.eq_2, evE.eq_3, evE.eq_4, evE.eq_5, evE.eq_6, evE.eq_7, evE.eq_8, evE.eq_9, evE.eq_10, evE.eq_11, evE.eq_12, evE.eq_13, evE.eq_14, evE.eq_15, evE.eq_16, evE.eq_17, evE.eq_18, evE.eq_19, evE.eq_20, evE.eq_21, evE.eq_22, evE.eq_23, evE.eq_24, evE.eq_25, evE.eq_26, evE.eq_27, evE.eq_28, evE.eq_29, evE.eq_30, evEs.eq_1, evEs.eq_2, evS.eq_1, evS.eq_2, evS.eq_3, evS.eq_4, evS.eq_5, evS.eq_6, evS.eq_7, evS.eq_8, evS.eq_9, evS.eq_10, evS.eq_11, evS.eq_12, evS.eq_13, evS.eq_14, evS.eq_15, evS.eq_16, evS.eq_17, evS.eq_18, evS.eq_19, evS.eq_20, evS.eq_21, evS.eq_22, evS.eq_23, evSs.eq_1, evSs.eq_2, evSs.eq_3, TW.gt, TW.st, TW.sts, TW.start, List.map_cons, List.map_nil, List.length_cons, List.length_nil, List.length_map, List.replicate_succ, List.replicate_zero, Nat.reduceAdd, Nat.reduceSub, List.cons_append, List.nil_append, Tg.put, Tg.names, srcRes, srcOf, Sk.out, Sk.pure, wipeE, Op1.run, Op2.run, slc3, okI, okB, okA, okT, isSc_i, isSc_b, isSc_s, isSc_n, isNon_i, isNon_b, isNon_l, isNon_n, eqS_ii, eqS_bb, inF_ints, ints_map, ints_mapf, bit, IDef.mut, kAt, ownK, if_true, if_false, ↓reduceIte, Bool.false_eq_true, decide_true, decide_false, Bool.not_true, Bool.not_false, true_and, and_true, and_self, Option.isSome_some, Option.isSome_none, eq_self] at ho
  exact ⟨_, ho.symm⟩
theorem row_ne (r : List Int) : showRow r ≠ [45] ∧ showRow r ≠ [] := by
  by_cases h : r = []
  · subst h; decide
  · have w := words_back h
    obtain ⟨x, r, rfl⟩ : ∃ x t, r = x :: t := by cases r with | nil => exact absurd rfl h | cons x t => exact ⟨x, t, rfl⟩
    have nn : ∀ x : Int, decT x ≠ [45] ∧ decT x ≠ [] := fun x => by
      have ne := TL.numL_ne x.natAbs
      have d := TL.numL_digits x.natAbs
      unfold decT
      split
      · exact ⟨fun z => ne (List.cons.inj z).2, by simp⟩
      · refine ⟨fun z => ?_, ne⟩
        have z : TL.numL x.natAbs = [45] := z
        have := d 45 (by rw [z]; simp)
        omega
    refine ⟨fun e => ?_, fun e => ?_⟩
    · rw [e] at w
      have w : [[45]] = (x :: r).map decT := w
      simp only [List.map_cons, List.cons.injEq] at w
      exact (nn x).1 w.1.symm
    · rw [e] at w
      have w : [[]] = (x :: r).map decT := w
      simp only [List.map_cons, List.cons.injEq] at w
      exact (nn x).2 w.1.symm
theorem rows_not_minus {rows : List (List Int)} (h : rows ≠ []) : showRows rows ≠ [45] := fun e => by
  have w := rows_back h
  rw [e] at w
  obtain ⟨x, r, rfl⟩ : ∃ x t, rows = x :: t := by cases rows with | nil => exact absurd rfl h | cons x t => exact ⟨x, t, rfl⟩
  have w : [[45]] = (x :: r).map showRow := w
  simp only [List.map_cons, List.cons.injEq] at w
  exact (row_ne x).1 w.1.symm
theorem run_read_rows {m : Nat} (hm : 5 ≤ m) {rows : List (List Int)} (h : Rk rows) : (sems defs m 221).run [.str (mkS (showRows rows))] = .ok (.lst (rows.map li), []) := by
  obtain ⟨m, rfl, hm1⟩ := suc_of hm
  have len := showRows_len h
  have h4 := h.1
  by_cases h0 : rows = []
  · subst h0
    have e : decide (showRows [] = [45]) = true := by decide
    exact run_rt (d := d_read_rows) rfl rfl rfl (by simp only [d_read_rows, evE.eq_1, evE.eq_2, evE.eq_3, evE.eq_4, evE.eq_5, evE.eq_6, evE.eq_7, evE.eq_8, evE.eq_9, evE.eq_10, evE.eq_11, evE.eq_12, evE.eq_13, evE.eq_14, evE.eq_15, evE.eq_16, evE.eq_17, evE.eq_18, evE.eq_19, evE.eq_20, evE.eq_21, evE.eq_22, evE.eq_23, evE.eq_24, evE.eq_25, evE.eq_26, evE.eq_27, evE.eq_28, evE.eq_29, evE.eq_30, evEs.eq_1, evEs.eq_2, evS.eq_1, evS.eq_2, evS.eq_3, evS.eq_4, evS.eq_5, evS.eq_6, evS.eq_7, evS.eq_8, evS.eq_9, evS.eq_10, evS.eq_11, evS.eq_12, evS.eq_13, evS.eq_14, evS.eq_15, evS.eq_16, evS.eq_17, evS.eq_18, evS.eq_19, evS.eq_20, evS.eq_21, evS.eq_22, evS.eq_23, evSs.eq_1, evSs.eq_2, evSs.eq_3, TW.gt, TW.st, TW.sts, TW.start, List.map_cons, List.map_nil, List.length_cons, List.length_nil, List.length_map, List.replicate_succ, List.replicate_zero, Nat.reduceAdd, Nat.reduceSub, List.cons_append, List.nil_append, Tg.put, Tg.names, srcRes, srcOf, Sk.out, Sk.pure, wipeE, Op1.run, Op2.run, slc3, okI, okB, okA, okT, isSc_i, isSc_b, isSc_s, isSc_n, isNon_i, isNon_b, isNon_l, isNon_n, eqS_ii, eqS_bb, inF_ints, ints_map, ints_mapf, bit, IDef.mut, kAt, ownK, if_true, if_false, ↓reduceIte, Bool.false_eq_true, decide_true, decide_false, Bool.not_true, Bool.not_false, true_and, and_true, and_self, Option.isSome_some, Option.isSome_none, eq_self, cMinus, eqS_ss, e] <;> rfl)
  have e : decide (showRows rows = [45]) = false := decide_eq_false (rows_not_minus h0)
  have s := t2_split (l := showRows rows) (S := [32, 47, 32]) (by simp) (by simp) (by unfold lim; omega)
  rw [rows_back h0, List.map_map] at s
  have bl : rows.length ≤ lim := by unfold lim; omega
  suffices H : ∃ ρ, evSs (sems defs m) d_read_rows.body (start d_read_rows.ns [.str (mkS (showRows rows))]) = .rt (.lst (rows.map li)) ρ by
    obtain ⟨ρ, e⟩ := H
    exact run_rt (d := d_read_rows) rfl rfl rfl e
  obtain ⟨o1, ho⟩ : ∃ o1, evSs (sems defs m) d_read_rows.body (start d_read_rows.ns [.str (mkS (showRows rows))]) = o1 := ⟨_, rfl⟩
  rw [ho]
  simp only [d_read_rows, evE.eq_1, evE.eq_2, evE.eq_3, evE.eq_4, evE.eq_5, evE.eq_6, evE.eq_7, evE.eq_8, evE.eq_9, evE.eq_10, evE.eq_11, evE.eq_12, evE.eq_13, evE.eq_14, evE.eq_15, evE.eq_16, evE.eq_17, evE.eq_18, evE.eq_19, evE.eq_20, evE.eq_21, evE.eq_22, evE.eq_23, evE.eq_24, evE.eq_25, evE.eq_26, evE.eq_27, evE.eq_28, evE.eq_29, evE.eq_30, evEs.eq_1, evEs.eq_2, evS.eq_1, evS.eq_2, evS.eq_3, evS.eq_4, evS.eq_5, evS.eq_6, evS.eq_7, evS.eq_8, evS.eq_9, evS.eq_10, evS.eq_11, evS.eq_12, evS.eq_13, evS.eq_14, evS.eq_15, evS.eq_16, evS.eq_17, evS.eq_18, evS.eq_19, evS.eq_20, evS.eq_21, evS.eq_22, evS.eq_23, evSs.eq_1, evSs.eq_2, evSs.eq_3, TW.gt, TW.st, TW.sts, TW.start, List.map_cons, List.map_nil, List.length_cons, List.length_nil, List.length_map, List.replicate_succ, List.replicate_zero, Nat.reduceAdd, Nat.reduceSub, List.cons_append, List.nil_append, Tg.put, Tg.names, srcRes, srcOf, Sk.out, Sk.pure, wipeE, Op1.run, Op2.run, slc3, okI, okB, okA, okT, isSc_i, isSc_b, isSc_s, isSc_n, isNon_i, isNon_b, isNon_l, isNon_n, eqS_ii, eqS_bb, inF_ints, ints_map, ints_mapf, bit, IDef.mut, kAt, ownK, if_true, if_false, ↓reduceIte, Bool.false_eq_true, decide_true, decide_false, Bool.not_true, Bool.not_false, true_and, and_true, and_self, Option.isSome_some, Option.isSome_none, eq_self, cMinus, cSl, eqS_ss, e, s, bl] at ho
  generalize hL : lcGo _ _ _ _ _ = o at ho
  have := lc_all hL ((fun l => D.str (mkS l)) ∘ showRow) rows li rfl (by
    intro r hr
    exact ⟨_, rfl, [some (.str (mkS (showRows rows))), some (.str (mkS (showRow r)))], by simp only [evE.eq_1, evE.eq_2, evE.eq_3, evE.eq_4, evE.eq_5, evE.eq_6, evE.eq_7, evE.eq_8, evE.eq_9, evE.eq_10, evE.eq_11, evE.eq_12, evE.eq_13, evE.eq_14, evE.eq_15, evE.eq_16, evE.eq_17, evE.eq_18, evE.eq_19, evE.eq_20, evE.eq_21, evE.eq_22, evE.eq_23, evE.eq_24, evE.eq_25, evE.eq_26, evE.eq_27, evE.eq_28, evE.eq_29, evE.eq_30, evEs.eq_1, evEs.eq_2, evS.eq_1, evS.eq_2, evS.eq_3, evS.eq_4, evS.eq_5, evS.eq_6, evS.eq_7, evS.eq_8, evS.eq_9, evS.eq_10, evS.eq_11, evS.eq_12, evS.eq_13, evS.eq_14, evS.eq_15, evS.eq_16, evS.eq_17, evS.eq_18, evS.eq_19, evS.eq_20, evS.eq_21, evS.eq_22, evS.eq_23, evSs.eq_1, evSs.eq_2, evSs.eq_3, TW.gt, TW.st, TW.sts, TW.start, List.map_cons, List.map_nil, List.length_cons, List.length_nil, List.length_map, List.replicate_succ, List.replicate_zero, Nat.reduceAdd, Nat.reduceSub, List.cons_append, List.nil_append, Tg.put, Tg.names, srcRes, srcOf, Sk.out, Sk.pure, wipeE, Op1.run, Op2.run, slc3, okI, okB, okA, okT, isSc_i, isSc_b, isSc_s, isSc_n, isNon_i, isNon_b, isNon_l, isNon_n, eqS_ii, eqS_bb, inF_ints, ints_map, ints_mapf, bit, IDef.mut, kAt, ownK, if_true, if_false, ↓reduceIte, Bool.false_eq_true, decide_true, decide_false, Bool.not_true, Bool.not_false, true_and, and_true, and_self, Option.isSome_some, Option.isSome_none, eq_self, Function.comp_def, run_read_row (m := m) (by omega) (h.2 r hr).1 (h.2 r hr).2]⟩)
  subst this
  simp only [evE.eq_1, evE.eq_2, evE.eq_3, evE.eq_4, evE.eq_5, evE.eq_6, evE.eq_7, evE.eq_8, evE.eq_9, evE.eq_10, evE.eq_11, evE.eq_12, evE.eq_13, evE.eq_14, evE.eq_15, evE.eq_16, evE.eq_17, evE.eq_18, evE.eq_19, evE.eq_20, evE.eq_21, evE.eq_22, evE.eq_23, evE.eq_24, evE.eq_25, evE.eq_26, evE.eq_27, evE.eq_28, evE.eq_29, evE.eq_30, evEs.eq_1, evEs.eq_2, evS.eq_1, evS.eq_2, evS.eq_3, evS.eq_4, evS.eq_5, evS.eq_6, evS.eq_7, evS.eq_8, evS.eq_9, evS.eq_10, evS.eq_11, evS.eq_12, evS.eq_13, evS.eq_14, evS.eq_15, evS.eq_16, evS.eq_17, evS.eq_18, evS.eq_19, evS.eq_20, evS.eq_21, evS.eq_22, evS.eq_23, evSs.eq_1, evSs.eq_2, evSs.eq_3, TW.gt, TW.st, TW.sts, TW.start, List.map_cons, List.map_nil, List.length_cons, List.length_nil, List.length_map, List.replicate_succ, List.replicate_zero, Nat.reduceAdd, Nat.reduceSub, List.cons_append, List.nil_append, Tg.put, Tg.names, srcRes, srcOf, Sk.out, Sk.pure, wipeE, Op1.run, Op2.run, slc3, okI, okB, okA, okT, isSc_i, isSc_b, isSc_s, isSc_n, isNon_i, isNon_b, isNon_l, isNon_n, eqS_ii, eqS_bb, inF_ints, ints_map, ints_mapf, bit, IDef.mut, kAt, ownK, if_true, if_false, ↓reduceIte, Bool.false_eq_true, decide_true, decide_false, Bool.not_true, Bool.not_false, true_and, and_true, and_self, Option.isSome_some, Option.isSome_none, eq_self] at ho
  exact ⟨_, ho.symm⟩
/-! ### the law's own -/
theorem glue_snoc (S : List Nat) (p : List Nat) : ∀ ps : List (List Nat), ps ≠ [] → glueT S (ps ++ [p]) = glueT S ps ++ S ++ p
  | [], h => absurd rfl h
  | [q], _ => by simp [glueT]
  | q :: t :: r, _ => by
    show q ++ (S ++ glueT S ((t :: r) ++ [p])) = (q ++ (S ++ glueT S (t :: r))) ++ S ++ p
    rw [glue_snoc S p (t :: r) (by simp)]
    simp
theorem glue_step (S : List Nat) (p : List Nat) (ps : List (List Nat)) : glueT S (ps ++ [p]) = (glueT S ps ++ if 0 < ps.length then S else []) ++ p := by
  cases ps with
  | nil => simp [glueT]
  | cons q r => rw [glue_snoc S p _ (by simp)]; simp
theorem run_law_shown83 {m : Nat} (hm : 1 ≤ m) {rows : List (List Int)} (h : Rk rows) : (sems defs m 225).run [.lst (rows.map li)] = .ok (.str (mkS (showRows rows)), []) := by
  obtain ⟨m, rfl, hm1⟩ := suc_of hm
  suffices H : ∃ ρ, evSs (sems defs m) d__law_shown_225.body (start d__law_shown_225.ns [.lst (rows.map li)]) = .rt (.str (mkS (showRows rows))) ρ by
    obtain ⟨ρ, e⟩ := H
    exact run_rt (d := d__law_shown_225) rfl rfl rfl e
  obtain ⟨o1, ho⟩ : ∃ o1, evSs (sems defs m) d__law_shown_225.body (start d__law_shown_225.ns [.lst (rows.map li)]) = o1 := ⟨_, rfl⟩
  rw [ho]
  have h4 := h.1
  by_cases h0 : rows = []
  · subst h0
    have e : decide (((0 : Nat) : Int) = 0) = true := by decide
    simp only [d__law_shown_225, evE.eq_1, evE.eq_2, evE.eq_3, evE.eq_4, evE.eq_5, evE.eq_6, evE.eq_7, evE.eq_8, evE.eq_9, evE.eq_10, evE.eq_11, evE.eq_12, evE.eq_13, evE.eq_14, evE.eq_15, evE.eq_16, evE.eq_17, evE.eq_18, evE.eq_19, evE.eq_20, evE.eq_21, evE.eq_22, evE.eq_23, evE.eq_24, evE.eq_25, evE.eq_26, evE.eq_27, evE.eq_28, evE.eq_29, evE.eq_30, evEs.eq_1, evEs.eq_2, evS.eq_1, evS.eq_2, evS.eq_3, evS.eq_4, evS.eq_5, evS.eq_6, evS.eq_7, evS.eq_8, evS.eq_9, evS.eq_10, evS.eq_11, evS.eq_12, evS.eq_13, evS.eq_14, evS.eq_15, evS.eq_16, evS.eq_17, evS.eq_18, evS.eq_19, evS.eq_20, evS.eq_21, evS.eq_22, evS.eq_23, evSs.eq_1, evSs.eq_2, evSs.eq_3, TW.gt, TW.st, TW.sts, TW.start, List.map_cons, List.map_nil, List.length_cons, List.length_nil, List.length_map, List.replicate_succ, List.replicate_zero, Nat.reduceAdd, Nat.reduceSub, List.cons_append, List.nil_append, Tg.put, Tg.names, srcRes, srcOf, Sk.out, Sk.pure, wipeE, Op1.run, Op2.run, slc3, okI, okB, okA, okT, isSc_i, isSc_b, isSc_s, isSc_n, isNon_i, isNon_b, isNon_l, isNon_n, eqS_ii, eqS_bb, inF_ints, ints_map, ints_mapf, bit, IDef.mut, kAt, ownK, if_true, if_false, ↓reduceIte, Bool.false_eq_true, decide_true, decide_false, Bool.not_true, Bool.not_false, true_and, and_true, and_self, Option.isSome_some, Option.isSome_none, eq_self, eqS_ii, e, cMinus] at ho
    exact ⟨_, ho.symm⟩
  have e : decide ((rows.length : Int) = 0) = false := decide_eq_false (by
    have : rows.length ≠ 0 := fun z => h0 (List.length_eq_zero_iff.mp z)
    omega)
  have b1 : ((rows.length : Int) ≤ (lim : Nat) ∧ -big ≤ (rows.length : Int)) := by unfold lim big; omega
  have rg := rng0i rows.length
  simp only [d__law_shown_225, evE.eq_1, evE.eq_2, evE.eq_3, evE.eq_4, evE.eq_5, evE.eq_6, evE.eq_7, evE.eq_8, evE.eq_9, evE.eq_10, evE.eq_11, evE.eq_12, evE.eq_13, evE.eq_14, evE.eq_15, evE.eq_16, evE.eq_17, evE.eq_18, evE.eq_19, evE.eq_20, evE.eq_21, evE.eq_22, evE.eq_23, evE.eq_24, evE.eq_25, evE.eq_26, evE.eq_27, evE.eq_28, evE.eq_29, evE.eq_30, evEs.eq_1, evEs.eq_2, evS.eq_1, evS.eq_2, evS.eq_3, evS.eq_4, evS.eq_5, evS.eq_6, evS.eq_7, evS.eq_8, evS.eq_9, evS.eq_10, evS.eq_11, evS.eq_12, evS.eq_13, evS.eq_14, evS.eq_15, evS.eq_16, evS.eq_17, evS.eq_18, evS.eq_19, evS.eq_20, evS.eq_21, evS.eq_22, evS.eq_23, evSs.eq_1, evSs.eq_2, evSs.eq_3, TW.gt, TW.st, TW.sts, TW.start, List.map_cons, List.map_nil, List.length_cons, List.length_nil, List.length_map, List.replicate_succ, List.replicate_zero, Nat.reduceAdd, Nat.reduceSub, List.cons_append, List.nil_append, Tg.put, Tg.names, srcRes, srcOf, Sk.out, Sk.pure, wipeE, Op1.run, Op2.run, slc3, okI, okB, okA, okT, isSc_i, isSc_b, isSc_s, isSc_n, isNon_i, isNon_b, isNon_l, isNon_n, eqS_ii, eqS_bb, inF_ints, ints_map, ints_mapf, bit, IDef.mut, kAt, ownK, if_true, if_false, ↓reduceIte, Bool.false_eq_true, decide_true, decide_false, Bool.not_true, Bool.not_false, true_and, and_true, and_self, Option.isSome_some, Option.isSome_none, eq_self, eqS_ii, e, cNo, b1, rg] at ho
  generalize hF : forGo _ _ _ _ = o at ho
  obtain ⟨ρ, rfl, x2, x3, rfl⟩ := for_inv hF (fun k : Nat => D.int k) (List.range rows.length) (fun pre ρ => ∃ x2 x3, ρ = [some (.lst (rows.map li)), some (.str (mkS (glueT [32, 47, 32] ((rows.take pre.length).map showRow)))), x2, x3]) (by simp) ⟨none, none, by simp [glueT]⟩ (by
    rintro pre k r ρ e ⟨x2, x3, rfl⟩
    refine ⟨_, rfl, ?_⟩
    obtain ⟨rfl, hk⟩ := range_split e
    have tk : rows.take (pre.length + 1) = rows.take pre.length ++ [rows.getD pre.length []] := by
      rw [List.take_add_one, List.getElem?_eq_getElem hk, getD_at hk]; rfl
    obtain ⟨row, hrow⟩ : ∃ row, rows.getD pre.length [] = row := ⟨_, rfl⟩
    have mem : row ∈ rows := by rw [← hrow, getD_at hk]; exact List.getElem_mem hk
    have nk : nth (rows.map li) (pre.length : Int) = some (li row) := by
      rw [nth_nat, List.getElem?_map, List.getElem?_eq_getElem hk, ← hrow, getD_at hk]; rfl
    obtain ⟨hr4, hrx⟩ := h.2 row mem
    have gl : (glueT [32, 47, 32] ((rows.take pre.length).map showRow)).length ≤ 1004 := by
      have := glue_len (S := [32, 47, 32]) (k := 248) (ps := (rows.take pre.length).map showRow) (fun p hp => by
        obtain ⟨r, hr, rfl⟩ := List.mem_map.mp hp
        have hr := List.mem_of_mem_take hr
        exact showRow_len (h.2 r hr).1 (h.2 r hr).2)
      simp only [List.length_map, List.length_cons, List.length_nil, List.length_take] at this
      omega
    have step := glue_step [32, 47, 32] (showRow row) ((rows.take pre.length).map showRow)
    rw [List.length_map, List.length_take, Nat.min_eq_left (Nat.le_of_lt hk)] at step
    rw [List.length_append, List.length_singleton, tk, hrow, List.map_append, List.map_cons, List.map_nil, step]
    generalize glueT [32, 47, 32] ((rows.take pre.length).map showRow) = G at gl step ⊢
    obtain ⟨G', hG, gl'⟩ : ∃ G' : List Nat, G' = (G ++ if 0 < pre.length then [32, 47, 32] else []) ∧ G'.length ≤ 1007 := ⟨_, rfl, by
      rw [List.length_append]; split <;> simp <;> omega⟩
    rw [← hG]
    have e1 : evS (sems defs m) (nthS 0 (forB (nthS 2 d__law_shown_225.body))) [some (.lst (rows.map li)), some (.str (mkS G)), some (.int pre.length), x3] = .nx [some (.lst (rows.map li)), some (.str (mkS G')), some (.int pre.length), x3] := by
      subst hG
      by_cases z : 0 < pre.length
      · have d1 : decide ((0 : Int) < (pre.length : Int)) = true := decide_eq_true (by omega)
        have b2 : G.length + 3 ≤ lim := by unfold lim; omega
        simp only [d__law_shown_225, forB, nthS, evE.eq_1, evE.eq_2, evE.eq_3, evE.eq_4, evE.eq_5, evE.eq_6, evE.eq_7, evE.eq_8, evE.eq_9, evE.eq_10, evE.eq_11, evE.eq_12, evE.eq_13, evE.eq_14, evE.eq_15, evE.eq_16, evE.eq_17, evE.eq_18, evE.eq_19, evE.eq_20, evE.eq_21, evE.eq_22, evE.eq_23, evE.eq_24, evE.eq_25, evE.eq_26, evE.eq_27, evE.eq_28, evE.eq_29, evE.eq_30, evEs.eq_1, evEs.eq_2, evS.eq_1, evS.eq_2, evS.eq_3, evS.eq_4, evS.eq_5, evS.eq_6, evS.eq_7, evS.eq_8, evS.eq_9, evS.eq_10, evS.eq_11, evS.eq_12, evS.eq_13, evS.eq_14, evS.eq_15, evS.eq_16, evS.eq_17, evS.eq_18, evS.eq_19, evS.eq_20, evS.eq_21, evS.eq_22, evS.eq_23, evSs.eq_1, evSs.eq_2, evSs.eq_3, TW.gt, TW.st, TW.sts, TW.start, List.map_cons, List.map_nil, List.length_cons, List.length_nil, List.length_map, List.replicate_succ, List.replicate_zero, Nat.reduceAdd, Nat.reduceSub, List.cons_append, List.nil_append, Tg.put, Tg.names, srcRes, srcOf, Sk.out, Sk.pure, wipeE, Op1.run, Op2.run, slc3, okI, okB, okA, okT, isSc_i, isSc_b, isSc_s, isSc_n, isNon_i, isNon_b, isNon_l, isNon_n, eqS_ii, eqS_bb, inF_ints, ints_map, ints_mapf, bit, IDef.mut, kAt, ownK, if_true, if_false, ↓reduceIte, Bool.false_eq_true, decide_true, decide_false, Bool.not_true, Bool.not_false, true_and, and_true, and_self, Option.isSome_some, Option.isSome_none, eq_self, d1, cSl, len_mk, b2, app_mk, if_pos z]
      · have d1 : decide ((0 : Int) < (pre.length : Int)) = false := decide_eq_false (by omega)
        simp only [d__law_shown_225, forB, nthS, evE.eq_1, evE.eq_2, evE.eq_3, evE.eq_4, evE.eq_5, evE.eq_6, evE.eq_7, evE.eq_8, evE.eq_9, evE.eq_10, evE.eq_11, evE.eq_12, evE.eq_13, evE.eq_14, evE.eq_15, evE.eq_16, evE.eq_17, evE.eq_18, evE.eq_19, evE.eq_20, evE.eq_21, evE.eq_22, evE.eq_23, evE.eq_24, evE.eq_25, evE.eq_26, evE.eq_27, evE.eq_28, evE.eq_29, evE.eq_30, evEs.eq_1, evEs.eq_2, evS.eq_1, evS.eq_2, evS.eq_3, evS.eq_4, evS.eq_5, evS.eq_6, evS.eq_7, evS.eq_8, evS.eq_9, evS.eq_10, evS.eq_11, evS.eq_12, evS.eq_13, evS.eq_14, evS.eq_15, evS.eq_16, evS.eq_17, evS.eq_18, evS.eq_19, evS.eq_20, evS.eq_21, evS.eq_22, evS.eq_23, evSs.eq_1, evSs.eq_2, evSs.eq_3, TW.gt, TW.st, TW.sts, TW.start, List.map_cons, List.map_nil, List.length_cons, List.length_nil, List.length_map, List.replicate_succ, List.replicate_zero, Nat.reduceAdd, Nat.reduceSub, List.cons_append, List.nil_append, Tg.put, Tg.names, srcRes, srcOf, Sk.out, Sk.pure, wipeE, Op1.run, Op2.run, slc3, okI, okB, okA, okT, isSc_i, isSc_b, isSc_s, isSc_n, isNon_i, isNon_b, isNon_l, isNon_n, eqS_ii, eqS_bb, inF_ints, ints_map, ints_mapf, bit, IDef.mut, kAt, ownK, if_true, if_false, ↓reduceIte, Bool.false_eq_true, decide_true, decide_false, Bool.not_true, Bool.not_false, true_and, and_true, and_self, Option.isSome_some, Option.isSome_none, eq_self, d1, if_neg z, List.append_nil]
    have e2 : ∃ x3', evSs (sems defs m) (dropS 1 (forB (nthS 2 d__law_shown_225.body))) [some (.lst (rows.map li)), some (.str (mkS G')), some (.int pre.length), x3] = .nx [some (.lst (rows.map li)), some (.str (mkS (G' ++ showRow row))), some (.int pre.length), x3'] := by
      clear hF ho
      obtain ⟨o1, ho⟩ : ∃ o1, evSs (sems defs m) (dropS 1 (forB (nthS 2 d__law_shown_225.body))) [some (.lst (rows.map li)), some (.str (mkS G')), some (.int pre.length), x3] = o1 := ⟨_, rfl⟩
      rw [ho]
      by_cases h0 : row = []
      · have e : decide (((0 : Nat) : Int) = 0) = true := by decide
        have b2 : G'.length + 1 ≤ lim := by unfold lim; omega
        have z1 : ((0 : Int) ≤ (lim : Nat) ∧ -big ≤ (0 : Int)) := by unfold lim big; omega
        have rg0 : rng 0 0 1 = [] := rfl
        rw [h0] at nk ⊢
        simp only [d__law_shown_225, forB, nthS, dropS, evE.eq_1, evE.eq_2, evE.eq_3, evE.eq_4, evE.eq_5, evE.eq_6, evE.eq_7, evE.eq_8, evE.eq_9, evE.eq_10, evE.eq_11, evE.eq_12, evE.eq_13, evE.eq_14, evE.eq_15, evE.eq_16, evE.eq_17, evE.eq_18, evE.eq_19, evE.eq_20, evE.eq_21, evE.eq_22, evE.eq_23, evE.eq_24, evE.eq_25, evE.eq_26, evE.eq_27, evE.eq_28, evE.eq_29, evE.eq_30, evEs.eq_1, evEs.eq_2, evS.eq_1, evS.eq_2, evS.eq_3, evS.eq_4, evS.eq_5, evS.eq_6, evS.eq_7, evS.eq_8, evS.eq_9, evS.eq_10, evS.eq_11, evS.eq_12, evS.eq_13, evS.eq_14, evS.eq_15, evS.eq_16, evS.eq_17, evS.eq_18, evS.eq_19, evS.eq_20, evS.eq_21, evS.eq_22, evS.eq_23, evSs.eq_1, evSs.eq_2, evSs.eq_3, TW.gt, TW.st, TW.sts, TW.start, List.map_cons, List.map_nil, List.length_cons, List.length_nil, List.length_map, List.replicate_succ, List.replicate_zero, Nat.reduceAdd, Nat.reduceSub, List.cons_append, List.nil_append, Tg.put, Tg.names, srcRes, srcOf, Sk.out, Sk.pure, wipeE, Op1.run, Op2.run, slc3, okI, okB, okA, okT, isSc_i, isSc_b, isSc_s, isSc_n, isNon_i, isNon_b, isNon_l, isNon_n, eqS_ii, eqS_bb, inF_ints, ints_map, ints_mapf, bit, IDef.mut, kAt, ownK, if_true, if_false, ↓reduceIte, Bool.false_eq_true, decide_true, decide_false, Bool.not_true, Bool.not_false, true_and, and_true, and_self, Option.isSome_some, Option.isSome_none, eq_self, li, nk, eqS_ii, e, cDot, len_mk, b2, app_mk, Int.natCast_zero, z1, rg0, forGo] at ho
        exact ⟨_, ho.symm⟩
      have e : decide ((row.length : Int) = 0) = false := decide_eq_false (by
        have : row.length ≠ 0 := fun z => h0 (List.length_eq_zero_iff.mp z)
        omega)
      have b1 : ((row.length : Int) ≤ (lim : Nat) ∧ -big ≤ (row.length : Int)) := by unfold lim big; omega
      have rg := rng0i row.length
      simp only [d__law_shown_225, forB, nthS, dropS, evE.eq_1, evE.eq_2, evE.eq_3, evE.eq_4, evE.eq_5, evE.eq_6, evE.eq_7, evE.eq_8, evE.eq_9, evE.eq_10, evE.eq_11, evE.eq_12, evE.eq_13, evE.eq_14, evE.eq_15, evE.eq_16, evE.eq_17, evE.eq_18, evE.eq_19, evE.eq_20, evE.eq_21, evE.eq_22, evE.eq_23, evE.eq_24, evE.eq_25, evE.eq_26, evE.eq_27, evE.eq_28, evE.eq_29, evE.eq_30, evEs.eq_1, evEs.eq_2, evS.eq_1, evS.eq_2, evS.eq_3, evS.eq_4, evS.eq_5, evS.eq_6, evS.eq_7, evS.eq_8, evS.eq_9, evS.eq_10, evS.eq_11, evS.eq_12, evS.eq_13, evS.eq_14, evS.eq_15, evS.eq_16, evS.eq_17, evS.eq_18, evS.eq_19, evS.eq_20, evS.eq_21, evS.eq_22, evS.eq_23, evSs.eq_1, evSs.eq_2, evSs.eq_3, TW.gt, TW.st, TW.sts, TW.start, List.map_cons, List.map_nil, List.length_cons, List.length_nil, List.length_map, List.replicate_succ, List.replicate_zero, Nat.reduceAdd, Nat.reduceSub, List.cons_append, List.nil_append, Tg.put, Tg.names, srcRes, srcOf, Sk.out, Sk.pure, wipeE, Op1.run, Op2.run, slc3, okI, okB, okA, okT, isSc_i, isSc_b, isSc_s, isSc_n, isNon_i, isNon_b, isNon_l, isNon_n, eqS_ii, eqS_bb, inF_ints, ints_map, ints_mapf, bit, IDef.mut, kAt, ownK, if_true, if_false, ↓reduceIte, Bool.false_eq_true, decide_true, decide_false, Bool.not_true, Bool.not_false, true_and, and_true, and_self, Option.isSome_some, Option.isSome_none, eq_self, li, nk, eqS_ii, e, b1, rg] at ho
      generalize hF : forGo _ _ _ _ = o at ho
      obtain ⟨ρ, rfl, x3, rfl⟩ := for_inv hF (fun k : Nat => D.int k) (List.range row.length) (fun pr ρ => ∃ x3, ρ = [some (.lst (rows.map li)), some (.str (mkS (G' ++ glueT [32] ((row.take pr.length).map decT)))), some (.int pre.length), x3]) (by simp) ⟨x3, by simp [glueT]⟩ (by
        rintro pr j r2 ρ e' ⟨x3, rfl⟩
        refine ⟨_, rfl, ?_⟩
        obtain ⟨rfl, hj⟩ := range_split e'
        have tj : row.take (pr.length + 1) = row.take pr.length ++ [row.getD pr.length 0] := by
          rw [List.take_add_one, List.getElem?_eq_getElem hj, getD_at hj]; rfl
        have nj : nth (row.map D.int) (pr.length : Int) = some (.int (row.getD pr.length 0)) := nth_li hj
        have mx := hrx _ (getD_mem (xs := row) hj)
        have gl : (glueT [32] ((row.take pr.length).map decT)).length ≤ 248 := by
          have := glue_len (S := [32]) (k := 61) (ps := (row.take pr.length).map decT) (fun p hp => by
            obtain ⟨n, hn, rfl⟩ := List.mem_map.mp hp
            exact decT_len (hrx n (List.mem_of_mem_take hn)))
          simp only [List.length_map, List.length_cons, List.length_nil, List.length_take] at this
          omega
        have step := glue_step [32] (decT (row.getD pr.length 0)) ((row.take pr.length).map decT)
        rw [List.length_map, List.length_take, Nat.min_eq_left (Nat.le_of_lt hj)] at step
        rw [List.length_append, List.length_singleton, tj, List.map_append, List.map_cons, List.map_nil, step]
        generalize glueT [32] ((row.take pr.length).map decT) = G2 at gl step ⊢
        generalize row.getD pr.length 0 = x at nj mx step ⊢
        have ld := decT_len mx
        have t1 := t1_str mx
        by_cases z : 0 < pr.length
        · have d1 : decide ((0 : Int) < (pr.length : Int)) = true := decide_eq_true (by omega)
          have b2 : G'.length + G2.length + 1 ≤ lim := by unfold lim; omega
          have b3 : G'.length + G2.length + 1 + (decT x).length ≤ lim := by unfold lim; omega
          refine ⟨_, by simp only [evE.eq_1, evE.eq_2, evE.eq_3, evE.eq_4, evE.eq_5, evE.eq_6, evE.eq_7, evE.eq_8, evE.eq_9, evE.eq_10, evE.eq_11, evE.eq_12, evE.eq_13, evE.eq_14, evE.eq_15, evE.eq_16, evE.eq_17, evE.eq_18, evE.eq_19, evE.eq_20, evE.eq_21, evE.eq_22, evE.eq_23, evE.eq_24, evE.eq_25, evE.eq_26, evE.eq_27, evE.eq_28, evE.eq_29, evE.eq_30, evEs.eq_1, evEs.eq_2, evS.eq_1, evS.eq_2, evS.eq_3, evS.eq_4, evS.eq_5, evS.eq_6, evS.eq_7, evS.eq_8, evS.eq_9, evS.eq_10, evS.eq_11, evS.eq_12, evS.eq_13, evS.eq_14, evS.eq_15, evS.eq_16, evS.eq_17, evS.eq_18, evS.eq_19, evS.eq_20, evS.eq_21, evS.eq_22, evS.eq_23, evSs.eq_1, evSs.eq_2, evSs.eq_3, TW.gt, TW.st, TW.sts, TW.start, List.map_cons, List.map_nil, List.length_cons, List.length_nil, List.length_map, List.replicate_succ, List.replicate_zero, Nat.reduceAdd, Nat.reduceSub, List.cons_append, List.nil_append, Tg.put, Tg.names, srcRes, srcOf, Sk.out, Sk.pure, wipeE, Op1.run, Op2.run, slc3, okI, okB, okA, okT, isSc_i, isSc_b, isSc_s, isSc_n, isNon_i, isNon_b, isNon_l, isNon_n, eqS_ii, eqS_bb, inF_ints, ints_map, ints_mapf, bit, IDef.mut, kAt, ownK, if_true, if_false, ↓reduceIte, Bool.false_eq_true, decide_true, decide_false, Bool.not_true, Bool.not_false, true_and, and_true, and_self, Option.isSome_some, Option.isSome_none, eq_self, d1, cSp, len_mk, List.length_append, b2, b3, app_mk, if_pos z, nk, li, nj, t1] <;> rfl, _, by simp only [if_pos z, List.append_assoc] <;> rfl⟩
        · have d1 : decide ((0 : Int) < (pr.length : Int)) = false := decide_eq_false (by omega)
          have b3 : G'.length + G2.length + (decT x).length ≤ lim := by unfold lim; omega
          refine ⟨_, by simp only [evE.eq_1, evE.eq_2, evE.eq_3, evE.eq_4, evE.eq_5, evE.eq_6, evE.eq_7, evE.eq_8, evE.eq_9, evE.eq_10, evE.eq_11, evE.eq_12, evE.eq_13, evE.eq_14, evE.eq_15, evE.eq_16, evE.eq_17, evE.eq_18, evE.eq_19, evE.eq_20, evE.eq_21, evE.eq_22, evE.eq_23, evE.eq_24, evE.eq_25, evE.eq_26, evE.eq_27, evE.eq_28, evE.eq_29, evE.eq_30, evEs.eq_1, evEs.eq_2, evS.eq_1, evS.eq_2, evS.eq_3, evS.eq_4, evS.eq_5, evS.eq_6, evS.eq_7, evS.eq_8, evS.eq_9, evS.eq_10, evS.eq_11, evS.eq_12, evS.eq_13, evS.eq_14, evS.eq_15, evS.eq_16, evS.eq_17, evS.eq_18, evS.eq_19, evS.eq_20, evS.eq_21, evS.eq_22, evS.eq_23, evSs.eq_1, evSs.eq_2, evSs.eq_3, TW.gt, TW.st, TW.sts, TW.start, List.map_cons, List.map_nil, List.length_cons, List.length_nil, List.length_map, List.replicate_succ, List.replicate_zero, Nat.reduceAdd, Nat.reduceSub, List.cons_append, List.nil_append, Tg.put, Tg.names, srcRes, srcOf, Sk.out, Sk.pure, wipeE, Op1.run, Op2.run, slc3, okI, okB, okA, okT, isSc_i, isSc_b, isSc_s, isSc_n, isNon_i, isNon_b, isNon_l, isNon_n, eqS_ii, eqS_bb, inF_ints, ints_map, ints_mapf, bit, IDef.mut, kAt, ownK, if_true, if_false, ↓reduceIte, Bool.false_eq_true, decide_true, decide_false, Bool.not_true, Bool.not_false, true_and, and_true, and_self, Option.isSome_some, Option.isSome_none, eq_self, d1, cSp, len_mk, List.length_append, b3, app_mk, if_neg z, nk, li, nj, t1] <;> rfl, _, by simp only [if_neg z, List.append_nil, List.append_assoc] <;> rfl⟩)
      rw [List.length_range, List.take_length] at ho
      refine ⟨x3, ?_⟩
      unfold showRow
      rw [if_neg h0]
      simp only [evE.eq_1, evE.eq_2, evE.eq_3, evE.eq_4, evE.eq_5, evE.eq_6, evE.eq_7, evE.eq_8, evE.eq_9, evE.eq_10, evE.eq_11, evE.eq_12, evE.eq_13, evE.eq_14, evE.eq_15, evE.eq_16, evE.eq_17, evE.eq_18, evE.eq_19, evE.eq_20, evE.eq_21, evE.eq_22, evE.eq_23, evE.eq_24, evE.eq_25, evE.eq_26, evE.eq_27, evE.eq_28, evE.eq_29, evE.eq_30, evEs.eq_1, evEs.eq_2, evS.eq_1, evS.eq_2, evS.eq_3, evS.eq_4, evS.eq_5, evS.eq_6, evS.eq_7, evS.eq_8, evS.eq_9, evS.eq_10, evS.eq_11, evS.eq_12, evS.eq_13, evS.eq_14, evS.eq_15, evS.eq_16, evS.eq_17, evS.eq_18, evS.eq_19, evS.eq_20, evS.eq_21, evS.eq_22, evS.eq_23, evSs.eq_1, evSs.eq_2, evSs.eq_3, TW.gt, TW.st, TW.sts, TW.start, List.map_cons, List.map_nil, List.length_cons, List.length_nil, List.length_map, List.replicate_succ, List.replicate_zero, Nat.reduceAdd, Nat.reduceSub, List.cons_append, List.nil_append, Tg.put, Tg.names, srcRes, srcOf, Sk.out, Sk.pure, wipeE, Op1.run, Op2.run, slc3, okI, okB, okA, okT, isSc_i, isSc_b, isSc_s, isSc_n, isNon_i, isNon_b, isNon_l, isNon_n, eqS_ii, eqS_bb, inF_ints, ints_map, ints_mapf, bit, IDef.mut, kAt, ownK, if_true, if_false, ↓reduceIte, Bool.false_eq_true, decide_true, decide_false, Bool.not_true, Bool.not_false, true_and, and_true, and_self, Option.isSome_some, Option.isSome_none, eq_self] at ho
      exact ho.symm
    obtain ⟨x3', e2⟩ := e2
    exact ⟨_, (step_at 0 rfl e1).trans e2, _, _, rfl⟩)
  rw [List.length_range, List.take_length] at ho
  unfold showRows
  rw [if_neg h0]
  simp only [evE.eq_1, evE.eq_2, evE.eq_3, evE.eq_4, evE.eq_5, evE.eq_6, evE.eq_7, evE.eq_8, evE.eq_9, evE.eq_10, evE.eq_11, evE.eq_12, evE.eq_13, evE.eq_14, evE.eq_15, evE.eq_16, evE.eq_17, evE.eq_18, evE.eq_19, evE.eq_20, evE.eq_21, evE.eq_22, evE.eq_23, evE.eq_24, evE.eq_25, evE.eq_26, evE.eq_27, evE.eq_28, evE.eq_29, evE.eq_30, evEs.eq_1, evEs.eq_2, evS.eq_1, evS.eq_2, evS.eq_3, evS.eq_4, evS.eq_5, evS.eq_6, evS.eq_7, evS.eq_8, evS.eq_9, evS.eq_10, evS.eq_11, evS.eq_12, evS.eq_13, evS.eq_14, evS.eq_15, evS.eq_16, evS.eq_17, evS.eq_18, evS.eq_19, evS.eq_20, evS.eq_21, evS.eq_22, evS.eq_23, evSs.eq_1, evSs.eq_2, evSs.eq_3, TW.gt, TW.st, TW.sts, TW.start, List.map_cons, List.map_nil, List.length_cons, List.length_nil, List.length_map, List.replicate_succ, List.replicate_zero, Nat.reduceAdd, Nat.reduceSub, List.cons_append, List.nil_append, Tg.put, Tg.names, srcRes, srcOf, Sk.out, Sk.pure, wipeE, Op1.run, Op2.run, slc3, okI, okB, okA, okT, isSc_i, isSc_b, isSc_s, isSc_n, isNon_i, isNon_b, isNon_l, isNon_n, eqS_ii, eqS_bb, inF_ints, ints_map, ints_mapf, bit, IDef.mut, kAt, ownK, if_true, if_false, ↓reduceIte, Bool.false_eq_true, decide_true, decide_false, Bool.not_true, Bool.not_false, true_and, and_true, and_self, Option.isSome_some, Option.isSome_none, eq_self] at ho
  exact ⟨_, ho.symm⟩
theorem run_like83 {m : Nat} (hm : 2 ≤ m) {rows : List (List Int)} (h : Rk rows) : (sems defs m 226).run [.lst (rows.map li), .lst (rows.map li)] = .ok (.bl true, []) := by
  obtain ⟨m, rfl, hm1⟩ := suc_of hm
  suffices H : ∃ ρ, evSs (sems defs m) d__law_like_226.body (start d__law_like_226.ns [.lst (rows.map li), .lst (rows.map li)]) = .rt (.bl true) ρ by
    obtain ⟨ρ, e⟩ := H
    exact run_rt (d := d__law_like_226) rfl rfl rfl e
  obtain ⟨o1, ho⟩ : ∃ o1, evSs (sems defs m) d__law_like_226.body (start d__law_like_226.ns [.lst (rows.map li), .lst (rows.map li)]) = o1 := ⟨_, rfl⟩
  rw [ho]
  simp only [d__law_like_226, evE.eq_1, evE.eq_2, evE.eq_3, evE.eq_4, evE.eq_5, evE.eq_6, evE.eq_7, evE.eq_8, evE.eq_9, evE.eq_10, evE.eq_11, evE.eq_12, evE.eq_13, evE.eq_14, evE.eq_15, evE.eq_16, evE.eq_17, evE.eq_18, evE.eq_19, evE.eq_20, evE.eq_21, evE.eq_22, evE.eq_23, evE.eq_24, evE.eq_25, evE.eq_26, evE.eq_27, evE.eq_28, evE.eq_29, evE.eq_30, T1.run, T2.run, evEs.eq_1, evEs.eq_2, evS.eq_1, evS.eq_2, evS.eq_3, evS.eq_4, evS.eq_5, evS.eq_6, evS.eq_7, evS.eq_8, evS.eq_9, evS.eq_10, evS.eq_11, evS.eq_12, evS.eq_13, evS.eq_14, evS.eq_15, evS.eq_16, evS.eq_17, evS.eq_18, evS.eq_19, evS.eq_20, evS.eq_21, evS.eq_22, evS.eq_23, evSs.eq_1, evSs.eq_2, evSs.eq_3, TW.gt, TW.st, TW.sts, TW.start, List.map_cons, List.map_nil, List.length_cons, List.length_nil, List.length_map, List.replicate_succ, List.replicate_zero, Nat.reduceAdd, Nat.reduceSub, List.cons_append, List.nil_append, Tg.put, Tg.names, srcRes, srcOf, Sk.out, Sk.pure, wipeE, Op1.run, Op2.run, slc3, okI, okB, okA, okT, isSc_i, isSc_b, isSc_s, isSc_n, isNon_i, isNon_b, isNon_l, isNon_n, eqS_ii, eqS_bb, inF_ints, ints_map, ints_mapf, bit, IDef.mut, kAt, ownK, if_true, if_false, ↓reduceIte, Bool.false_eq_true, decide_true, decide_false, Bool.not_true, Bool.not_false, true_and, and_true, and_self, Option.isSome_some, Option.isSome_none, eq_self, okT, eqS_ii] at ho
  generalize hF : forGo _ _ _ _ = o at ho
  obtain ⟨ρ, rfl, x2, x3, rfl⟩ := for_inv hF li rows (fun pre ρ => ∃ x2 x3, ρ = [some (.lst (rows.map li)), some (.lst (rows.map li)), x2, x3]) rfl ⟨none, none, rfl⟩ (by
    rintro pre row r ρ e ⟨x2, x3, rfl⟩
    refine ⟨_, rfl, ?_⟩
    clear hF ho
    obtain ⟨o1, h1⟩ : ∃ o1, evSs (sems defs m) (forB (nthS 1 d__law_like_226.body)) [some (.lst (rows.map li)), some (.lst (rows.map li)), some (li row), x3] = o1 := ⟨_, rfl⟩
    have ho := h1
    simp only [d__law_like_226, forB, nthS, evE.eq_1, evE.eq_2, evE.eq_3, evE.eq_4, evE.eq_5, evE.eq_6, evE.eq_7, evE.eq_8, evE.eq_9, evE.eq_10, evE.eq_11, evE.eq_12, evE.eq_13, evE.eq_14, evE.eq_15, evE.eq_16, evE.eq_17, evE.eq_18, evE.eq_19, evE.eq_20, evE.eq_21, evE.eq_22, evE.eq_23, evE.eq_24, evE.eq_25, evE.eq_26, evE.eq_27, evE.eq_28, evE.eq_29, evE.eq_30, T1.run, T2.run, evEs.eq_1, evEs.eq_2, evS.eq_1, evS.eq_2, evS.eq_3, evS.eq_4, evS.eq_5, evS.eq_6, evS.eq_7, evS.eq_8, evS.eq_9, evS.eq_10, evS.eq_11, evS.eq_12, evS.eq_13, evS.eq_14, evS.eq_15, evS.eq_16, evS.eq_17, evS.eq_18, evS.eq_19, evS.eq_20, evS.eq_21, evS.eq_22, evS.eq_23, evSs.eq_1, evSs.eq_2, evSs.eq_3, TW.gt, TW.st, TW.sts, TW.start, List.map_cons, List.map_nil, List.length_cons, List.length_nil, List.length_map, List.replicate_succ, List.replicate_zero, Nat.reduceAdd, Nat.reduceSub, List.cons_append, List.nil_append, Tg.put, Tg.names, srcRes, srcOf, Sk.out, Sk.pure, wipeE, Op1.run, Op2.run, slc3, okI, okB, okA, okT, isSc_i, isSc_b, isSc_s, isSc_n, isNon_i, isNon_b, isNon_l, isNon_n, eqS_ii, eqS_bb, inF_ints, ints_map, ints_mapf, bit, IDef.mut, kAt, ownK, if_true, if_false, ↓reduceIte, Bool.false_eq_true, decide_true, decide_false, Bool.not_true, Bool.not_false, true_and, and_true, and_self, Option.isSome_some, Option.isSome_none, eq_self, li, okT] at ho
    generalize hF : forGo _ _ _ _ = o at ho
    obtain ⟨ρ, rfl, x3, rfl⟩ := for_inv hF D.int row (fun pr ρ => ∃ x3, ρ = [some (.lst (rows.map li)), some (.lst (rows.map li)), some (.lst (row.map .int)), x3]) rfl ⟨_, rfl⟩ (by
      rintro pr x r2 ρ e ⟨x3, rfl⟩
      have w := run_whole (m := m) (by omega) x
      exact ⟨_, rfl, _, by simp only [evE.eq_1, evE.eq_2, evE.eq_3, evE.eq_4, evE.eq_5, evE.eq_6, evE.eq_7, evE.eq_8, evE.eq_9, evE.eq_10, evE.eq_11, evE.eq_12, evE.eq_13, evE.eq_14, evE.eq_15, evE.eq_16, evE.eq_17, evE.eq_18, evE.eq_19, evE.eq_20, evE.eq_21, evE.eq_22, evE.eq_23, evE.eq_24, evE.eq_25, evE.eq_26, evE.eq_27, evE.eq_28, evE.eq_29, evE.eq_30, T1.run, T2.run, evEs.eq_1, evEs.eq_2, evS.eq_1, evS.eq_2, evS.eq_3, evS.eq_4, evS.eq_5, evS.eq_6, evS.eq_7, evS.eq_8, evS.eq_9, evS.eq_10, evS.eq_11, evS.eq_12, evS.eq_13, evS.eq_14, evS.eq_15, evS.eq_16, evS.eq_17, evS.eq_18, evS.eq_19, evS.eq_20, evS.eq_21, evS.eq_22, evS.eq_23, evSs.eq_1, evSs.eq_2, evSs.eq_3, TW.gt, TW.st, TW.sts, TW.start, List.map_cons, List.map_nil, List.length_cons, List.length_nil, List.length_map, List.replicate_succ, List.replicate_zero, Nat.reduceAdd, Nat.reduceSub, List.cons_append, List.nil_append, Tg.put, Tg.names, srcRes, srcOf, Sk.out, Sk.pure, wipeE, Op1.run, Op2.run, slc3, okI, okB, okA, okT, isSc_i, isSc_b, isSc_s, isSc_n, isNon_i, isNon_b, isNon_l, isNon_n, eqS_ii, eqS_bb, inF_ints, ints_map, ints_mapf, bit, IDef.mut, kAt, ownK, if_true, if_false, ↓reduceIte, Bool.false_eq_true, decide_true, decide_false, Bool.not_true, Bool.not_false, true_and, and_true, and_self, Option.isSome_some, Option.isSome_none, eq_self, w] <;> rfl, _, rfl⟩)
    simp only [evE.eq_1, evE.eq_2, evE.eq_3, evE.eq_4, evE.eq_5, evE.eq_6, evE.eq_7, evE.eq_8, evE.eq_9, evE.eq_10, evE.eq_11, evE.eq_12, evE.eq_13, evE.eq_14, evE.eq_15, evE.eq_16, evE.eq_17, evE.eq_18, evE.eq_19, evE.eq_20, evE.eq_21, evE.eq_22, evE.eq_23, evE.eq_24, evE.eq_25, evE.eq_26, evE.eq_27, evE.eq_28, evE.eq_29, evE.eq_30, T1.run, T2.run, evEs.eq_1, evEs.eq_2, evS.eq_1, evS.eq_2, evS.eq_3, evS.eq_4, evS.eq_5, evS.eq_6, evS.eq_7, evS.eq_8, evS.eq_9, evS.eq_10, evS.eq_11, evS.eq_12, evS.eq_13, evS.eq_14, evS.eq_15, evS.eq_16, evS.eq_17, evS.eq_18, evS.eq_19, evS.eq_20, evS.eq_21, evS.eq_22, evS.eq_23, evSs.eq_1, evSs.eq_2, evSs.eq_3, TW.gt, TW.st, TW.sts, TW.start, List.map_cons, List.map_nil, List.length_cons, List.length_nil, List.length_map, List.replicate_succ, List.replicate_zero, Nat.reduceAdd, Nat.reduceSub, List.cons_append, List.nil_append, Tg.put, Tg.names, srcRes, srcOf, Sk.out, Sk.pure, wipeE, Op1.run, Op2.run, slc3, okI, okB, okA, okT, isSc_i, isSc_b, isSc_s, isSc_n, isNon_i, isNon_b, isNon_l, isNon_n, eqS_ii, eqS_bb, inF_ints, ints_map, ints_mapf, bit, IDef.mut, kAt, ownK, if_true, if_false, ↓reduceIte, Bool.false_eq_true, decide_true, decide_false, Bool.not_true, Bool.not_false, true_and, and_true, and_self, Option.isSome_some, Option.isSome_none, eq_self] at ho
    exact ⟨_, h1.trans ho.symm, _, _, rfl⟩)
  have b1 : D.beq (.lst (rows.map li)) (.lst (rows.map li)) = true := beqs_llT rows
  have b2 : D.eqable 20 (.lst (rows.map li)) = true := eqables_llT 18 rows
  simp only [evE.eq_1, evE.eq_2, evE.eq_3, evE.eq_4, evE.eq_5, evE.eq_6, evE.eq_7, evE.eq_8, evE.eq_9, evE.eq_10, evE.eq_11, evE.eq_12, evE.eq_13, evE.eq_14, evE.eq_15, evE.eq_16, evE.eq_17, evE.eq_18, evE.eq_19, evE.eq_20, evE.eq_21, evE.eq_22, evE.eq_23, evE.eq_24, evE.eq_25, evE.eq_26, evE.eq_27, evE.eq_28, evE.eq_29, evE.eq_30, T1.run, T2.run, evEs.eq_1, evEs.eq_2, evS.eq_1, evS.eq_2, evS.eq_3, evS.eq_4, evS.eq_5, evS.eq_6, evS.eq_7, evS.eq_8, evS.eq_9, evS.eq_10, evS.eq_11, evS.eq_12, evS.eq_13, evS.eq_14, evS.eq_15, evS.eq_16, evS.eq_17, evS.eq_18, evS.eq_19, evS.eq_20, evS.eq_21, evS.eq_22, evS.eq_23, evSs.eq_1, evSs.eq_2, evSs.eq_3, TW.gt, TW.st, TW.sts, TW.start, List.map_cons, List.map_nil, List.length_cons, List.length_nil, List.length_map, List.replicate_succ, List.replicate_zero, Nat.reduceAdd, Nat.reduceSub, List.cons_append, List.nil_append, Tg.put, Tg.names, srcRes, srcOf, Sk.out, Sk.pure, wipeE, Op1.run, Op2.run, slc3, okI, okB, okA, okT, isSc_i, isSc_b, isSc_s, isSc_n, isNon_i, isNon_b, isNon_l, isNon_n, eqS_ii, eqS_bb, inF_ints, ints_map, ints_mapf, bit, IDef.mut, kAt, ownK, if_true, if_false, ↓reduceIte, Bool.false_eq_true, decide_true, decide_false, Bool.not_true, Bool.not_false, true_and, and_true, and_self, Option.isSome_some, Option.isSome_none, eq_self, b1, b2, Bool.and_self] at ho
  exact ⟨_, ho.symm⟩
/-- the law's rows -/
theorem far_sz {c x : Int} : 0 ≤ (c / 7 + x) % 10 ^ 59 ∧ (c / 7 + x) % 10 ^ 59 < 10 ^ 59 := ⟨Int.emod_nonneg _ (by decide), Int.emod_lt_of_pos _ (by decide)⟩
theorem run_law_rows83 {m : Nat} (hm : 2 ≤ m) {c : Int} (hc : Sz 1200000 c) : ∃ rows, Rk rows ∧ (sems defs m 224).run [.int c] = .ok (.lst (rows.map li), []) := by
  obtain ⟨m, rfl, hm1⟩ := suc_of hm
  suffices H : ∃ rows ρ, Rk rows ∧ evSs (sems defs m) d__law_rows_224.body (start d__law_rows_224.ns [.int c]) = .rt (.lst (rows.map li)) ρ by
    obtain ⟨rows, ρ, h, e⟩ := H
    exact ⟨rows, h, run_rt (d := d__law_rows_224) rfl rfl rfl e⟩
  obtain ⟨o1, ho⟩ : ∃ o1, evSs (sems defs m) d__law_rows_224.body (start d__law_rows_224.ns [.int c]) = o1 := ⟨_, rfl⟩
  rw [ho]
  have q1 := run_mix (n := m) (by omega) (a := c) (k := 2) (hc.mono (by decide)) (Sz.mono (Sz.small (i := 2) (by decide) (by decide)) (by decide))
  have z5 : (0 : Int) < 5 := by decide
  obtain ⟨a, ha, a4⟩ : ∃ a : Nat, mix c 2 % 5 = a ∧ a ≤ 4 := ⟨(mix c 2 % 5).toNat, by have := Int.emod_nonneg (mix c 2) (by decide : (5 : Int) ≠ 0); omega, by have := Int.emod_lt_of_pos (mix c 2) z5; omega⟩
  have b1 : ((a : Int) ≤ (lim : Nat) ∧ -big ≤ (a : Int)) := by unfold lim big; omega
  have rg := rng0i a
  simp only [d__law_rows_224, evE.eq_1, evE.eq_2, evE.eq_3, evE.eq_4, evE.eq_5, evE.eq_6, evE.eq_7, evE.eq_8, evE.eq_9, evE.eq_10, evE.eq_11, evE.eq_12, evE.eq_13, evE.eq_14, evE.eq_15, evE.eq_16, evE.eq_17, evE.eq_18, evE.eq_19, evE.eq_20, evE.eq_21, evE.eq_22, evE.eq_23, evE.eq_24, evE.eq_25, evE.eq_26, evE.eq_27, evE.eq_28, evE.eq_29, evE.eq_30, T1.run, T2.run, evEs.eq_1, evEs.eq_2, evS.eq_1, evS.eq_2, evS.eq_3, evS.eq_4, evS.eq_5, evS.eq_6, evS.eq_7, evS.eq_8, evS.eq_9, evS.eq_10, evS.eq_11, evS.eq_12, evS.eq_13, evS.eq_14, evS.eq_15, evS.eq_16, evS.eq_17, evS.eq_18, evS.eq_19, evS.eq_20, evS.eq_21, evS.eq_22, evS.eq_23, evSs.eq_1, evSs.eq_2, evSs.eq_3, TW.gt, TW.st, TW.sts, TW.start, List.map_cons, List.map_nil, List.length_cons, List.length_nil, List.length_map, List.replicate_succ, List.replicate_zero, Nat.reduceAdd, Nat.reduceSub, List.cons_append, List.nil_append, Tg.put, Tg.names, srcRes, srcOf, Sk.out, Sk.pure, wipeE, Op1.run, Op2.run, slc3, okI, okB, okA, okT, isSc_i, isSc_b, isSc_s, isSc_n, isNon_i, isNon_b, isNon_l, isNon_n, eqS_ii, eqS_bb, inF_ints, ints_map, ints_mapf, bit, IDef.mut, kAt, ownK, if_true, if_false, ↓reduceIte, Bool.false_eq_true, decide_true, decide_false, Bool.not_true, Bool.not_false, true_and, and_true, and_self, Option.isSome_some, Option.isSome_none, eq_self, q1, z5, ha, b1, rg] at ho
  generalize hF : forGo _ _ _ _ = o at ho
  obtain ⟨ρ, rfl, rows, x2, x3, x4, x5, x6, rfl, rl, hr⟩ := for_inv hF (fun k : Nat => D.int k) (List.range a) (fun pre ρ => ∃ (rows : List (List Int)) (x2 x3 x4 x5 x6 : Option D), ρ = [some (.int c), some (.lst (rows.map li)), x2, x3, x4, x5, x6] ∧ rows.length = pre.length ∧ ∀ r ∈ rows, r.length ≤ 4 ∧ ∀ x ∈ r, x.natAbs < 10 ^ 60) (by simp) ⟨[], _, _, _, _, _, rfl, rfl, by simp⟩ (by
    rintro pre k r ρ e ⟨rows, x2, x3, x4, x5, x6, rfl, rl, hr⟩
    refine ⟨_, rfl, ?_⟩
    obtain ⟨rfl, hk⟩ := range_split e
    have sk : Sz 1200001 (c + (pre.length : Int)) := hc.add (Sz.small (i := (pre.length : Int)) (by omega) (by omega)) (k := 1200000) (by decide) (by decide)
    have q2 := run_mix (n := m) (by omega) (a := c + (pre.length : Int)) (k := 3) (sk.mono (by decide)) (Sz.mono (Sz.small (i := 3) (by decide) (by decide)) (by decide))
    obtain ⟨b, hb, b4⟩ : ∃ b : Nat, mix (c + (pre.length : Int)) 3 % 5 = b ∧ b ≤ 4 := ⟨(mix (c + (pre.length : Int)) 3 % 5).toNat, by have := Int.emod_nonneg (mix (c + (pre.length : Int)) 3) (by decide : (5 : Int) ≠ 0); omega, by have := Int.emod_lt_of_pos (mix (c + (pre.length : Int)) 3) z5; omega⟩
    have b1 : ((b : Int) ≤ (lim : Nat) ∧ -big ≤ (b : Int)) := by unfold lim big; omega
    have rg := rng0i b
    clear hF ho
    obtain ⟨o1, h1⟩ : ∃ o1, evSs (sems defs m) (forB (nthS 1 d__law_rows_224.body)) [some (.int c), some (.lst (rows.map li)), some (.int pre.length), x3, x4, x5, x6] = o1 := ⟨_, rfl⟩
    have ho := h1
    simp only [d__law_rows_224, forB, nthS, evE.eq_1, evE.eq_2, evE.eq_3, evE.eq_4, evE.eq_5, evE.eq_6, evE.eq_7, evE.eq_8, evE.eq_9, evE.eq_10, evE.eq_11, evE.eq_12, evE.eq_13, evE.eq_14, evE.eq_15, evE.eq_16, evE.eq_17, evE.eq_18, evE.eq_19, evE.eq_20, evE.eq_21, evE.eq_22, evE.eq_23, evE.eq_24, evE.eq_25, evE.eq_26, evE.eq_27, evE.eq_28, evE.eq_29, evE.eq_30, T1.run, T2.run, evEs.eq_1, evEs.eq_2, evS.eq_1, evS.eq_2, evS.eq_3, evS.eq_4, evS.eq_5, evS.eq_6, evS.eq_7, evS.eq_8, evS.eq_9, evS.eq_10, evS.eq_11, evS.eq_12, evS.eq_13, evS.eq_14, evS.eq_15, evS.eq_16, evS.eq_17, evS.eq_18, evS.eq_19, evS.eq_20, evS.eq_21, evS.eq_22, evS.eq_23, evSs.eq_1, evSs.eq_2, evSs.eq_3, TW.gt, TW.st, TW.sts, TW.start, List.map_cons, List.map_nil, List.length_cons, List.length_nil, List.length_map, List.replicate_succ, List.replicate_zero, Nat.reduceAdd, Nat.reduceSub, List.cons_append, List.nil_append, Tg.put, Tg.names, srcRes, srcOf, Sk.out, Sk.pure, wipeE, Op1.run, Op2.run, slc3, okI, okB, okA, okT, isSc_i, isSc_b, isSc_s, isSc_n, isNon_i, isNon_b, isNon_l, isNon_n, eqS_ii, eqS_bb, inF_ints, ints_map, ints_mapf, bit, IDef.mut, kAt, ownK, if_true, if_false, ↓reduceIte, Bool.false_eq_true, decide_true, decide_false, Bool.not_true, Bool.not_false, true_and, and_true, and_self, Option.isSome_some, Option.isSome_none, eq_self, q2, z5, hb, b1, rg] at ho
    generalize hF : forGo _ _ _ _ = o at ho
    obtain ⟨ρ, rfl, row, x4, x5, x6, rfl, wl, hw⟩ := for_inv hF (fun k : Nat => D.int k) (List.range b) (fun pr ρ => ∃ (row : List Int) (x4 x5 x6 : Option D), ρ = [some (.int c), some (.lst (rows.map li)), some (.int pre.length), some (li row), x4, x5, x6] ∧ row.length = pr.length ∧ ∀ x ∈ row, x.natAbs < 10 ^ 60) (by simp) ⟨[], _, _, _, rfl, rfl, by simp⟩ (by
      rintro pr j r2 ρ e' ⟨row, x4, x5, x6, rfl, wl, hw⟩
      refine ⟨_, rfl, ?_⟩
      obtain ⟨rfl, hj⟩ := range_split e'
      have m5 : mulOk 5 (pre.length : Int) = true := Sz.ok (Sz.small (i := 5) (by decide) (by decide)) (Sz.small (i := (pre.length : Int)) (by omega) (by omega)) (by decide)
      have s2 : Sz 1200002 (c + 5 * (pre.length : Int) + (pr.length : Int)) := (hc.add (Sz.small (i := 5 * (pre.length : Int)) (by omega) (by omega)) (k := 1200000) (by decide) (by decide)).add (Sz.small (i := (pr.length : Int)) (by omega) (by omega)) (k := 1200001) (by decide) (by decide)
      have q3 := run_mix (n := m) (by omega) (a := c + 5 * (pre.length : Int) + (pr.length : Int)) (k := 4) (s2.mono (by decide)) (Sz.mono (Sz.small (i := 4) (by decide) (by decide)) (by decide))
      obtain ⟨x, hx⟩ : ∃ x, mix (c + 5 * (pre.length : Int) + (pr.length : Int)) 4 = x := ⟨_, rfl⟩
      rw [hx] at q3
      have z7 : (0 : Int) < 7 := by decide
      have lg7 := log_small z7 (by decide)
      have z14 : (0 : Int) < 14 := by decide
      have z16 : (0 : Int) < 16 := by decide
      have lg16 := log_small z16 (by decide)
      have z6 : (0 : Int) < 6 := by decide
      have p59 : ((0 : Int) ≤ 59 ∧ (59 : Int) ≤ 1000 ∧ (10 : Int).natAbs < 1000000) := by decide
      have p60 : ((0 : Int) ≤ 60 ∧ (60 : Int) ≤ 1000 ∧ (10 : Int).natAbs < 1000000) := by decide
      have z59 : (0 : Int) < 10 ^ (59 : Int).toNat := by decide
      obtain ⟨f, hf⟩ : ∃ f : Int, (c / 7 + x) % 10 ^ (59 : Int).toNat = f := ⟨_, rfl⟩
      have f1 : 0 ≤ f ∧ f < 10 ^ 59 := by rw [← hf]; exact far_sz
      obtain ⟨t, ht⟩ : ∃ t : Int, x % 14 = t := ⟨_, rfl⟩
      have t1 : 0 ≤ t ∧ t < 14 := by rw [← ht]; exact ⟨Int.emod_nonneg _ (by decide), Int.emod_lt_of_pos _ z14⟩
      obtain ⟨i, hi, i6⟩ : ∃ i : Nat, x / 16 % 6 = i ∧ i < 6 := ⟨(x / 16 % 6).toNat, by have := Int.emod_nonneg (x / 16) (by decide : (6 : Int) ≠ 0); omega, by have := Int.emod_lt_of_pos (x / 16) z6; omega⟩
      have nt := nth_li (xs := [t, 0, -1 - t, f, 0 - f, 10 ^ (60 : Int).toNat - 1 - f]) (k := i) (by simpa using i6)
      have mem := getD_mem (xs := [t, 0, -1 - t, f, 0 - f, 10 ^ (60 : Int).toNat - 1 - f]) (k := i) (by simpa using i6)
      obtain ⟨v, hv⟩ : ∃ v, [t, 0, -1 - t, f, 0 - f, 10 ^ (60 : Int).toNat - 1 - f].getD i 0 = v := ⟨_, rfl⟩
      rw [hv] at nt mem
      have hv60 : v.natAbs < 10 ^ 60 := by
        simp only [List.mem_cons, List.not_mem_nil, or_false] at mem
        have : (60 : Int).toNat = 60 := rfl
        rw [this] at mem
        rcases mem with rfl | rfl | rfl | rfl | rfl | rfl <;> omega
      have wlim : row.length < lim := by unfold lim; omega
      simp only [List.map_cons, List.map_nil] at nt
      refine ⟨_, by simp only [evE.eq_1, evE.eq_2, evE.eq_3, evE.eq_4, evE.eq_5, evE.eq_6, evE.eq_7, evE.eq_8, evE.eq_9, evE.eq_10, evE.eq_11, evE.eq_12, evE.eq_13, evE.eq_14, evE.eq_15, evE.eq_16, evE.eq_17, evE.eq_18, evE.eq_19, evE.eq_20, evE.eq_21, evE.eq_22, evE.eq_23, evE.eq_24, evE.eq_25, evE.eq_26, evE.eq_27, evE.eq_28, evE.eq_29, evE.eq_30, T1.run, T2.run, evEs.eq_1, evEs.eq_2, evS.eq_1, evS.eq_2, evS.eq_3, evS.eq_4, evS.eq_5, evS.eq_6, evS.eq_7, evS.eq_8, evS.eq_9, evS.eq_10, evS.eq_11, evS.eq_12, evS.eq_13, evS.eq_14, evS.eq_15, evS.eq_16, evS.eq_17, evS.eq_18, evS.eq_19, evS.eq_20, evS.eq_21, evS.eq_22, evS.eq_23, evSs.eq_1, evSs.eq_2, evSs.eq_3, TW.gt, TW.st, TW.sts, TW.start, List.map_cons, List.map_nil, List.length_cons, List.length_nil, List.length_map, List.replicate_succ, List.replicate_zero, Nat.reduceAdd, Nat.reduceSub, List.cons_append, List.nil_append, Tg.put, Tg.names, srcRes, srcOf, Sk.out, Sk.pure, wipeE, Op1.run, Op2.run, slc3, okI, okB, okA, okT, isSc_i, isSc_b, isSc_s, isSc_n, isNon_i, isNon_b, isNon_l, isNon_n, eqS_ii, eqS_bb, inF_ints, ints_map, ints_mapf, bit, IDef.mut, kAt, ownK, if_true, if_false, ↓reduceIte, Bool.false_eq_true, decide_true, decide_false, Bool.not_true, Bool.not_false, true_and, and_true, and_self, Option.isSome_some, Option.isSome_none, eq_self, li, m5, q3, z7, lg7, p59, z59, hf, z14, ht, z16, lg16, z6, hi, p60, nt, wlim] <;> rfl, row ++ [v], some (.int pr.length), some (.int x), some (.int f), by simp [li], by simp [wl], fun y hy => ?_⟩
      rcases List.mem_append.mp hy with hy | hy
      · exact hw y hy
      · rw [List.mem_singleton.mp hy]; exact hv60)
    have rlim : rows.length < lim := by unfold lim; omega
    have sc := sc_ints row
    simp only [evE.eq_1, evE.eq_2, evE.eq_3, evE.eq_4, evE.eq_5, evE.eq_6, evE.eq_7, evE.eq_8, evE.eq_9, evE.eq_10, evE.eq_11, evE.eq_12, evE.eq_13, evE.eq_14, evE.eq_15, evE.eq_16, evE.eq_17, evE.eq_18, evE.eq_19, evE.eq_20, evE.eq_21, evE.eq_22, evE.eq_23, evE.eq_24, evE.eq_25, evE.eq_26, evE.eq_27, evE.eq_28, evE.eq_29, evE.eq_30, T1.run, T2.run, evEs.eq_1, evEs.eq_2, evS.eq_1, evS.eq_2, evS.eq_3, evS.eq_4, evS.eq_5, evS.eq_6, evS.eq_7, evS.eq_8, evS.eq_9, evS.eq_10, evS.eq_11, evS.eq_12, evS.eq_13, evS.eq_14, evS.eq_15, evS.eq_16, evS.eq_17, evS.eq_18, evS.eq_19, evS.eq_20, evS.eq_21, evS.eq_22, evS.eq_23, evSs.eq_1, evSs.eq_2, evSs.eq_3, TW.gt, TW.st, TW.sts, TW.start, List.map_cons, List.map_nil, List.length_cons, List.length_nil, List.length_map, List.replicate_succ, List.replicate_zero, Nat.reduceAdd, Nat.reduceSub, List.cons_append, List.nil_append, Tg.put, Tg.names, srcRes, srcOf, Sk.out, Sk.pure, wipeE, Op1.run, Op2.run, slc3, okI, okB, okA, okT, isSc_i, isSc_b, isSc_s, isSc_n, isNon_i, isNon_b, isNon_l, isNon_n, eqS_ii, eqS_bb, inF_ints, ints_map, ints_mapf, bit, IDef.mut, kAt, ownK, if_true, if_false, ↓reduceIte, Bool.false_eq_true, decide_true, decide_false, Bool.not_true, Bool.not_false, true_and, and_true, and_self, Option.isSome_some, Option.isSome_none, eq_self, li, sc, rlim] at ho
    refine ⟨_, h1.trans ho.symm, rows ++ [row], some (.int pre.length), none, x4, x5, x6, by simp [li], by simp [rl], fun r hr' => ?_⟩
    rcases List.mem_append.mp hr' with hr' | hr'
    · exact hr r hr'
    · rw [List.mem_singleton.mp hr']
      exact ⟨by simp at wl; omega, hw⟩)
  simp only [evE.eq_1, evE.eq_2, evE.eq_3, evE.eq_4, evE.eq_5, evE.eq_6, evE.eq_7, evE.eq_8, evE.eq_9, evE.eq_10, evE.eq_11, evE.eq_12, evE.eq_13, evE.eq_14, evE.eq_15, evE.eq_16, evE.eq_17, evE.eq_18, evE.eq_19, evE.eq_20, evE.eq_21, evE.eq_22, evE.eq_23, evE.eq_24, evE.eq_25, evE.eq_26, evE.eq_27, evE.eq_28, evE.eq_29, evE.eq_30, T1.run, T2.run, evEs.eq_1, evEs.eq_2, evS.eq_1, evS.eq_2, evS.eq_3, evS.eq_4, evS.eq_5, evS.eq_6, evS.eq_7, evS.eq_8, evS.eq_9, evS.eq_10, evS.eq_11, evS.eq_12, evS.eq_13, evS.eq_14, evS.eq_15, evS.eq_16, evS.eq_17, evS.eq_18, evS.eq_19, evS.eq_20, evS.eq_21, evS.eq_22, evS.eq_23, evSs.eq_1, evSs.eq_2, evSs.eq_3, TW.gt, TW.st, TW.sts, TW.start, List.map_cons, List.map_nil, List.length_cons, List.length_nil, List.length_map, List.replicate_succ, List.replicate_zero, Nat.reduceAdd, Nat.reduceSub, List.cons_append, List.nil_append, Tg.put, Tg.names, srcRes, srcOf, Sk.out, Sk.pure, wipeE, Op1.run, Op2.run, slc3, okI, okB, okA, okT, isSc_i, isSc_b, isSc_s, isSc_n, isNon_i, isNon_b, isNon_l, isNon_n, eqS_ii, eqS_bb, inF_ints, ints_map, ints_mapf, bit, IDef.mut, kAt, ownK, if_true, if_false, ↓reduceIte, Bool.false_eq_true, decide_true, decide_false, Bool.not_true, Bool.not_false, true_and, and_true, and_self, Option.isSome_some, Option.isSome_none, eq_self] at ho
  rw [List.length_range] at rl
  exact ⟨rows, _, ⟨by omega, hr⟩, ho.symm⟩
theorem law83 {ns : List Int} (hz : ∀ z ∈ ns, Sz 1048577 z) : ∃ ms, (sems defs 40 227).run [.scr ns] = .ok (.bl true, ms) := by
  refine ⟨[], ?_⟩
  suffices H : ∃ ρ, evSs (sems defs 39) d_law_227.body (start d_law_227.ns [.scr ns]) = .rt (.bl true) ρ by
    obtain ⟨ρ, e⟩ := H
    exact run_rt (d := d_law_227) rfl rfl rfl e
  obtain ⟨o1, ho⟩ : ∃ o1, evSs (sems defs 39) d_law_227.body (start d_law_227.ns [.scr ns]) = o1 := ⟨_, rfl⟩
  rw [ho]
  have ct : cut ns none (some 40) = ns.take 40 := by
    unfold cut clip
    simp
  obtain ⟨xs, hxs⟩ : ∃ xs, xs = (9 : Int) :: ns.take 40 := ⟨_, rfl⟩
  have l40 : ((ns.take 40).map D.int).length ≤ 40 := by rw [List.length_map, List.length_take]; omega
  have b1 : 0 + 1 + ((ns.take 40).map D.int).length ≤ lim := by unfold lim; omega
  have b1' : 1 + (ns.take 40).length ≤ lim := by rw [List.length_map] at l40; unfold lim; omega
  simp only [d_law_227, evE.eq_1, evE.eq_2, evE.eq_3, evE.eq_4, evE.eq_5, evE.eq_6, evE.eq_7, evE.eq_8, evE.eq_9, evE.eq_10, evE.eq_11, evE.eq_12, evE.eq_13, evE.eq_14, evE.eq_15, evE.eq_16, evE.eq_17, evE.eq_18, evE.eq_19, evE.eq_20, evE.eq_21, evE.eq_22, evE.eq_23, evE.eq_24, evE.eq_25, evE.eq_26, evE.eq_27, evE.eq_28, evE.eq_29, evE.eq_30, T1.run, T2.run, evEs.eq_1, evEs.eq_2, evS.eq_1, evS.eq_2, evS.eq_3, evS.eq_4, evS.eq_5, evS.eq_6, evS.eq_7, evS.eq_8, evS.eq_9, evS.eq_10, evS.eq_11, evS.eq_12, evS.eq_13, evS.eq_14, evS.eq_15, evS.eq_16, evS.eq_17, evS.eq_18, evS.eq_19, evS.eq_20, evS.eq_21, evS.eq_22, evS.eq_23, evSs.eq_1, evSs.eq_2, evSs.eq_3, TW.gt, TW.st, TW.sts, TW.start, List.map_cons, List.map_nil, List.length_cons, List.length_nil, List.length_map, List.replicate_succ, List.replicate_zero, Nat.reduceAdd, Nat.reduceSub, List.cons_append, List.nil_append, Tg.put, Tg.names, srcRes, srcOf, Sk.out, Sk.pure, wipeE, Op1.run, Op2.run, slc3, okI, okB, okA, okT, isSc_i, isSc_b, isSc_s, isSc_n, isNon_i, isNon_b, isNon_l, isNon_n, eqS_ii, eqS_bb, inF_ints, ints_map, ints_mapf, bit, IDef.mut, kAt, ownK, if_true, if_false, ↓reduceIte, Bool.false_eq_true, decide_true, decide_false, Bool.not_true, Bool.not_false, true_and, and_true, and_self, Option.isSome_some, Option.isSome_none, eq_self, ct, b1, b1'] at ho
  generalize hF : forGo _ _ _ _ = o at ho
  obtain ⟨ρ, rfl, x1, x2, x3, x4, x5, x6, rfl⟩ := for_inv hF D.int ((9 : Int) :: ns.take 40) (fun pre ρ => ∃ x1 x2 x3 x4 x5 x6 : Option D, ρ = [some (.scr ns), x1, x2, x3, x4, x5, x6]) rfl ⟨_, _, _, _, _, _, rfl⟩ (by
    rintro pre c r ρ e ⟨x1, x2, x3, x4, x5, x6, rfl⟩
    refine ⟨_, rfl, ?_⟩
    have hc : Sz 1200000 c := by
      have : c ∈ (9 : Int) :: ns.take 40 := by rw [e]; simp
      rcases List.mem_cons.mp this with rfl | h
      · exact Sz.mono (Sz.small (i := 9) (by decide) (by decide)) (by decide)
      · exact (hz c (List.mem_of_mem_take h)).mono (by decide)
    obtain ⟨rows, hr, q1⟩ := run_law_rows83 (m := 39) (by omega) hc
    have q2 := run_law_shown83 (m := 39) (by omega) hr
    have q3 := run_shown_rows (m := 39) (by omega) hr
    have q4 := run_read_rows (m := 39) (by omega) hr
    have q5 := run_like83 (m := 39) (by omega) hr
    have bl : rows.length ≤ lim := by have := hr.1; unfold lim; omega
    clear hF ho
    obtain ⟨o1, h1⟩ : ∃ o1, evSs (sems defs 39) (forB (nthS 0 d_law_227.body)) [some (.scr ns), some (.int c), x2, x3, x4, x5, x6] = o1 := ⟨_, rfl⟩
    have ho := h1
    simp only [d_law_227, forB, nthS, evE.eq_1, evE.eq_2, evE.eq_3, evE.eq_4, evE.eq_5, evE.eq_6, evE.eq_7, evE.eq_8, evE.eq_9, evE.eq_10, evE.eq_11, evE.eq_12, evE.eq_13, evE.eq_14, evE.eq_15, evE.eq_16, evE.eq_17, evE.eq_18, evE.eq_19, evE.eq_20, evE.eq_21, evE.eq_22, evE.eq_23, evE.eq_24, evE.eq_25, evE.eq_26, evE.eq_27, evE.eq_28, evE.eq_29, evE.eq_30, T1.run, T2.run, evEs.eq_1, evEs.eq_2, evS.eq_1, evS.eq_2, evS.eq_3, evS.eq_4, evS.eq_5, evS.eq_6, evS.eq_7, evS.eq_8, evS.eq_9, evS.eq_10, evS.eq_11, evS.eq_12, evS.eq_13, evS.eq_14, evS.eq_15, evS.eq_16, evS.eq_17, evS.eq_18, evS.eq_19, evS.eq_20, evS.eq_21, evS.eq_22, evS.eq_23, evSs.eq_1, evSs.eq_2, evSs.eq_3, TW.gt, TW.st, TW.sts, TW.start, List.map_cons, List.map_nil, List.length_cons, List.length_nil, List.length_map, List.replicate_succ, List.replicate_zero, Nat.reduceAdd, Nat.reduceSub, List.cons_append, List.nil_append, Tg.put, Tg.names, srcRes, srcOf, Sk.out, Sk.pure, wipeE, Op1.run, Op2.run, slc3, okI, okB, okA, okT, isSc_i, isSc_b, isSc_s, isSc_n, isNon_i, isNon_b, isNon_l, isNon_n, eqS_ii, eqS_bb, inF_ints, ints_map, ints_mapf, bit, IDef.mut, kAt, ownK, if_true, if_false, ↓reduceIte, Bool.false_eq_true, decide_true, decide_false, Bool.not_true, Bool.not_false, true_and, and_true, and_self, Option.isSome_some, Option.isSome_none, eq_self, q1, q2, bl] at ho
    generalize hL : lcGo _ _ _ _ _ = o at ho
    have := lc_all hL li rows li rfl (by
      intro r hr
      exact ⟨_, rfl, [some (.scr ns), some (.int c), some (.lst (rows.map li)), some (.str (mkS (showRows rows))), x4, x5, some (li r)], by simp only [evE.eq_1, evE.eq_2, evE.eq_3, evE.eq_4, evE.eq_5, evE.eq_6, evE.eq_7, evE.eq_8, evE.eq_9, evE.eq_10, evE.eq_11, evE.eq_12, evE.eq_13, evE.eq_14, evE.eq_15, evE.eq_16, evE.eq_17, evE.eq_18, evE.eq_19, evE.eq_20, evE.eq_21, evE.eq_22, evE.eq_23, evE.eq_24, evE.eq_25, evE.eq_26, evE.eq_27, evE.eq_28, evE.eq_29, evE.eq_30, T1.run, T2.run, evEs.eq_1, evEs.eq_2, evS.eq_1, evS.eq_2, evS.eq_3, evS.eq_4, evS.eq_5, evS.eq_6, evS.eq_7, evS.eq_8, evS.eq_9, evS.eq_10, evS.eq_11, evS.eq_12, evS.eq_13, evS.eq_14, evS.eq_15, evS.eq_16, evS.eq_17, evS.eq_18, evS.eq_19, evS.eq_20, evS.eq_21, evS.eq_22, evS.eq_23, evSs.eq_1, evSs.eq_2, evSs.eq_3, TW.gt, TW.st, TW.sts, TW.start, List.map_cons, List.map_nil, List.length_cons, List.length_nil, List.length_map, List.replicate_succ, List.replicate_zero, Nat.reduceAdd, Nat.reduceSub, List.cons_append, List.nil_append, Tg.put, Tg.names, srcRes, srcOf, Sk.out, Sk.pure, wipeE, Op1.run, Op2.run, slc3, okI, okB, okA, okT, isSc_i, isSc_b, isSc_s, isSc_n, isNon_i, isNon_b, isNon_l, isNon_n, eqS_ii, eqS_bb, inF_ints, ints_map, ints_mapf, bit, IDef.mut, kAt, ownK, if_true, if_false, ↓reduceIte, Bool.false_eq_true, decide_true, decide_false, Bool.not_true, Bool.not_false, true_and, and_true, and_self, Option.isSome_some, Option.isSome_none, eq_self, li]⟩)
    subst this
    have e1 : decide (showRows rows = showRows rows) = true := decide_eq_true rfl
    have g1 : D.beq (.lst (rows.map li)) (.lst (rows.map li)) = true := beqs_llT rows
    have g2 : D.eqable 20 (.lst (rows.map li)) = true := eqables_llT 18 rows
    simp only [evE.eq_1, evE.eq_2, evE.eq_3, evE.eq_4, evE.eq_5, evE.eq_6, evE.eq_7, evE.eq_8, evE.eq_9, evE.eq_10, evE.eq_11, evE.eq_12, evE.eq_13, evE.eq_14, evE.eq_15, evE.eq_16, evE.eq_17, evE.eq_18, evE.eq_19, evE.eq_20, evE.eq_21, evE.eq_22, evE.eq_23, evE.eq_24, evE.eq_25, evE.eq_26, evE.eq_27, evE.eq_28, evE.eq_29, evE.eq_30, T1.run, T2.run, evEs.eq_1, evEs.eq_2, evS.eq_1, evS.eq_2, evS.eq_3, evS.eq_4, evS.eq_5, evS.eq_6, evS.eq_7, evS.eq_8, evS.eq_9, evS.eq_10, evS.eq_11, evS.eq_12, evS.eq_13, evS.eq_14, evS.eq_15, evS.eq_16, evS.eq_17, evS.eq_18, evS.eq_19, evS.eq_20, evS.eq_21, evS.eq_22, evS.eq_23, evSs.eq_1, evSs.eq_2, evSs.eq_3, TW.gt, TW.st, TW.sts, TW.start, List.map_cons, List.map_nil, List.length_cons, List.length_nil, List.length_map, List.replicate_succ, List.replicate_zero, Nat.reduceAdd, Nat.reduceSub, List.cons_append, List.nil_append, Tg.put, Tg.names, srcRes, srcOf, Sk.out, Sk.pure, wipeE, Op1.run, Op2.run, slc3, okI, okB, okA, okT, isSc_i, isSc_b, isSc_s, isSc_n, isNon_i, isNon_b, isNon_l, isNon_n, eqS_ii, eqS_bb, inF_ints, ints_map, ints_mapf, bit, IDef.mut, kAt, ownK, if_true, if_false, ↓reduceIte, Bool.false_eq_true, decide_true, decide_false, Bool.not_true, Bool.not_false, true_and, and_true, and_self, Option.isSome_some, Option.isSome_none, eq_self, q3, okT, eqS_ss, e1, g1, g2, q4, q5, Bool.and_self] at ho
    exact ⟨_, h1.trans ho.symm, _, _, _, _, _, _, rfl⟩)
  simp only [evE.eq_1, evE.eq_2, evE.eq_3, evE.eq_4, evE.eq_5, evE.eq_6, evE.eq_7, evE.eq_8, evE.eq_9, evE.eq_10, evE.eq_11, evE.eq_12, evE.eq_13, evE.eq_14, evE.eq_15, evE.eq_16, evE.eq_17, evE.eq_18, evE.eq_19, evE.eq_20, evE.eq_21, evE.eq_22, evE.eq_23, evE.eq_24, evE.eq_25, evE.eq_26, evE.eq_27, evE.eq_28, evE.eq_29, evE.eq_30, T1.run, T2.run, evEs.eq_1, evEs.eq_2, evS.eq_1, evS.eq_2, evS.eq_3, evS.eq_4, evS.eq_5, evS.eq_6, evS.eq_7, evS.eq_8, evS.eq_9, evS.eq_10, evS.eq_11, evS.eq_12, evS.eq_13, evS.eq_14, evS.eq_15, evS.eq_16, evS.eq_17, evS.eq_18, evS.eq_19, evS.eq_20, evS.eq_21, evS.eq_22, evS.eq_23, evSs.eq_1, evSs.eq_2, evSs.eq_3, TW.gt, TW.st, TW.sts, TW.start, List.map_cons, List.map_nil, List.length_cons, List.length_nil, List.length_map, List.replicate_succ, List.replicate_zero, Nat.reduceAdd, Nat.reduceSub, List.cons_append, List.nil_append, Tg.put, Tg.names, srcRes, srcOf, Sk.out, Sk.pure, wipeE, Op1.run, Op2.run, slc3, okI, okB, okA, okT, isSc_i, isSc_b, isSc_s, isSc_n, isNon_i, isNon_b, isNon_l, isNon_n, eqS_ii, eqS_bb, inF_ints, ints_map, ints_mapf, bit, IDef.mut, kAt, ownK, if_true, if_false, ↓reduceIte, Bool.false_eq_true, decide_true, decide_false, Bool.not_true, Bool.not_false, true_and, and_true, and_self, Option.isSome_some, Option.isSome_none, eq_self] at ho
  exact ⟨_, ho.symm⟩
end TW.M

namespace TW
open PySem PySem.Spec PyProof.Rows L2
def top (i : Nat) : Stmt := PySem.Challenge.pw_treewells_k83_rows_as_texts.main.body.getD i (.Pass ⟨0, 0, 0, 0⟩)
structure Bl (mg : Str → Option Value) : Prop where
  bool : mg "bool" = none
  int : mg "int" = none
  isinstance : mg "isinstance" = none
  len : mg "len" = none
  list : mg "list" = none
  range : mg "range" = none
  str : mg "str" = none
abbrev sg (f : Nat) : Sig := (defs f).sig
theorem ok_all_in : d_all_in.ok sg = true := by decide +kernel
theorem ok_read_count : d_read_count.ok sg = true := by decide +kernel
theorem ok_read_number : d_read_number.ok sg = true := by decide +kernel
theorem ok_read_row : d_read_row.ok sg = true := by decide +kernel
theorem ok_read_rows : d_read_rows.ok sg = true := by decide +kernel
theorem ok_shown_row : d_shown_row.ok sg = true := by decide +kernel
theorem ok_shown_rows : d_shown_rows.ok sg = true := by decide +kernel
theorem ok__law_mix : d__law_mix.ok sg = true := by decide +kernel
theorem ok__law_whole : d__law_whole.ok sg = true := by decide +kernel
theorem ok__law_rows : d__law_rows_224.ok sg = true := by decide +kernel
theorem ok__law_shown : d__law_shown_225.ok sg = true := by decide +kernel
theorem ok__law_like : d__law_like_226.ok sg = true := by decide +kernel
theorem ok_law : d_law_227.ok sg = true := by decide +kernel
def N_all_in : List Str := ["text", "signs", "most", "sign"]
def P_all_in : List Str := ["text", "signs", "most"]
theorem sc_all_in : FnScope N_all_in P_all_in (defScope (top 5)) := ⟨rfl, rfl, rfl, by decide +kernel, rfl, by decide +kernel, by decide +kernel⟩
def N_read_count : List Str := ["text"]
def P_read_count : List Str := ["text"]
theorem sc_read_count : FnScope N_read_count P_read_count (defScope (top 6)) := ⟨rfl, rfl, rfl, by decide +kernel, rfl, by decide +kernel, by decide +kernel⟩
def N_read_number : List Str := ["text", "number"]
def P_read_number : List Str := ["text"]
theorem sc_read_number : FnScope N_read_number P_read_number (defScope (top 7)) := ⟨rfl, rfl, rfl, by decide +kernel, rfl, by decide +kernel, by decide +kernel⟩
def N_read_row : List Str := ["text", "word"]
def P_read_row : List Str := ["text"]
theorem sc_read_row : FnScope N_read_row P_read_row (defScope (top 8)) := ⟨rfl, rfl, rfl, by decide +kernel, rfl, by decide +kernel, by decide +kernel⟩
def N_read_rows : List Str := ["text", "part"]
def P_read_rows : List Str := ["text"]
theorem sc_read_rows : FnScope N_read_rows P_read_rows (defScope (top 9)) := ⟨rfl, rfl, rfl, by decide +kernel, rfl, by decide +kernel, by decide +kernel⟩
def N_shown_row : List Str := ["row", "number"]
def P_shown_row : List Str := ["row"]
theorem sc_shown_row : FnScope N_shown_row P_shown_row (defScope (top 10)) := ⟨rfl, rfl, rfl, by decide +kernel, rfl, by decide +kernel, by decide +kernel⟩
def N_shown_rows : List Str := ["rows", "row"]
def P_shown_rows : List Str := ["rows"]
theorem sc_shown_rows : FnScope N_shown_rows P_shown_rows (defScope (top 11)) := ⟨rfl, rfl, rfl, by decide +kernel, rfl, by decide +kernel, by decide +kernel⟩
def N__law_mix : List Str := ["_law_number", "_law_k", "_law_mixed"]
def P__law_mix : List Str := ["_law_number", "_law_k"]
theorem sc__law_mix : FnScope N__law_mix P__law_mix (defScope (top 13)) := ⟨rfl, rfl, rfl, by decide +kernel, rfl, by decide +kernel, by decide +kernel⟩
def N__law_whole : List Str := ["_law_found"]
def P__law_whole : List Str := ["_law_found"]
theorem sc__law_whole : FnScope N__law_whole P__law_whole (defScope (top 14)) := ⟨rfl, rfl, rfl, by decide +kernel, rfl, by decide +kernel, by decide +kernel⟩
def N__law_rows : List Str := ["_law_cell", "_law_rows_here", "_law_k", "_law_row", "_law_j", "_law_mixed", "_law_far_off"]
def P__law_rows : List Str := ["_law_cell"]
theorem sc__law_rows : FnScope N__law_rows P__law_rows (defScope (top 15)) := ⟨rfl, rfl, rfl, by decide +kernel, rfl, by decide +kernel, by decide +kernel⟩
def N__law_shown : List Str := ["_law_rows_here", "_law_text", "_law_k", "_law_j"]
def P__law_shown : List Str := ["_law_rows_here"]
theorem sc__law_shown : FnScope N__law_shown P__law_shown (defScope (top 16)) := ⟨rfl, rfl, rfl, by decide +kernel, rfl, by decide +kernel, by decide +kernel⟩
def N__law_like : List Str := ["_law_found", "_law_due", "_law_row", "_law_number"]
def P__law_like : List Str := ["_law_found", "_law_due"]
theorem sc__law_like : FnScope N__law_like P__law_like (defScope (top 17)) := ⟨rfl, rfl, rfl, by decide +kernel, rfl, by decide +kernel, by decide +kernel⟩
def N_law : List Str := ["_law_script", "_law_cell", "_law_rows_here", "_law_text", "_law_handed", "_law_found", "_law_row"]
def P_law : List Str := ["_law_script"]
theorem sc_law : FnScope N_law P_law (defScope (top 18)) := ⟨rfl, rfl, rfl, by decide +kernel, rfl, by decide +kernel, by decide +kernel⟩
section
variable {P : Program} {w : World} {K : PySem.W.Frag} {mg : Str → Option Value} {base : Heap} {T : List NdefX.NTab}
theorem der_all_in (n : Nat) (B : Bl mg)     {f : Addr} (cdv : Value) (A : Around) (outer : List PySem.Env) (s : Shared) (H : Hp) (E : XK) (hr0 : Room (4 * n + 4) (A.deeper (envOfC "all_in" (defScope (top 5)) s.heap.objs.size f cdv))) :
    PSs (cxOf (L2.CX P w) P w K mg base N_all_in "all_in" (defScope (top 5)) f cdv A outer s H E) (defBody (top 5)) (rdSs (Cn defs K T n) d_all_in.body (WOf E)) := by
  have hr := hr0.mono (show 4 * n + 1 ≤ 4 * n + 4 by omega)
  have ok : Ok (cxOf (L2.CX P w) P w K mg base N_all_in "all_in" (defScope (top 5)) f cdv A outer s H E) (Cn defs K T n) := ⟨rfl, rfl, by have := hr.un; show (A.deeper _).units + 66 < cLine; omega⟩
  have nd := sc_all_in.nd
  exact (ss_cons (s_if (p_w (w_or (p_cmp (o := .eqI) o_eqI (d_len ok B.len (d_var (pv 0))) d_int rfl) (w_one_or (p_cmp (o := .gt) o_gt (d_len ok B.len (d_var (pv 0))) (d_var (pv 2)) rfl)))) (ss_cons (s_ret d_bl) ss_nil) ss_nil) (ss_cons (s_for (passes_of rfl) ok (i_str (d_var (pv 0))) (g_name (pg_name (i := 3) nd rfl (by first | exact Or.inl rfl | exact Or.inr rfl))) (ss_cons (s_if (p_ninS (d_var (pv 3)) (d_var (pv 1)) rfl) (ss_cons (s_ret d_bl) ss_nil) ss_nil) ss_nil)) (ss_cons (s_ret d_bl) ss_nil)))
theorem der_read_count (n : Nat) (B : Bl mg) {a_all_in : Addr} {fd_all_in : FuncData} (c_all_in : Cal defs P w K mg base T n 217 "all_in" a_all_in fd_all_in P_all_in) (x_NoText : Exc K mg "NoText" (exA K 9)) (g_FIGURES : ∃ t, mg "FIGURES" = some (.str "0123456789" t))  {f : Addr} (cdv : Value) (A : Around) (outer : List PySem.Env) (s : Shared) (H : Hp) (E : XK) (hr0 : Room (4 * n + 4) (A.deeper (envOfC "read_count" (defScope (top 6)) s.heap.objs.size f cdv))) :
    PSs (cxOf (L2.CX P w) P w K mg base N_read_count "read_count" (defScope (top 6)) f cdv A outer s H E) (defBody (top 6)) (rdSs (Cn defs K T n) d_read_count.body (WOf E)) := by
  have hr := hr0.mono (show 4 * n + 1 ≤ 4 * n + 4 by omega)
  have ok : Ok (cxOf (L2.CX P w) P w K mg base N_read_count "read_count" (defScope (top 6)) f cdv A outer s H E) (Cn defs K T n) := ⟨rfl, rfl, by have := hr.un; show (A.deeper _).units + 66 < cLine; omega⟩
  have nd := sc_read_count.nd
  exact (ss_cons (s_if (p_w (w_or (p_not (p_val (d_call (f := 217) c_all_in.F ok hr (takes_of rfl rfl rfl rfl) c_all_in.g c_all_in.k c_all_in.b (d_cons (d_sc (d_var (pv 0))) (d_cons (d_globS g_FIGURES) (d_cons d_int d_nil)))))) (w_one_or (p_w (w_and (p_cmp (o := .eqI) o_eqI (d_ix (o := .subS) x_str (d_var (pv 0)) d_int) d_str rfl) (w_one_and (p_cmp (o := .neI) o_neI (d_var (pv 0)) d_str rfl))))))) (ss_cons (s_rai (c := 9) ok (takes_of rfl rfl rfl rfl) x_NoText.e x_NoText.g x_NoText.k x_NoText.b x_NoText.t) ss_nil) ss_nil) (ss_cons (s_ret (d_intS B.int (d_var (pv 0)))) ss_nil))
theorem der_read_number (n : Nat) (B : Bl mg) {a_read_count : Addr} {fd_read_count : FuncData} (c_read_count : Cal defs P w K mg base T n 218 "read_count" a_read_count fd_read_count P_read_count) (x_NoText : Exc K mg "NoText" (exA K 9))   {f : Addr} (cdv : Value) (A : Around) (outer : List PySem.Env) (s : Shared) (H : Hp) (E : XK) (hr0 : Room (4 * n + 4) (A.deeper (envOfC "read_number" (defScope (top 7)) s.heap.objs.size f cdv))) :
    PSs (cxOf (L2.CX P w) P w K mg base N_read_number "read_number" (defScope (top 7)) f cdv A outer s H E) (defBody (top 7)) (rdSs (Cn defs K T n) d_read_number.body (WOf E)) := by
  have hr := hr0.mono (show 4 * n + 1 ≤ 4 * n + 4 by omega)
  have ok : Ok (cxOf (L2.CX P w) P w K mg base N_read_number "read_number" (defScope (top 7)) f cdv A outer s H E) (Cn defs K T n) := ⟨rfl, rfl, by have := hr.un; show (A.deeper _).units + 66 < cLine; omega⟩
  have nd := sc_read_number.nd
  exact (ss_cons (s_if (p_not (p_val (d_starts (d_var (pv 0)) d_str))) (ss_cons (s_ret (d_call (f := 218) c_read_count.F ok hr (takes_of rfl rfl rfl rfl) c_read_count.g c_read_count.k c_read_count.b (d_cons (d_sc (d_var (pv 0))) d_nil))) ss_nil) ss_nil) (ss_cons (s_set (i := 1) nd rfl (by first | exact Or.inl rfl | exact Or.inr rfl) (d_call (f := 218) c_read_count.F ok hr (takes_of rfl rfl rfl rfl) c_read_count.g c_read_count.k c_read_count.b (d_cons (d_sLo (d_var (pv 0)) d_int) d_nil))) (ss_cons (s_if (p_cmp (o := .eqI) o_eqI (d_var (pv 1)) d_int rfl) (ss_cons (s_rai (c := 9) ok (takes_of rfl rfl rfl rfl) x_NoText.e x_NoText.g x_NoText.k x_NoText.b x_NoText.t) ss_nil) ss_nil) (ss_cons (s_ret (d_neg (d_var (pv 1)))) ss_nil))))
theorem der_read_row (n : Nat) (B : Bl mg) {a_read_number : Addr} {fd_read_number : FuncData} (c_read_number : Cal defs P w K mg base T n 219 "read_number" a_read_number fd_read_number P_read_number)    {f : Addr} (cdv : Value) (A : Around) (outer : List PySem.Env) (s : Shared) (H : Hp) (E : XK) (hr0 : Room (4 * n + 4) (A.deeper (envOfC "read_row" (defScope (top 8)) s.heap.objs.size f cdv))) :
    PSs (cxOf (L2.CX P w) P w K mg base N_read_row "read_row" (defScope (top 8)) f cdv A outer s H E) (defBody (top 8)) (rdSs (Cn defs K T n) d_read_row.body (WOf E)) := by
  have hr := hr0.mono (show 4 * n + 1 ≤ 4 * n + 4 by omega)
  have ok : Ok (cxOf (L2.CX P w) P w K mg base N_read_row "read_row" (defScope (top 8)) f cdv A outer s H E) (Cn defs K T n) := ⟨rfl, rfl, by have := hr.un; show (A.deeper _).units + 66 < cLine; omega⟩
  have nd := sc_read_row.nd
  exact (ss_cons (s_if (p_cmp (o := .eqI) o_eqI (d_var (pv 0)) d_str rfl) (ss_cons (s_ret (d_lst d_nil)) ss_nil) ss_nil) (ss_cons (s_ret (d_lc ok nd (i_lst ok (d_split (d_var (pv 0)) d_str)) (blkOk_by (own := [("word", 1)]) (N := N_read_row) (sc := defScope (top 8)) (by decide +kernel)) rfl (fun _ _ _ _ _ => (g_name (pg_name (i := 1) nd rfl (by first | exact Or.inl rfl | exact Or.inr rfl)))) (fun _ _ _ _ _ => t_none) (fun _ _ _ _ _ => (d_call (f := 219) c_read_number.F (Ok.blk ok _ _ _ _ _) hr L2.takes0 c_read_number.g c_read_number.k c_read_number.b (d_cons (d_sc (d_var (pv 1))) d_nil))))) ss_nil))
theorem der_read_rows (n : Nat) (B : Bl mg) {a_read_row : Addr} {fd_read_row : FuncData} (c_read_row : Cal defs P w K mg base T n 220 "read_row" a_read_row fd_read_row P_read_row)    {f : Addr} (cdv : Value) (A : Around) (outer : List PySem.Env) (s : Shared) (H : Hp) (E : XK) (hr0 : Room (4 * n + 4) (A.deeper (envOfC "read_rows" (defScope (top 9)) s.heap.objs.size f cdv))) :
    PSs (cxOf (L2.CX P w) P w K mg base N_read_rows "read_rows" (defScope (top 9)) f cdv A outer s H E) (defBody (top 9)) (rdSs (Cn defs K T n) d_read_rows.body (WOf E)) := by
  have hr := hr0.mono (show 4 * n + 1 ≤ 4 * n + 4 by omega)
  have ok : Ok (cxOf (L2.CX P w) P w K mg base N_read_rows "read_rows" (defScope (top 9)) f cdv A outer s H E) (Cn defs K T n) := ⟨rfl, rfl, by have := hr.un; show (A.deeper _).units + 66 < cLine; omega⟩
  have nd := sc_read_rows.nd
  exact (ss_cons (s_if (p_cmp (o := .eqI) o_eqI (d_var (pv 0)) d_str rfl) (ss_cons (s_ret (d_lst d_nil)) ss_nil) ss_nil) (ss_cons (s_ret (d_lc ok nd (i_lst ok (d_split (d_var (pv 0)) d_str)) (blkOk_by (own := [("part", 1)]) (N := N_read_rows) (sc := defScope (top 9)) (by decide +kernel)) rfl (fun _ _ _ _ _ => (g_name (pg_name (i := 1) nd rfl (by first | exact Or.inl rfl | exact Or.inr rfl)))) (fun _ _ _ _ _ => t_none) (fun _ _ _ _ _ => (d_call (f := 220) c_read_row.F (Ok.blk ok _ _ _ _ _) hr L2.takes0 c_read_row.g c_read_row.k c_read_row.b (d_cons (d_sc (d_var (pv 1))) d_nil))))) ss_nil))
theorem der_shown_row (n : Nat) (B : Bl mg)     {f : Addr} (cdv : Value) (A : Around) (outer : List PySem.Env) (s : Shared) (H : Hp) (E : XK) (hr0 : Room (4 * n + 4) (A.deeper (envOfC "shown_row" (defScope (top 10)) s.heap.objs.size f cdv))) :
    PSs (cxOf (L2.CX P w) P w K mg base N_shown_row "shown_row" (defScope (top 10)) f cdv A outer s H E) (defBody (top 10)) (rdSs (Cn defs K T n) d_shown_row.body (WOf E)) := by
  have hr := hr0.mono (show 4 * n + 1 ≤ 4 * n + 4 by omega)
  have ok : Ok (cxOf (L2.CX P w) P w K mg base N_shown_row "shown_row" (defScope (top 10)) f cdv A outer s H E) (Cn defs K T n) := ⟨rfl, rfl, by have := hr.un; show (A.deeper _).units + 66 < cLine; omega⟩
  have nd := sc_shown_row.nd
  exact (ss_cons (s_if (p_cmp (o := .eqI) o_eqI (d_len ok B.len (d_var (pv 0))) d_int rfl) (ss_cons (s_ret d_str) ss_nil) ss_nil) (ss_cons (s_ret (d_join ok d_str (d_lc ok nd (i_lst ok (d_var (pv 0))) (blkOk_by (own := [("number", 1)]) (N := N_shown_row) (sc := defScope (top 10)) (by decide +kernel)) rfl (fun _ _ _ _ _ => (g_name (pg_name (i := 1) nd rfl (by first | exact Or.inl rfl | exact Or.inr rfl)))) (fun _ _ _ _ _ => t_none) (fun _ _ _ _ _ => (d_strI B.str (d_var (pv 1))))))) ss_nil))
theorem der_shown_rows (n : Nat) (B : Bl mg) {a_shown_row : Addr} {fd_shown_row : FuncData} (c_shown_row : Cal defs P w K mg base T n 222 "shown_row" a_shown_row fd_shown_row P_shown_row)    {f : Addr} (cdv : Value) (A : Around) (outer : List PySem.Env) (s : Shared) (H : Hp) (E : XK) (hr0 : Room (4 * n + 4) (A.deeper (envOfC "shown_rows" (defScope (top 11)) s.heap.objs.size f cdv))) :
    PSs (cxOf (L2.CX P w) P w K mg base N_shown_rows "shown_rows" (defScope (top 11)) f cdv A outer s H E) (defBody (top 11)) (rdSs (Cn defs K T n) d_shown_rows.body (WOf E)) := by
  have hr := hr0.mono (show 4 * n + 1 ≤ 4 * n + 4 by omega)
  have ok : Ok (cxOf (L2.CX P w) P w K mg base N_shown_rows "shown_rows" (defScope (top 11)) f cdv A outer s H E) (Cn defs K T n) := ⟨rfl, rfl, by have := hr.un; show (A.deeper _).units + 66 < cLine; omega⟩
  have nd := sc_shown_rows.nd
  exact (ss_cons (s_if (p_cmp (o := .eqI) o_eqI (d_len ok B.len (d_var (pv 0))) d_int rfl) (ss_cons (s_ret d_str) ss_nil) ss_nil) (ss_cons (s_ret (d_join ok d_str (d_lc ok nd (i_lst ok (d_var (pv 0))) (blkOk_by (own := [("row", 1)]) (N := N_shown_rows) (sc := defScope (top 11)) (by decide +kernel)) rfl (fun _ _ _ _ _ => (g_name (pg_name (i := 1) nd rfl (by first | exact Or.inl rfl | exact Or.inr rfl)))) (fun _ _ _ _ _ => t_none) (fun _ _ _ _ _ => (d_call (f := 222) c_shown_row.F (Ok.blk ok _ _ _ _ _) hr L2.takes0 c_shown_row.g c_shown_row.k c_shown_row.b (d_cons (d_var (pv 1)) d_nil)))))) ss_nil))
theorem der__law_mix (n : Nat) (B : Bl mg)     {f : Addr} (cdv : Value) (A : Around) (outer : List PySem.Env) (s : Shared) (H : Hp) (E : XK) (hr0 : Room (4 * n + 4) (A.deeper (envOfC "_law_mix" (defScope (top 13)) s.heap.objs.size f cdv))) :
    PSs (cxOf (L2.CX P w) P w K mg base N__law_mix "_law_mix" (defScope (top 13)) f cdv A outer s H E) (defBody (top 13)) (rdSs (Cn defs K T n) d__law_mix.body (WOf E)) := by
  have hr := hr0.mono (show 4 * n + 1 ≤ 4 * n + 4 by omega)
  have ok : Ok (cxOf (L2.CX P w) P w K mg base N__law_mix "_law_mix" (defScope (top 13)) f cdv A outer s H E) (Cn defs K T n) := ⟨rfl, rfl, by have := hr.un; show (A.deeper _).units + 66 < cLine; omega⟩
  have nd := sc__law_mix.nd
  exact (ss_cons (s_set (i := 2) nd rfl (by first | exact Or.inl rfl | exact Or.inr rfl) (d_bin (o := .mod) o_mod (d_bin (o := .mulI) o_mul (d_bin (o := .addI) o_add (d_bin (o := .addI) o_add (d_bin (o := .mulI) o_mul (d_var (pv 0)) (d_var (pv 0))) (d_bin (o := .mulI) o_mul (d_var (pv 1)) (d_var (pv 0)))) (d_bin (o := .mulI) o_mul (d_bin (o := .mulI) o_mul d_int (d_var (pv 1))) (d_var (pv 1)))) d_int) d_int)) (ss_cons (s_ret (d_bin (o := .mod) o_mod (d_bin (o := .mulI) o_mul (d_var (pv 2)) (d_var (pv 2))) d_int)) ss_nil))
theorem der__law_whole (n : Nat) (B : Bl mg)     {f : Addr} (cdv : Value) (A : Around) (outer : List PySem.Env) (s : Shared) (H : Hp) (E : XK) (hr0 : Room (4 * n + 4) (A.deeper (envOfC "_law_whole" (defScope (top 14)) s.heap.objs.size f cdv))) :
    PSs (cxOf (L2.CX P w) P w K mg base N__law_whole "_law_whole" (defScope (top 14)) f cdv A outer s H E) (defBody (top 14)) (rdSs (Cn defs K T n) d__law_whole.body (WOf E)) := by
  have hr := hr0.mono (show 4 * n + 1 ≤ 4 * n + 4 by omega)
  have ok : Ok (cxOf (L2.CX P w) P w K mg base N__law_whole "_law_whole" (defScope (top 14)) f cdv A outer s H E) (Cn defs K T n) := ⟨rfl, rfl, by have := hr.un; show (A.deeper _).units + 66 < cLine; omega⟩
  have nd := sc__law_whole.nd
  exact (ss_cons (s_ret (d_sc (d_and (d_isi (o := .isInt) (T := "int") ok (by decide) (fun _ _ _ => rfl) boot_int B.isinstance B.int (d_var (pv 0))) (d_one (d_not (d_isi (o := .isBool) (T := "bool") ok (by decide) (fun _ _ _ => rfl) boot_bool B.isinstance B.bool (d_var (pv 0)))))))) ss_nil)
theorem der__law_rows (n : Nat) (B : Bl mg) {a__law_mix : Addr} {fd__law_mix : FuncData} (c__law_mix : Cal defs P w K mg base T n 4 "_law_mix" a__law_mix fd__law_mix P__law_mix)    {f : Addr} (cdv : Value) (A : Around) (outer : List PySem.Env) (s : Shared) (H : Hp) (E : XK) (hr0 : Room (4 * n + 4) (A.deeper (envOfC "_law_rows" (defScope (top 15)) s.heap.objs.size f cdv))) :
    PSs (cxOf (L2.CX P w) P w K mg base N__law_rows "_law_rows" (defScope (top 15)) f cdv A outer s H E) (defBody (top 15)) (rdSs (Cn defs K T n) d__law_rows_224.body (WOf E)) := by
  have hr := hr0.mono (show 4 * n + 1 ≤ 4 * n + 4 by omega)
  have ok : Ok (cxOf (L2.CX P w) P w K mg base N__law_rows "_law_rows" (defScope (top 15)) f cdv A outer s H E) (Cn defs K T n) := ⟨rfl, rfl, by have := hr.un; show (A.deeper _).units + 66 < cLine; omega⟩
  have nd := sc__law_rows.nd
  exact (ss_cons (s_set (i := 1) nd rfl (by first | exact Or.inl rfl | exact Or.inr rfl) (d_lst d_nil)) (ss_cons (s_for (passes_of rfl) ok (i_r1 B.range (d_bin (o := .mod) o_mod (d_call (f := 4) c__law_mix.F ok hr (takes_of rfl rfl rfl rfl) c__law_mix.g c__law_mix.k c__law_mix.b (d_cons (d_sc (d_var (pv 0))) (d_cons d_int d_nil))) d_int)) (g_name (pg_name (i := 2) nd rfl (by first | exact Or.inl rfl | exact Or.inr rfl))) (ss_cons (s_set (i := 3) nd rfl (by first | exact Or.inl rfl | exact Or.inr rfl) (d_lst d_nil)) (ss_cons (s_for (passes_of rfl) ok (i_r1 B.range (d_bin (o := .mod) o_mod (d_call (f := 4) c__law_mix.F ok hr (takes_of rfl rfl rfl rfl) c__law_mix.g c__law_mix.k c__law_mix.b (d_cons (d_bin (o := .addI) o_add (d_var (pv 0)) (d_var (pv 2))) (d_cons d_int d_nil))) d_int)) (g_name (pg_name (i := 4) nd rfl (by first | exact Or.inl rfl | exact Or.inr rfl))) (ss_cons (s_set (i := 5) nd rfl (by first | exact Or.inl rfl | exact Or.inr rfl) (d_call (f := 4) c__law_mix.F ok hr (takes_of rfl rfl rfl rfl) c__law_mix.g c__law_mix.k c__law_mix.b (d_cons (d_bin (o := .addI) o_add (d_bin (o := .addI) o_add (d_var (pv 0)) (d_bin (o := .mulI) o_mul d_int (d_var (pv 2)))) (d_var (pv 4))) (d_cons d_int d_nil)))) (ss_cons (s_set (i := 6) nd rfl (by first | exact Or.inl rfl | exact Or.inr rfl) (d_bin (o := .mod) o_mod (d_bin (o := .addI) o_add (d_bin (o := .fdiv) o_fdiv (d_var (pv 0)) d_int) (d_var (pv 5))) (d_bin (o := .pow) o_pow d_int d_int))) (ss_cons (s_app ok (pv 3) (d_sc (d_ix (o := .subL) (x_lst ok) (d_lst (d_cons (d_bin (o := .mod) o_mod (d_var (pv 5)) d_int) (d_cons d_int (d_cons (d_bin (o := .subI) o_sub (d_neg d_int) (d_bin (o := .mod) o_mod (d_var (pv 5)) d_int)) (d_cons (d_sc (d_var (pv 6))) (d_cons (d_bin (o := .subI) o_sub d_int (d_var (pv 6))) (d_cons (d_bin (o := .subI) o_sub (d_bin (o := .subI) o_sub (d_bin (o := .pow) o_pow d_int d_int) d_int) (d_var (pv 6))) d_nil))))))) (d_bin (o := .mod) o_mod (d_bin (o := .fdiv) o_fdiv (d_var (pv 5)) d_int) d_int)))) ss_nil)))) (ss_cons (s_app ok (pv 1) (d_scl (d_mv (pv 3)))) ss_nil)))) (ss_cons (s_ret (d_mv (pv 1))) ss_nil)))
theorem der__law_shown (n : Nat) (B : Bl mg)     {f : Addr} (cdv : Value) (A : Around) (outer : List PySem.Env) (s : Shared) (H : Hp) (E : XK) (hr0 : Room (4 * n + 4) (A.deeper (envOfC "_law_shown" (defScope (top 16)) s.heap.objs.size f cdv))) :
    PSs (cxOf (L2.CX P w) P w K mg base N__law_shown "_law_shown" (defScope (top 16)) f cdv A outer s H E) (defBody (top 16)) (rdSs (Cn defs K T n) d__law_shown_225.body (WOf E)) := by
  have hr := hr0.mono (show 4 * n + 1 ≤ 4 * n + 4 by omega)
  have ok : Ok (cxOf (L2.CX P w) P w K mg base N__law_shown "_law_shown" (defScope (top 16)) f cdv A outer s H E) (Cn defs K T n) := ⟨rfl, rfl, by have := hr.un; show (A.deeper _).units + 66 < cLine; omega⟩
  have nd := sc__law_shown.nd
  exact (ss_cons (s_if (p_cmp (o := .eqI) o_eqI (d_len ok B.len (d_var (pv 0))) d_int rfl) (ss_cons (s_ret d_str) ss_nil) ss_nil) (ss_cons (s_set (i := 1) nd rfl (by first | exact Or.inl rfl | exact Or.inr rfl) d_str) (ss_cons (s_for (passes_of rfl) ok (i_r1 B.range (d_len ok B.len (d_var (pv 0)))) (g_name (pg_name (i := 2) nd rfl (by first | exact Or.inl rfl | exact Or.inr rfl))) (ss_cons (s_if (p_cmp (o := .gt) o_gt (d_var (pv 2)) d_int rfl) (ss_cons (s_set (i := 1) nd rfl (by first | exact Or.inl rfl | exact Or.inr rfl) (d_bin (o := .addS) o_addS (d_var (pv 1)) d_str)) ss_nil) ss_nil) (ss_cons (s_if (p_cmp (o := .eqI) o_eqI (d_len ok B.len (d_ix (o := .subL) (x_lst ok) (d_var (pv 0)) (d_var (pv 2)))) d_int rfl) (ss_cons (s_set (i := 1) nd rfl (by first | exact Or.inl rfl | exact Or.inr rfl) (d_bin (o := .addS) o_addS (d_var (pv 1)) d_str)) ss_nil) ss_nil) (ss_cons (s_for (passes_of rfl) ok (i_r1 B.range (d_len ok B.len (d_ix (o := .subL) (x_lst ok) (d_var (pv 0)) (d_var (pv 2))))) (g_name (pg_name (i := 3) nd rfl (by first | exact Or.inl rfl | exact Or.inr rfl))) (ss_cons (s_if (p_cmp (o := .gt) o_gt (d_var (pv 3)) d_int rfl) (ss_cons (s_set (i := 1) nd rfl (by first | exact Or.inl rfl | exact Or.inr rfl) (d_bin (o := .addS) o_addS (d_var (pv 1)) d_str)) ss_nil) ss_nil) (ss_cons (s_set (i := 1) nd rfl (by first | exact Or.inl rfl | exact Or.inr rfl) (d_bin (o := .addS) o_addS (d_var (pv 1)) (d_strI B.str (d_ix (o := .subL) (x_lst ok) (d_ix (o := .subL) (x_lst ok) (d_var (pv 0)) (d_var (pv 2))) (d_var (pv 3)))))) ss_nil))) ss_nil)))) (ss_cons (s_ret (d_sc (d_var (pv 1)))) ss_nil))))
theorem der__law_like (n : Nat) (B : Bl mg) {a__law_whole : Addr} {fd__law_whole : FuncData} (c__law_whole : Cal defs P w K mg base T n 5 "_law_whole" a__law_whole fd__law_whole P__law_whole)    {f : Addr} (cdv : Value) (A : Around) (outer : List PySem.Env) (s : Shared) (H : Hp) (E : XK) (hr0 : Room (4 * n + 4) (A.deeper (envOfC "_law_like" (defScope (top 17)) s.heap.objs.size f cdv))) :
    PSs (cxOf (L2.CX P w) P w K mg base N__law_like "_law_like" (defScope (top 17)) f cdv A outer s H E) (defBody (top 17)) (rdSs (Cn defs K T n) d__law_like_226.body (WOf E)) := by
  have hr := hr0.mono (show 4 * n + 1 ≤ 4 * n + 4 by omega)
  have ok : Ok (cxOf (L2.CX P w) P w K mg base N__law_like "_law_like" (defScope (top 17)) f cdv A outer s H E) (Cn defs K T n) := ⟨rfl, rfl, by have := hr.un; show (A.deeper _).units + 66 < cLine; omega⟩
  have nd := sc__law_like.nd
  exact (ss_cons (s_if (p_w (w_or (p_not (p_val (d_isi (o := .isList) (T := "list") ok (by decide) (fun _ _ _ => rfl) boot_list B.isinstance B.list (d_var (pv 0))))) (w_one_or (p_cmp (o := .neI) o_neI (d_len ok B.len (d_var (pv 0))) (d_len ok B.len (d_var (pv 1))) rfl)))) (ss_cons (s_ret d_bl) ss_nil) ss_nil) (ss_cons (s_for (passes_of rfl) ok (i_lst ok (d_var (pv 0))) (g_name (pg_name (i := 2) nd rfl (by first | exact Or.inl rfl | exact Or.inr rfl))) (ss_cons (s_if (p_not (p_val (d_isi (o := .isList) (T := "list") ok (by decide) (fun _ _ _ => rfl) boot_list B.isinstance B.list (d_var (pv 2))))) (ss_cons (s_ret d_bl) ss_nil) ss_nil) (ss_cons (s_for (passes_of rfl) ok (i_lst ok (d_var (pv 2))) (g_name (pg_name (i := 3) nd rfl (by first | exact Or.inl rfl | exact Or.inr rfl))) (ss_cons (s_if (p_not (p_val (d_call (f := 5) c__law_whole.F ok hr (takes_of rfl rfl rfl rfl) c__law_whole.g c__law_whole.k c__law_whole.b (d_cons (d_sc (d_var (pv 3))) d_nil)))) (ss_cons (s_ret d_bl) ss_nil) ss_nil) ss_nil)) ss_nil))) (ss_cons (s_ret (d_cmp (o := .eqD) (o_eqD ok) (d_var (pv 0)) (d_var (pv 1)) rfl)) ss_nil)))
theorem der_law (n : Nat) (B : Bl mg) {a__law_rows : Addr} {fd__law_rows : FuncData} (c__law_rows : Cal defs P w K mg base T n 224 "_law_rows" a__law_rows fd__law_rows P__law_rows) {a__law_shown : Addr} {fd__law_shown : FuncData} (c__law_shown : Cal defs P w K mg base T n 225 "_law_shown" a__law_shown fd__law_shown P__law_shown) {a_shown_rows : Addr} {fd_shown_rows : FuncData} (c_shown_rows : Cal defs P w K mg base T n 223 "shown_rows" a_shown_rows fd_shown_rows P_shown_rows) {a__law_like : Addr} {fd__law_like : FuncData} (c__law_like : Cal defs P w K mg base T n 226 "_law_like" a__law_like fd__law_like P__law_like) {a_read_rows : Addr} {fd_read_rows : FuncData} (c_read_rows : Cal defs P w K mg base T n 221 "read_rows" a_read_rows fd_read_rows P_read_rows)    {f : Addr} (cdv : Value) (A : Around) (outer : List PySem.Env) (s : Shared) (H : Hp) (E : XK) (hr0 : Room (4 * n + 4) (A.deeper (envOfC "law" (defScope (top 18)) s.heap.objs.size f cdv))) :
    PSs (cxOf (L2.CX P w) P w K mg base N_law "law" (defScope (top 18)) f cdv A outer s H E) (defBody (top 18)) (rdSs (Cn defs K T n) d_law_227.body (WOf E)) := by
  have hr := hr0.mono (show 4 * n + 1 ≤ 4 * n + 4 by omega)
  have ok : Ok (cxOf (L2.CX P w) P w K mg base N_law "law" (defScope (top 18)) f cdv A outer s H E) (Cn defs K T n) := ⟨rfl, rfl, by have := hr.un; show (A.deeper _).units + 66 < cLine; omega⟩
  have nd := sc_law.nd
  exact (ss_cons (s_for (passes_of rfl) ok (i_lst ok (d_bin (o := .cat) o_cat (d_lst (d_cons d_int d_nil)) (d_slcHi ok (d_var (pv 0)) d_int))) (g_name (pg_name (i := 1) nd rfl (by first | exact Or.inl rfl | exact Or.inr rfl))) (ss_cons (s_set (i := 2) nd rfl (by first | exact Or.inl rfl | exact Or.inr rfl) (d_call (f := 224) c__law_rows.F ok hr (takes_of rfl rfl rfl rfl) c__law_rows.g c__law_rows.k c__law_rows.b (d_cons (d_sc (d_var (pv 1))) d_nil))) (ss_cons (s_set (i := 3) nd rfl (by first | exact Or.inl rfl | exact Or.inr rfl) (d_call (f := 225) c__law_shown.F ok hr (takes_of rfl rfl rfl rfl) c__law_shown.g c__law_shown.k c__law_shown.b (d_cons (d_var (pv 2)) d_nil))) (ss_cons (s_setLc ok nd rfl rfl (sw_true rfl rfl rfl rfl) rfl (i_lst ok (d_var (pv 2))) (blkOk_by (own := [("_law_row", 6)]) (N := N_law) (sc := defScope (top 18)) (by decide +kernel)) rfl (fun _ _ _ _ _ => (g_name (pg_name (i := 6) nd rfl (by first | exact Or.inl rfl | exact Or.inr rfl)))) (fun _ _ _ _ _ => t_none) (fun _ _ _ _ _ => (d_list (Ok.blk ok _ _ _ _ _) B.list (d_var (pv 6))))) (ss_cons (s_set (i := 5) nd rfl (by first | exact Or.inl rfl | exact Or.inr rfl) (d_call (f := 223) c_shown_rows.F ok hr (takes_of rfl rfl rfl rfl) c_shown_rows.g c_shown_rows.k c_shown_rows.b (d_cons (d_var (pv 4)) d_nil))) (ss_cons (s_if (p_w (w_or (p_not (p_val (d_isi (o := .isStr) (T := "str") ok (by decide) (fun _ _ _ => rfl) boot_str B.isinstance B.str (d_var (pv 5))))) (w_or (p_cmp (o := .neI) o_neI (d_var (pv 5)) (d_var (pv 3)) rfl) (w_one_or (p_cmp (o := .neD) (o_neD ok) (d_var (pv 4)) (d_var (pv 2)) rfl))))) (ss_cons (s_ret d_bl) ss_nil) ss_nil) (ss_cons (s_if (p_not (p_val (d_call (f := 226) c__law_like.F ok hr (takes_of rfl rfl rfl rfl) c__law_like.g c__law_like.k c__law_like.b (d_cons (d_call (f := 221) c_read_rows.F ok hr (takes_of rfl rfl rfl rfl) c_read_rows.g c_read_rows.k c_read_rows.b (d_cons (d_sc (d_var (pv 3))) d_nil)) (d_cons (d_var (pv 2)) d_nil))))) (ss_cons (s_ret d_bl) ss_nil) ss_nil) ss_nil))))))) (ss_cons (s_ret d_bl) ss_nil))
end
abbrev TT (K : PySem.W.Frag) : List NdefX.NTab := []
/-- what the top leaves -/
structure Left (K : PySem.W.Frag) (mg : Str → Option Value) (fd : Nat → FuncData) : Prop where
  B : Bl mg
  g_FIGURES : ∃ t, mg "FIGURES" = some (.str "0123456789" t)
  x_NoText : Exc K mg "NoText" (exA K 9)
  F_all_in : FnP K "all_in" (top 5) (He.ga K "all_in") (fd 0)
  g_all_in : mg "all_in" = some (.ref (He.ga K "all_in"))
  F_read_count : FnP K "read_count" (top 6) (He.ga K "read_count") (fd 1)
  g_read_count : mg "read_count" = some (.ref (He.ga K "read_count"))
  F_read_number : FnP K "read_number" (top 7) (He.ga K "read_number") (fd 2)
  g_read_number : mg "read_number" = some (.ref (He.ga K "read_number"))
  F_read_row : FnP K "read_row" (top 8) (He.ga K "read_row") (fd 3)
  g_read_row : mg "read_row" = some (.ref (He.ga K "read_row"))
  F_read_rows : FnP K "read_rows" (top 9) (He.ga K "read_rows") (fd 4)
  g_read_rows : mg "read_rows" = some (.ref (He.ga K "read_rows"))
  F_shown_row : FnP K "shown_row" (top 10) (He.ga K "shown_row") (fd 5)
  g_shown_row : mg "shown_row" = some (.ref (He.ga K "shown_row"))
  F_shown_rows : FnP K "shown_rows" (top 11) (He.ga K "shown_rows") (fd 6)
  g_shown_rows : mg "shown_rows" = some (.ref (He.ga K "shown_rows"))
  F__law_mix : FnP K "_law_mix" (top 13) (He.ga K "_law_mix") (fd 7)
  g__law_mix : mg "_law_mix" = some (.ref (He.ga K "_law_mix"))
  F__law_whole : FnP K "_law_whole" (top 14) (He.ga K "_law_whole") (fd 8)
  g__law_whole : mg "_law_whole" = some (.ref (He.ga K "_law_whole"))
  F__law_rows : FnP K "_law_rows" (top 15) (He.ga K "_law_rows") (fd 9)
  g__law_rows : mg "_law_rows" = some (.ref (He.ga K "_law_rows"))
  F__law_shown : FnP K "_law_shown" (top 16) (He.ga K "_law_shown") (fd 10)
  g__law_shown : mg "_law_shown" = some (.ref (He.ga K "_law_shown"))
  F__law_like : FnP K "_law_like" (top 17) (He.ga K "_law_like") (fd 11)
  g__law_like : mg "_law_like" = some (.ref (He.ga K "_law_like"))
  F_law : FnP K "law" (top 18) (He.ga K "law") (fd 12)
  g_law : mg "law" = some (.ref (He.ga K "law"))
section
variable {P : Program} {w : World} {K : PySem.W.Frag} {mg : Str → Option Value} {base : Heap} {fd : Nat → FuncData}
structure All (P : Program) (w : World) (K : PySem.W.Frag) (mg : Str → Option Value) (base : Heap) (fd : Nat → FuncData) (n : Nat) : Prop where
  f_all_in : FnOk P w K mg base (L2.CX P w) (4 * n + 1) (He.ga K "all_in") (fd 0) P_all_in (spF (Cn defs K (TT K) n) (sems defs n 217))
  f_read_count : FnOk P w K mg base (L2.CX P w) (4 * n + 1) (He.ga K "read_count") (fd 1) P_read_count (spF (Cn defs K (TT K) n) (sems defs n 218))
  f_read_number : FnOk P w K mg base (L2.CX P w) (4 * n + 1) (He.ga K "read_number") (fd 2) P_read_number (spF (Cn defs K (TT K) n) (sems defs n 219))
  f_read_row : FnOk P w K mg base (L2.CX P w) (4 * n + 1) (He.ga K "read_row") (fd 3) P_read_row (spF (Cn defs K (TT K) n) (sems defs n 220))
  f_read_rows : FnOk P w K mg base (L2.CX P w) (4 * n + 1) (He.ga K "read_rows") (fd 4) P_read_rows (spF (Cn defs K (TT K) n) (sems defs n 221))
  f_shown_row : FnOk P w K mg base (L2.CX P w) (4 * n + 1) (He.ga K "shown_row") (fd 5) P_shown_row (spF (Cn defs K (TT K) n) (sems defs n 222))
  f_shown_rows : FnOk P w K mg base (L2.CX P w) (4 * n + 1) (He.ga K "shown_rows") (fd 6) P_shown_rows (spF (Cn defs K (TT K) n) (sems defs n 223))
  f__law_mix : FnOk P w K mg base (L2.CX P w) (4 * n + 1) (He.ga K "_law_mix") (fd 7) P__law_mix (spF (Cn defs K (TT K) n) (sems defs n 4))
  f__law_whole : FnOk P w K mg base (L2.CX P w) (4 * n + 1) (He.ga K "_law_whole") (fd 8) P__law_whole (spF (Cn defs K (TT K) n) (sems defs n 5))
  f__law_rows : FnOk P w K mg base (L2.CX P w) (4 * n + 1) (He.ga K "_law_rows") (fd 9) P__law_rows (spF (Cn defs K (TT K) n) (sems defs n 224))
  f__law_shown : FnOk P w K mg base (L2.CX P w) (4 * n + 1) (He.ga K "_law_shown") (fd 10) P__law_shown (spF (Cn defs K (TT K) n) (sems defs n 225))
  f__law_like : FnOk P w K mg base (L2.CX P w) (4 * n + 1) (He.ga K "_law_like") (fd 11) P__law_like (spF (Cn defs K (TT K) n) (sems defs n 226))
  f_law : FnOk P w K mg base (L2.CX P w) (4 * n + 1) (He.ga K "law") (fd 12) P_law (spF (Cn defs K (TT K) n) (sems defs n 227))
theorem bn_all_in (s : Left K mg fd) : Binds K (fd 0) P_all_in [] := s.F_all_in.bindsN fun _ _ _ _ _ _ us hl => match us, hl with | [_, _, _], _ => rfl
theorem bn_read_count (s : Left K mg fd) : Binds K (fd 1) P_read_count [] := s.F_read_count.bindsN fun _ _ _ _ _ _ us hl => match us, hl with | [_], _ => rfl
theorem bn_read_number (s : Left K mg fd) : Binds K (fd 2) P_read_number [] := s.F_read_number.bindsN fun _ _ _ _ _ _ us hl => match us, hl with | [_], _ => rfl
theorem bn_read_row (s : Left K mg fd) : Binds K (fd 3) P_read_row [] := s.F_read_row.bindsN fun _ _ _ _ _ _ us hl => match us, hl with | [_], _ => rfl
theorem bn_read_rows (s : Left K mg fd) : Binds K (fd 4) P_read_rows [] := s.F_read_rows.bindsN fun _ _ _ _ _ _ us hl => match us, hl with | [_], _ => rfl
theorem bn_shown_row (s : Left K mg fd) : Binds K (fd 5) P_shown_row [] := s.F_shown_row.bindsN fun _ _ _ _ _ _ us hl => match us, hl with | [_], _ => rfl
theorem bn_shown_rows (s : Left K mg fd) : Binds K (fd 6) P_shown_rows [] := s.F_shown_rows.bindsN fun _ _ _ _ _ _ us hl => match us, hl with | [_], _ => rfl
theorem bn__law_mix (s : Left K mg fd) : Binds K (fd 7) P__law_mix [] := s.F__law_mix.bindsN fun _ _ _ _ _ _ us hl => match us, hl with | [_, _], _ => rfl
theorem bn__law_whole (s : Left K mg fd) : Binds K (fd 8) P__law_whole [] := s.F__law_whole.bindsN fun _ _ _ _ _ _ us hl => match us, hl with | [_], _ => rfl
theorem bn__law_rows (s : Left K mg fd) : Binds K (fd 9) P__law_rows [] := s.F__law_rows.bindsN fun _ _ _ _ _ _ us hl => match us, hl with | [_], _ => rfl
theorem bn__law_shown (s : Left K mg fd) : Binds K (fd 10) P__law_shown [] := s.F__law_shown.bindsN fun _ _ _ _ _ _ us hl => match us, hl with | [_], _ => rfl
theorem bn__law_like (s : Left K mg fd) : Binds K (fd 11) P__law_like [] := s.F__law_like.bindsN fun _ _ _ _ _ _ us hl => match us, hl with | [_, _], _ => rfl
theorem bn_law (s : Left K mg fd) : Binds K (fd 12) P_law [] := s.F_law.bindsN fun _ _ _ _ _ _ us hl => match us, hl with | [_], _ => rfl
theorem up_all_in (s : Left K mg fd) {n : Nat} (a : All P w K mg base fd n) : FnOk P w K mg base (L2.CX P w) (4 * (n + 1) + 1) (He.ga K "all_in") (fd 0) P_all_in (spF (Cn defs K (TT K) (n + 1)) (sems defs (n + 1) 217)) := by
  have h := fn_okD (P := P) (w := w) (mg := mg) (base := base) (sig_ok defs K (TT K) n) ok_all_in s.F_all_in sc_all_in rfl rfl (der_all_in n s.B   )
  rw [spF_eq (Ψ := sems defs (n + 1))] at h
  exact h
theorem up_read_count (s : Left K mg fd) {n : Nat} (a : All P w K mg base fd n) : FnOk P w K mg base (L2.CX P w) (4 * (n + 1) + 1) (He.ga K "read_count") (fd 1) P_read_count (spF (Cn defs K (TT K) (n + 1)) (sems defs (n + 1) 218)) := by
  have h := fn_okD (P := P) (w := w) (mg := mg) (base := base) (sig_ok defs K (TT K) n) ok_read_count s.F_read_count sc_read_count rfl rfl (der_read_count n s.B ⟨a.f_all_in, s.g_all_in, s.F_all_in.kp, bn_all_in s⟩ s.x_NoText s.g_FIGURES)
  rw [spF_eq (Ψ := sems defs (n + 1))] at h
  exact h
theorem up_read_number (s : Left K mg fd) {n : Nat} (a : All P w K mg base fd n) : FnOk P w K mg base (L2.CX P w) (4 * (n + 1) + 1) (He.ga K "read_number") (fd 2) P_read_number (spF (Cn defs K (TT K) (n + 1)) (sems defs (n + 1) 219)) := by
  have h := fn_okD (P := P) (w := w) (mg := mg) (base := base) (sig_ok defs K (TT K) n) ok_read_number s.F_read_number sc_read_number rfl rfl (der_read_number n s.B ⟨a.f_read_count, s.g_read_count, s.F_read_count.kp, bn_read_count s⟩ s.x_NoText )
  rw [spF_eq (Ψ := sems defs (n + 1))] at h
  exact h
theorem up_read_row (s : Left K mg fd) {n : Nat} (a : All P w K mg base fd n) : FnOk P w K mg base (L2.CX P w) (4 * (n + 1) + 1) (He.ga K "read_row") (fd 3) P_read_row (spF (Cn defs K (TT K) (n + 1)) (sems defs (n + 1) 220)) := by
  have h := fn_okD (P := P) (w := w) (mg := mg) (base := base) (sig_ok defs K (TT K) n) ok_read_row s.F_read_row sc_read_row rfl rfl (der_read_row n s.B ⟨a.f_read_number, s.g_read_number, s.F_read_number.kp, bn_read_number s⟩  )
  rw [spF_eq (Ψ := sems defs (n + 1))] at h
  exact h
theorem up_read_rows (s : Left K mg fd) {n : Nat} (a : All P w K mg base fd n) : FnOk P w K mg base (L2.CX P w) (4 * (n + 1) + 1) (He.ga K "read_rows") (fd 4) P_read_rows (spF (Cn defs K (TT K) (n + 1)) (sems defs (n + 1) 221)) := by
  have h := fn_okD (P := P) (w := w) (mg := mg) (base := base) (sig_ok defs K (TT K) n) ok_read_rows s.F_read_rows sc_read_rows rfl rfl (der_read_rows n s.B ⟨a.f_read_row, s.g_read_row, s.F_read_row.kp, bn_read_row s⟩  )
  rw [spF_eq (Ψ := sems defs (n + 1))] at h
  exact h
theorem up_shown_row (s : Left K mg fd) {n : Nat} (a : All P w K mg base fd n) : FnOk P w K mg base (L2.CX P w) (4 * (n + 1) + 1) (He.ga K "shown_row") (fd 5) P_shown_row (spF (Cn defs K (TT K) (n + 1)) (sems defs (n + 1) 222)) := by
  have h := fn_okD (P := P) (w := w) (mg := mg) (base := base) (sig_ok defs K (TT K) n) ok_shown_row s.F_shown_row sc_shown_row rfl rfl (der_shown_row n s.B   )
  rw [spF_eq (Ψ := sems defs (n + 1))] at h
  exact h
theorem up_shown_rows (s : Left K mg fd) {n : Nat} (a : All P w K mg base fd n) : FnOk P w K mg base (L2.CX P w) (4 * (n + 1) + 1) (He.ga K "shown_rows") (fd 6) P_shown_rows (spF (Cn defs K (TT K) (n + 1)) (sems defs (n + 1) 223)) := by
  have h := fn_okD (P := P) (w := w) (mg := mg) (base := base) (sig_ok defs K (TT K) n) ok_shown_rows s.F_shown_rows sc_shown_rows rfl rfl (der_shown_rows n s.B ⟨a.f_shown_row, s.g_shown_row, s.F_shown_row.kp, bn_shown_row s⟩  )
  rw [spF_eq (Ψ := sems defs (n + 1))] at h
  exact h
theorem up__law_mix (s : Left K mg fd) {n : Nat} (a : All P w K mg base fd n) : FnOk P w K mg base (L2.CX P w) (4 * (n + 1) + 1) (He.ga K "_law_mix") (fd 7) P__law_mix (spF (Cn defs K (TT K) (n + 1)) (sems defs (n + 1) 4)) := by
  have h := fn_okD (P := P) (w := w) (mg := mg) (base := base) (sig_ok defs K (TT K) n) ok__law_mix s.F__law_mix sc__law_mix rfl rfl (der__law_mix n s.B   )
  rw [spF_eq (Ψ := sems defs (n + 1))] at h
  exact h
theorem up__law_whole (s : Left K mg fd) {n : Nat} (a : All P w K mg base fd n) : FnOk P w K mg base (L2.CX P w) (4 * (n + 1) + 1) (He.ga K "_law_whole") (fd 8) P__law_whole (spF (Cn defs K (TT K) (n + 1)) (sems defs (n + 1) 5)) := by
  have h := fn_okD (P := P) (w := w) (mg := mg) (base := base) (sig_ok defs K (TT K) n) ok__law_whole s.F__law_whole sc__law_whole rfl rfl (der__law_whole n s.B   )
  rw [spF_eq (Ψ := sems defs (n + 1))] at h
  exact h
theorem up__law_rows (s : Left K mg fd) {n : Nat} (a : All P w K mg base fd n) : FnOk P w K mg base (L2.CX P w) (4 * (n + 1) + 1) (He.ga K "_law_rows") (fd 9) P__law_rows (spF (Cn defs K (TT K) (n + 1)) (sems defs (n + 1) 224)) := by
  have h := fn_okD (P := P) (w := w) (mg := mg) (base := base) (sig_ok defs K (TT K) n) ok__law_rows s.F__law_rows sc__law_rows rfl rfl (der__law_rows n s.B ⟨a.f__law_mix, s.g__law_mix, s.F__law_mix.kp, bn__law_mix s⟩  )
  rw [spF_eq (Ψ := sems defs (n + 1))] at h
  exact h
theorem up__law_shown (s : Left K mg fd) {n : Nat} (a : All P w K mg base fd n) : FnOk P w K mg base (L2.CX P w) (4 * (n + 1) + 1) (He.ga K "_law_shown") (fd 10) P__law_shown (spF (Cn defs K (TT K) (n + 1)) (sems defs (n + 1) 225)) := by
  have h := fn_okD (P := P) (w := w) (mg := mg) (base := base) (sig_ok defs K (TT K) n) ok__law_shown s.F__law_shown sc__law_shown rfl rfl (der__law_shown n s.B   )
  rw [spF_eq (Ψ := sems defs (n + 1))] at h
  exact h
theorem up__law_like (s : Left K mg fd) {n : Nat} (a : All P w K mg base fd n) : FnOk P w K mg base (L2.CX P w) (4 * (n + 1) + 1) (He.ga K "_law_like") (fd 11) P__law_like (spF (Cn defs K (TT K) (n + 1)) (sems defs (n + 1) 226)) := by
  have h := fn_okD (P := P) (w := w) (mg := mg) (base := base) (sig_ok defs K (TT K) n) ok__law_like s.F__law_like sc__law_like rfl rfl (der__law_like n s.B ⟨a.f__law_whole, s.g__law_whole, s.F__law_whole.kp, bn__law_whole s⟩  )
  rw [spF_eq (Ψ := sems defs (n + 1))] at h
  exact h
theorem up_law (s : Left K mg fd) {n : Nat} (a : All P w K mg base fd n) : FnOk P w K mg base (L2.CX P w) (4 * (n + 1) + 1) (He.ga K "law") (fd 12) P_law (spF (Cn defs K (TT K) (n + 1)) (sems defs (n + 1) 227)) := by
  have h := fn_okD (P := P) (w := w) (mg := mg) (base := base) (sig_ok defs K (TT K) n) ok_law s.F_law sc_law rfl rfl (der_law n s.B ⟨a.f__law_rows, s.g__law_rows, s.F__law_rows.kp, bn__law_rows s⟩ ⟨a.f__law_shown, s.g__law_shown, s.F__law_shown.kp, bn__law_shown s⟩ ⟨a.f_shown_rows, s.g_shown_rows, s.F_shown_rows.kp, bn_shown_rows s⟩ ⟨a.f__law_like, s.g__law_like, s.F__law_like.kp, bn__law_like s⟩ ⟨a.f_read_rows, s.g_read_rows, s.F_read_rows.kp, bn_read_rows s⟩  )
  rw [spF_eq (Ψ := sems defs (n + 1))] at h
  exact h
theorem all (s : Left K mg fd) : ∀ n, All P w K mg base fd n
  | 0 => ⟨fn_noD (C := Cn defs K (TT K) 0) s.F_all_in sc_all_in, fn_noD (C := Cn defs K (TT K) 0) s.F_read_count sc_read_count, fn_noD (C := Cn defs K (TT K) 0) s.F_read_number sc_read_number, fn_noD (C := Cn defs K (TT K) 0) s.F_read_row sc_read_row, fn_noD (C := Cn defs K (TT K) 0) s.F_read_rows sc_read_rows, fn_noD (C := Cn defs K (TT K) 0) s.F_shown_row sc_shown_row, fn_noD (C := Cn defs K (TT K) 0) s.F_shown_rows sc_shown_rows, fn_noD (C := Cn defs K (TT K) 0) s.F__law_mix sc__law_mix, fn_noD (C := Cn defs K (TT K) 0) s.F__law_whole sc__law_whole, fn_noD (C := Cn defs K (TT K) 0) s.F__law_rows sc__law_rows, fn_noD (C := Cn defs K (TT K) 0) s.F__law_shown sc__law_shown, fn_noD (C := Cn defs K (TT K) 0) s.F__law_like sc__law_like, fn_noD (C := Cn defs K (TT K) 0) s.F_law sc_law⟩
  | n + 1 => have a := all s n
    ⟨up_all_in s a, up_read_count s a, up_read_number s a, up_read_row s a, up_read_rows s a, up_shown_row s a, up_shown_rows s a, up__law_mix s a, up__law_whole s a, up__law_rows s a, up__law_shown s a, up__law_like s a, up_law s a⟩
end
def fn : List He.DefD := [⟨("all_in", none), "all_in", "all_in", defArgs (top 5), defBody (top 5), defScope (top 5), [], []⟩,
 ⟨("read_count", none), "read_count", "read_count", defArgs (top 6), defBody (top 6), defScope (top 6), [], []⟩,
 ⟨("read_number", none), "read_number", "read_number", defArgs (top 7), defBody (top 7), defScope (top 7), [], []⟩,
 ⟨("read_row", none), "read_row", "read_row", defArgs (top 8), defBody (top 8), defScope (top 8), [], []⟩,
 ⟨("read_rows", none), "read_rows", "read_rows", defArgs (top 9), defBody (top 9), defScope (top 9), [], []⟩,
 ⟨("shown_row", none), "shown_row", "shown_row", defArgs (top 10), defBody (top 10), defScope (top 10), [], []⟩,
 ⟨("shown_rows", none), "shown_rows", "shown_rows", defArgs (top 11), defBody (top 11), defScope (top 11), [], []⟩,
 ⟨("_law_mix", none), "_law_mix", "_law_mix", defArgs (top 13), defBody (top 13), defScope (top 13), [], []⟩,
 ⟨("_law_whole", none), "_law_whole", "_law_whole", defArgs (top 14), defBody (top 14), defScope (top 14), [], []⟩,
 ⟨("_law_rows", none), "_law_rows", "_law_rows", defArgs (top 15), defBody (top 15), defScope (top 15), [], []⟩,
 ⟨("_law_shown", none), "_law_shown", "_law_shown", defArgs (top 16), defBody (top 16), defScope (top 16), [], []⟩,
 ⟨("_law_like", none), "_law_like", "_law_like", defArgs (top 17), defBody (top 17), defScope (top 17), [], []⟩,
 ⟨("law", none), "law", "law", defArgs (top 18), defBody (top 18), defScope (top 18), [], []⟩]
def fa : List He.Fa := [.glo "all_in", .glo "read_count", .glo "read_number", .glo "read_row", .glo "read_rows", .glo "shown_row", .glo "shown_rows", .glo "_law_mix", .glo "_law_whole", .glo "_law_rows", .glo "_law_shown", .glo "_law_like", .glo "law", .free "bool", .free "int", .free "isinstance", .free "len", .free "list", .free "range", .free "str", .str "FIGURES" "0123456789", .exc "NoText", .glo "NoText"]
theorem left_of {K : PySem.W.Frag} {h : Heap} {mg : Str → Option Value} (X : K.In h) (G : h.Ns mainGlobals mg) (c : He.SaysD fa fn K) : ∃ fd : Nat → FuncData, Left K mg fd := by
  obtain ⟨fd0, F0⟩ := c.def_ 0 (d := ⟨("all_in", none), "all_in", "all_in", defArgs (top 5), defBody (top 5), defScope (top 5), [], []⟩) rfl
  obtain ⟨fd1, F1⟩ := c.def_ 1 (d := ⟨("read_count", none), "read_count", "read_count", defArgs (top 6), defBody (top 6), defScope (top 6), [], []⟩) rfl
  obtain ⟨fd2, F2⟩ := c.def_ 2 (d := ⟨("read_number", none), "read_number", "read_number", defArgs (top 7), defBody (top 7), defScope (top 7), [], []⟩) rfl
  obtain ⟨fd3, F3⟩ := c.def_ 3 (d := ⟨("read_row", none), "read_row", "read_row", defArgs (top 8), defBody (top 8), defScope (top 8), [], []⟩) rfl
  obtain ⟨fd4, F4⟩ := c.def_ 4 (d := ⟨("read_rows", none), "read_rows", "read_rows", defArgs (top 9), defBody (top 9), defScope (top 9), [], []⟩) rfl
  obtain ⟨fd5, F5⟩ := c.def_ 5 (d := ⟨("shown_row", none), "shown_row", "shown_row", defArgs (top 10), defBody (top 10), defScope (top 10), [], []⟩) rfl
  obtain ⟨fd6, F6⟩ := c.def_ 6 (d := ⟨("shown_rows", none), "shown_rows", "shown_rows", defArgs (top 11), defBody (top 11), defScope (top 11), [], []⟩) rfl
  obtain ⟨fd7, F7⟩ := c.def_ 7 (d := ⟨("_law_mix", none), "_law_mix", "_law_mix", defArgs (top 13), defBody (top 13), defScope (top 13), [], []⟩) rfl
  obtain ⟨fd8, F8⟩ := c.def_ 8 (d := ⟨("_law_whole", none), "_law_whole", "_law_whole", defArgs (top 14), defBody (top 14), defScope (top 14), [], []⟩) rfl
  obtain ⟨fd9, F9⟩ := c.def_ 9 (d := ⟨("_law_rows", none), "_law_rows", "_law_rows", defArgs (top 15), defBody (top 15), defScope (top 15), [], []⟩) rfl
  obtain ⟨fd10, F10⟩ := c.def_ 10 (d := ⟨("_law_shown", none), "_law_shown", "_law_shown", defArgs (top 16), defBody (top 16), defScope (top 16), [], []⟩) rfl
  obtain ⟨fd11, F11⟩ := c.def_ 11 (d := ⟨("_law_like", none), "_law_like", "_law_like", defArgs (top 17), defBody (top 17), defScope (top 17), [], []⟩) rfl
  obtain ⟨fd12, F12⟩ := c.def_ 12 (d := ⟨("law", none), "law", "law", defArgs (top 18), defBody (top 18), defScope (top 18), [], []⟩) rfl
  refine ⟨fun i => ([fd0, fd1, fd2, fd3, fd4, fd5, fd6, fd7, fd8, fd9, fd10, fd11, fd12] : List FuncData).getD i fd0, ⟨⟨He.free_ok X G (c.fact 13 (f := .free "bool") rfl), He.free_ok X G (c.fact 14 (f := .free "int") rfl), He.free_ok X G (c.fact 15 (f := .free "isinstance") rfl), He.free_ok X G (c.fact 16 (f := .free "len") rfl), He.free_ok X G (c.fact 17 (f := .free "list") rfl), He.free_ok X G (c.fact 18 (f := .free "range") rfl), He.free_ok X G (c.fact 19 (f := .free "str") rfl)⟩, He.str_ok X G (c.fact 20 (f := .str "FIGURES" "0123456789") rfl), exc_mk X G (c.fact 21 (f := .exc "NoText") rfl) (c.fact 22 (f := .glo "NoText") rfl), F0, He.glo_ok X G (c.fact 0 (f := .glo "all_in") rfl), F1, He.glo_ok X G (c.fact 1 (f := .glo "read_count") rfl), F2, He.glo_ok X G (c.fact 2 (f := .glo "read_number") rfl), F3, He.glo_ok X G (c.fact 3 (f := .glo "read_row") rfl), F4, He.glo_ok X G (c.fact 4 (f := .glo "read_rows") rfl), F5, He.glo_ok X G (c.fact 5 (f := .glo "shown_row") rfl), F6, He.glo_ok X G (c.fact 6 (f := .glo "shown_rows") rfl), F7, He.glo_ok X G (c.fact 7 (f := .glo "_law_mix") rfl), F8, He.glo_ok X G (c.fact 8 (f := .glo "_law_whole") rfl), F9, He.glo_ok X G (c.fact 9 (f := .glo "_law_rows") rfl), F10, He.glo_ok X G (c.fact 10 (f := .glo "_law_shown") rfl), F11, He.glo_ok X G (c.fact 11 (f := .glo "_law_like") rfl), F12, He.glo_ok X G (c.fact 12 (f := .glo "law") rfl)⟩⟩
abbrev R : PySem.W.OpenRow := PySem.W.OpenLaw.row PySem.Challenge.rw_treewells_k83_rows_as_texts
abbrev hk : PySem.W.Hook := He.hookD 4 fa fn
def ob (s : PySem.W.SharedT) : He.AlD := He.obsDG 4 fa fn (HandSHeadRun.getT s)
theorem ob_eq (s : PySem.W.SharedT) : ob s = hk.obs s.abs := He.obsDG_eq (HandSHeadRun.getT_eq s)
def loose : List PySem.Str := (([PySem.Str.ofString "TreeError", PySem.Str.ofString "NoText", PySem.Str.ofString "all_in", PySem.Str.ofString "read_count", PySem.Str.ofString "read_number", PySem.Str.ofString "read_row", PySem.Str.ofString "read_rows", PySem.Str.ofString "shown_row", PySem.Str.ofString "shown_rows", PySem.Str.ofString "_law_mix", PySem.Str.ofString "_law_whole", PySem.Str.ofString "_law_rows", PySem.Str.ofString "_law_shown", PySem.Str.ofString "_law_like", PySem.Str.ofString "FIGURES"] : List PySem.Str))
theorem run (w : World) : HandSHeadRun.RunEq R (PySem.W.view R.prog [18]) hk ob 9000 loose w := by
  intro os
  kernel_rfl
theorem holds_of (law_true : ∀ ns : List Int, ns.length ≤ 63 → (∀ z ∈ ns, Builtin.Int.intBits z ≤ 1048576) → ∃ ms, (sems defs 40 227).run [.scr ns] = .ok (.bl true, ms)) : PySem.Challenge.rw_treewells_k83_rows_as_texts.Holds := by
  w_on; o_law
  refine HandSHeadRun.head_any (r := PySem.W.OpenLaw.row PySem.Challenge.rw_treewells_k83_rows_as_texts) (q := PySem.W.view (PySem.W.OpenLaw.row PySem.Challenge.rw_treewells_k83_rows_as_texts).prog [18]) (H := hk) (ob := ob) (M := 9000) (loose := loose) (d := HandSHeadRun.topDef (PySem.W.OpenLaw.row PySem.Challenge.rw_treewells_k83_rows_as_texts).prog 18) (kwd := []) ob_eq
    (by kernel_rfl) (fun s => by kernel_rfl) run (by kernel_rfl) (by kernel_rfl) (by kernel_rfl) (by rfl) (by first | assumption | decide +kernel) (by decide +kernel) ⟨rfl, rfl, rfl, rfl, rfl, by decide +kernel⟩ ?hw ?hc
  case hw => w_witness2
  case hc =>
    refine walk_ofEB (l := PySem.Challenge.rw_treewells_k83_rows_as_texts) (n := 63) (k := 161) (x := "_law_script") (CX := fun w => L2.CX PySem.Challenge.rw_treewells_k83_rows_as_texts.prog w) rfl (by decide) (by kernel_rfl) ⟨rfl, by decide, by decide⟩ ?F (fun w H s e s2 z => cx_no w H s e s2 z)
    intro w mg fa h Y G hmg0
    obtain ⟨K, KX, c⟩ := Y
    have hmg : mg ("law" : PySem.Str) = some (.ref fa) := by
      have e : (HandSHeadRun.topDef (PySem.W.OpenLaw.row PySem.Challenge.rw_treewells_k83_rows_as_texts).prog 18).name = ("law" : PySem.Str) := by kernel_rfl
      rw [← e]
      exact hmg0
    obtain ⟨fd, s⟩ := left_of KX G c
    have e := hmg.symm.trans s.g_law
    cases e
    refine ⟨K, fd 12, spF (Cn defs K [] 40) (sems defs 40 227), KX, fun s1 u => FunD.bindsA (ps := ["_law_script"]) s.F_law (fun _ _ _ _ _ _ us hl => match us, hl with | [_], _ => rfl) s1 [u] rfl, fun H a ns hl hb hS => ?_, fun base _ _ => (all s 40).f_law⟩
    obtain ⟨ms, hm⟩ := law_true ns hl hb
    exact law_sp rfl rfl rfl rfl hm hS
end TW

namespace TW
open PySem
theorem sz_of {z : Int} (h : Builtin.Int.intBits z ≤ 1048576) : Sz 1048577 z := by
  unfold Builtin.Int.intBits at h
  unfold Sz
  by_cases e : z = 0
  · subst e; exact Nat.two_pow_pos _
  · rw [if_neg (by simpa using e)] at h
    exact Nat.lt_of_lt_of_le Nat.lt_log2_self (Nat.pow_le_pow_right (by decide) (by omega))
end TW
set_option maxRecDepth 100000 in
set_option maxHeartbeats 1000000 in
theorem PySem.Challenge.cw_treewells_k83_rows_as_texts_holds : PySem.Challenge.rw_treewells_k83_rows_as_texts.Holds := by
  exact TW.holds_of fun ns hl hb => by first | exact ⟨_, TW.M.law83 fun z hz => TW.sz_of (hb z hz)⟩ | exact TW.M.law83 fun z hz => TW.sz_of (hb z hz)

