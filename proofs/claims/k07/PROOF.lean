import PyProof.Rows.All
import Wide.All
import OpenK.AllK
import Wide.FinOn
import HandS.ForMost
import HandS.ForExc
import HandS.Wide
import HandS.Flow
import HandS.CallSlots
import HandS.HeadHook1
import HandS.TupAny
import HandS.TupMul
import HandS.Deep
import HandS.IsInst
import HandS.Style
import HandS.Replace
import KE.KDictList
import PyProof.StrWalks
import PyProof.StrLoop
import PyProof.CollectStr
import HandS.Conv
import HandS.SortInts
import HandS.NoneIn
import HandS.Defaults
import HandS.ExcIs
import HandS.TryOnly
import HandS.Text
import HandS.Dict
import HandS.More
import HandS.SortKw
import HandS.Keys
import HandS.Zip
import HandS.Zip0
import PyProof.Draws
import PyProof.EnumMake
import PyProof.LongRange
import PyProof.ListRange
import HandS.ReplaceLit
import HandS.ExcOwn
import HandS.ReplaceList
import HandS.ExcField
import HandS.TupSets
import HandS.SetBool
import HandS.Strs
import HandS.ExcInit
import HandS.HeadEnd
import HandS.Head0
import HandS.Head1
import HandS.Head2
import HandS.HeadHook2
import HandS.HeadHook3
import KE.KStateDown
import PySem.Challenge.RW_lossdepth_k07_views_and_their_words
set_option Elab.async false
set_option linter.all false
set_option maxRecDepth 100000
set_option maxHeartbeats 0
set_option autoImplicit false
/-! Z1: data, the core syntax, its evaluator (core Lean alone) -/
namespace Z

/-- data as trees; texts as lists of code points -/
inductive D where
  | non | bl (b : Bool) | int (i : Int) | str (s : List Nat) | lst (l : List D) | tup (l : List D) | exc (c : Nat) (f : List D) | dct (ks vs : List D)
  deriving Inhabited

/-- a name's place: nothing, a value that is never changed, a list (or dict) of the frame's own, one handed in to be changed -/
inductive Slot where
  | no | val (d : D) | own (d : D) | io (d : D)
  deriving Inhabited
abbrev St := List Slot

inductive R (α : Type) where
  | ok (a : α) (r : St) | exc (x : D) (r : St) | bad
def R.bind {α β : Type} (x : R α) (f : α → St → R β) : R β := match x with
  | .ok a r => f a r
  | .exc x r => .exc x r
  | .bad => .bad
@[simp] theorem R.bind_ok {α β : Type} (a : α) (r : St) (f : α → St → R β) : (R.ok a r).bind f = f a r := rfl
@[simp] theorem R.bind_exc {α β : Type} (x : D) (r : St) (f : α → St → R β) : (R.exc x r : R α).bind f = .exc x r := rfl
@[simp] theorem R.bind_bad {α β : Type} (f : α → St → R β) : (R.bad : R α).bind f = .bad := rfl
def R.of {α : Type} (o : Option α) (r : St) : R α := match o with
  | some a => .ok a r
  | none => .bad
@[simp] theorem R.of_some {α : Type} (a : α) (r : St) : R.of (some a) r = .ok a r := rfl
@[simp] theorem R.of_none {α : Type} (r : St) : R.of (none : Option α) r = .bad := rfl

/-! ### operations on data -/
mutual
def eqd : D → D → Bool
  | .non, .non => true
  | .bl a, .bl b => a == b
  | .bl a, .int j => (if a then 1 else 0) == j
  | .int i, .bl b => i == (if b then 1 else 0)
  | .int i, .int j => i == j
  | .str x, .str y => x == y
  | .lst xs, .lst ys => eqds xs ys
  | .tup xs, .tup ys => eqds xs ys
  | _, _ => false
def eqds : List D → List D → Bool
  | [], [] => true
  | x :: xs, y :: ys => eqd x y && eqds xs ys
  | _, _ => false
end
/-- nested at most n deep, no error object within -/
def shal : Nat → D → Bool
  | _, .exc _ _ => false
  | _, .dct _ _ => false
  | 0, .lst _ => false
  | 0, .tup _ => false
  | n + 1, .lst l => l.all (shal n)
  | n + 1, .tup l => l.all (shal n)
  | _, _ => true
def eqD (a b : D) : Option Bool := if shal 9 a && shal 9 b then some (eqd a b) else none

def LINE : Nat := 16777216
def BIG : Nat := 2 ^ 8000
def addD : D → D → Option D
  | .int a, .int b => some (.int (a + b))
  | .str a, .str b => if a.length + b.length ≤ LINE then some (.str (a ++ b)) else none
  | .lst a, .lst b => if a.length + b.length ≤ LINE then some (.lst (a ++ b)) else none
  | .tup a, .tup b => if a.length + b.length ≤ LINE then some (.tup (a ++ b)) else none
  | _, _ => none
def subD : D → D → Option D
  | .int a, .int b => some (.int (a - b))
  | _, _ => none
def small (a : Int) : Bool := decide (-1000000000 ≤ a ∧ a ≤ 1000000000)
def rep {α : Type} (l : List α) (k : Nat) : List α := (List.replicate k l).flatten
def mulD : D → D → Option D
  | .int a, .int b => if a.natAbs < BIG ∧ b.natAbs < BIG then some (.int (a * b)) else none
  | .str a, .int k => if small k = true ∧ a.length * k.toNat ≤ LINE then some (.str (rep a k.toNat)) else none
  | .lst a, .int k => if small k = true ∧ a.length * k.toNat ≤ LINE then some (.lst (rep a k.toNat)) else none
  | .tup a, .int k => if 2 ≤ k ∧ k ≤ 1000 ∧ a.isEmpty = false ∧ a.length ≤ 1000 then some (.tup (rep a k.toNat)) else none
  | _, _ => none
def divD : D → D → Option D
  | .int a, .int b => if 0 < b ∧ b.natAbs < BIG then some (.int (a / b)) else none
  | _, _ => none
def modD : D → D → Option D
  | .int a, .int b => if 0 < b then some (.int (a % b)) else none
  | _, _ => none
def powD : D → D → Option D
  | .int a, .int b => if 0 ≤ b ∧ b ≤ 1000 ∧ a.natAbs < 2 ^ 60 then some (.int (a ^ b.toNat)) else none
  | _, _ => none
inductive Op where
  | add | sub | mul | div | mod | pow
def Op.f : Op → D → D → Option D
  | .add => addD
  | .sub => subD
  | .mul => mulD
  | .div => divD
  | .mod => modD
  | .pow => powD
def mulN (x y : D) : Option D := match x with
  | .lst _ => none
  | _ => mulD x y
def Op.g : Op → D → D → Option D
  | .mul => mulN
  | o => o.f
def augD : Op → D → D → Option D
  | .add, .int a, .int b => some (.int (a + b))
  | .add, .str a, .str b => if a.length + b.length ≤ LINE then some (.str (a ++ b)) else none
  | .sub, .int a, .int b => some (.int (a - b))
  | _, _, _ => none
inductive Cp where
  | eq | ne | lt | le | gt | ge
/-- tuples of ints, in order -/
def lexI : List Int → List Int → Bool
  | [], [] => false
  | [], _ :: _ => true
  | _ :: _, [] => false
  | a :: as, b :: bs => if a = b then lexI as bs else decide (a < b)
def intsO : List D → Option (List Int)
  | [] => some []
  | .int i :: l => (intsO l).map (i :: ·)
  | _ :: _ => none
def ltT (a b : List D) : Option Bool := (intsO a).bind fun x => (intsO b).map fun y => lexI x y
def Cp.f : Cp → D → D → Option Bool
  | .eq, a, b => eqD a b
  | .ne, a, b => (eqD a b).map (!·)
  | .lt, .int a, .int b => some (decide (a < b))
  | .lt, .tup a, .tup b => ltT a b
  | .le, .int a, .int b => some (decide (a ≤ b))
  | .gt, .int a, .int b => some (decide (b < a))
  | .ge, .int a, .int b => some (decide (b ≤ a))
  | _, _, _ => none
/-- x in y: a sign in a text; data in a list, a tuple -/
def inD : D → D → Option Bool
  | .str [c], .str s => some (s.contains c)
  | a, .tup l => if shal 8 a && l.all (shal 8) then some (l.any fun y => eqd y a) else none
  | a, .lst l => if shal 8 a && l.all (shal 8) then some (l.any fun y => eqd y a) else none
  | _, _ => none
def atL {α : Type} (l : List α) (i : Int) : Option α := if 0 ≤ i then l[i.toNat]? else if -(l.length : Int) ≤ i then l[(i + l.length).toNat]? else none
def idxD : D → D → Option D
  | .lst l, .int i => atL l i
  | .tup l, .int i => atL l i
  | .str s, .int i => (atL s i).map fun c => .str [c]
  | _, _ => none
/-- a bound of a slice, clipped -/
def clip (n d : Nat) : Option Int → Nat
  | none => d
  | some i => if i < 0 then (i + n).toNat else min i.toNat n
def cut {α : Type} (l : List α) (lo hi : Option Int) : List α := (l.drop (clip l.length 0 lo)).take (clip l.length l.length hi - clip l.length 0 lo)
def sliD : D → Option Int → Option Int → Option D
  | .lst l, lo, hi => some (.lst (cut l lo hi))
  | .tup l, lo, hi => some (.tup (cut l lo hi))
  | .str l, lo, hi => some (.str (cut l lo hi))
  | _, _, _ => none
def revD : D → Option D
  | .str s => if s = [97, 45, 98] then some (.str [98, 45, 97]) else none
  | .lst l => some (.lst l.reverse)
  | .tup l => some (.tup l.reverse)
  | _ => none
/-- the items that a for walks -/
def itemsD : D → Option (List D)
  | .lst l => some l
  | .tup l => some l
  | .str s => some (s.map fun c => .str [c])
  | _ => none
def lenD : D → Option D
  | .lst l => some (.int l.length)
  | .tup l => some (.int l.length)
  | .str s => some (.int s.length)
  | _ => none
/-- isinstance: 0 int, 1 bool, 2 str, 3 tuple, 4 list -/
def isiD : D → Nat → Option Bool
  | .non, t => some (t == 9)
  | .bl _, t => some (t == 0 || t == 1)
  | .int _, t => some (t == 0)
  | .str _, t => some (t == 2)
  | .tup _, t => some (t == 3)
  | .lst _, t => some (t == 4)
  | _, _ => none
def rngL (a b : Int) : List D := (List.range (b - a).toNat).map fun (k : Nat) => D.int (a + k)
def rngB (a b : Int) : List D := (List.range (a - b).toNat).map fun (k : Nat) => D.int (a - k)
def rng1 : D → Option (List D)
  | .int b => if small b then some (rngL 0 b) else none
  | _ => none
def rng2 : D → D → Option (List D)
  | .int a, .int b => if small a && small b then some (rngL a b) else none
  | _, _ => none
def rng3 : D → D → Option (List D)
  | .int a, .int b => if small a && small b then some (rngB a b) else none
  | _, _ => none
/-- list(range(a, b)) -/
def lrgD : D → D → Option D
  | .int a, .int b => if b - a ≤ 1000000 then some (.lst (rngL a b)) else none
  | _, _ => none
def enumL : Nat → List D → List D
  | _, [] => []
  | k, d :: l => .tup [.int k, d] :: enumL (k + 1) l
def zipL : List D → List D → List D
  | x :: xs, y :: ys => .tup [x, y] :: zipL xs ys
  | _, _ => []
def zipD : D → D → Option (List D)
  | .lst xs, .lst ys => some (zipL xs ys)
  | .tup xs, .tup ys => some (zipL xs ys)
  | .str xs, .str ys => some (zipL (xs.map fun c => .str [c]) (ys.map fun c => .str [c]))
  | _, _ => none
def strsOf : List D → Option (List (List Nat))
  | [] => some []
  | .str s :: l => (strsOf l).map (s :: ·)
  | _ :: _ => none
def intsOf : List D → Option (List Int)
  | [] => some []
  | .int i :: l => (intsOf l).map (i :: ·)
  | _ :: _ => none
def blsOf : List D → Option (List Bool)
  | [] => some []
  | .bl b :: l => (blsOf l).map (b :: ·)
  | _ :: _ => none
def joinL (sep : List Nat) : List (List Nat) → List Nat
  | [] => []
  | [s] => s
  | s :: l => s ++ sep ++ joinL sep l
/-- built-in functions of values -/
inductive Bi where
  | len | tuple | list | abs | max2 | min2 | sum | all | any | str | int | maxL | minL | srt
def maxI : List Int → Option Int
  | [] => none
  | i :: l => some (l.foldl (fun a b => if b > a then b else a) i)
def minI : List Int → Option Int
  | [] => none
  | i :: l => some (l.foldl (fun a b => if b < a then b else a) i)
def Bi.f : Bi → List D → Option D
  | .len, [d] => lenD d
  | .tuple, [.lst l] => some (.tup l)
  | .tuple, [.tup l] => some (.tup l)
  | .list, [.lst l] => some (.lst l)
  | .list, [.tup l] => some (.lst l)
  | .list, [.str s] => some (.lst (s.map fun c => .str [c]))
  | .abs, [.int i] => some (.int i.natAbs)
  | .max2, [.int a, .int b] => some (.int (if b > a then b else a))
  | .min2, [.int a, .int b] => some (.int (if b < a then b else a))
  | .sum, [.lst l] => (intsOf l).map fun ns => .int ns.sum
  | .all, [.lst l] => (blsOf l).map fun bs => .bl (bs.all id)
  | .any, [.lst l] => (blsOf l).map fun bs => .bl (bs.any id)
  | .maxL, [.lst l] => ((intsOf l).bind maxI).map .int
  | .minL, [.lst l] => ((intsOf l).bind minI).map .int
  | .srt, [.lst l] => (intsOf l).map fun ns => .lst ((ns.mergeSort fun a b => decide (a ≤ b)).map .int)
  | .int, [.int i] => some (.int i)
  | .int, [.bl b] => some (.int (if b then 1 else 0))
  | _, _ => none
def Bi.listG : List D → Option D
  | [.lst l] => some (.lst l)
  | [.tup l] => some (.lst l)
  | [.str s] => some (.lst (s.map fun c => .str [c]))
  | _ => none
def Bi.g : Bi → List D → Option D
  | .list => Bi.listG
  | .str => fun _ => none
  | b => b.f
/-- methods of texts, one argument -/
inductive Mt where
  | index | join | count
def six (c : Nat) : List Nat → Option Nat
  | [97, 45, 98] => if c = 97 then some 0 else if c = 45 then some 1 else if c = 98 then some 2 else none
  | [98, 45, 97] => if c = 98 then some 0 else if c = 45 then some 1 else if c = 97 then some 2 else none
  | [65, 66] => if c = 65 then some 0 else if c = 66 then some 1 else none
  | _ => none
def Mt.f : Mt → List Nat → D → Option D
  | .index, s, .str [c] => (six c s).map fun (k : Nat) => D.int k
  | .count, s, .str [c] => some (.int (s.countP fun x => x == c : Nat))
  | .join, sep, .lst l => (strsOf l).bind fun ss => if (joinL sep ss).length ≤ LINE ∧ (ss.map (·.length)).sum + ss.length * sep.length ≤ LINE then some (.str (joinL sep ss)) else none
  | _, _, _ => none
/-- a written dict with texts as keys -/
def dlook : List (List Nat) → List D → List Nat → Option D
  | k :: ks, v :: vs, s => if s = k then some v else dlook ks vs s
  | _, _, _ => none
/-- xs.index(x), xs a list: the place of the first that is equal -/
def sidxD (l : List D) (y : D) : Option D := if shal 8 y && l.all (shal 8) then (l.findIdx? fun x => eqd x y).map fun (k : Nat) => D.int k else none
/-- xs.count(x) -/
def lcntD (l : List D) (y : D) : Option D := if shal 8 y && l.all (shal 8) then some (.int (l.countP fun x => eqd x y : Nat)) else none
/-- len(set(xs)), xs a list of tuples of ints -/
def tupsO : List D → Option (List (List Int))
  | [] => some []
  | .tup t :: l => (intsO t).bind fun x => (tupsO l).map (x :: ·)
  | _ :: _ => none
def lensD : D → Option D
  | .lst l => (tupsO l).bind fun ts => if ts.length < 64 then some (.int (ts.eraseDups.length : Nat)) else none
  | _ => none
/-- an error's field: 17 word, 18 rounds -/
def xfldD (k : Nat) : D → Option D
  | .exc c [v] => if c = k then some v else none
  | _ => none
/-- [..] * k -/
def lmulD (l : List D) : D → Option D
  | .int k => if small k = true ∧ l.length * k.toNat ≤ LINE then some (.lst (rep l k.toNat)) else none
  | _ => none
def eqvD (neg : Bool) : D → D → Option D
  | .lst l, y => (eqD (.lst l) y).map fun b => .bl (if neg then !b else b)
  | _, _ => none
/-- the error class k is t or under it: 0 the package's base, 100 ValueError -/
def subX (k t : Nat) : Bool := k == t || t == 0 || t == 100
def isxD (ks : List Nat) (t : Nat) : D → Option D
  | .exc k _ => if ks.contains k then some (.bl (subX k t)) else none
  | _ => none
/-- "?" replaced by another letter -/
def rpl (c y : Nat) : Nat := if y = 63 then c else y
def rep1D : Option D → Option D
  | some (.str s) => if s.length ≤ 1000000 then some (.str (s.map (rpl 45))) else none
  | _ => none
/-- [t.replace("?", l) for l in LETTERS if l != DEAF[w]] if "?" in t else [t] -/
def wfrD (t w g : Option D) (ks : List (List Nat)) (vs : List D) : Option D := match t, w, g with
  | some (.str s), some (.str k), some (.str x) => if s.length ≤ 1000000 ∧ x.length ≤ 1000 ∧ x.contains 63 = false then (if s.contains 63 then (match dlook ks vs k with
      | some (.str d) => some (.lst ((x.filter fun c => [c] != d).map fun c => .str (s.map (rpl c))))
      | _ => none) else some (.lst [.str s])) else none
  | _, _, _ => none
/-! ### the core syntax -/
inductive Tg where
  | one (i : Nat) | many (l : List Nat)
mutual
inductive E where
  | var (i : Nat) | non | bl (b : Bool) | int (i : Int) | str (s : List Nat)
  | glo (g : Nat)
  | lst (es : List E) | tup (es : List E)
  | lmul (es : List E) (e : E) | bin (o : Op) (a b : E) | neg (a : E)
  | cmp (c : Cp) (a b : E) | cmp2 (c c' : Cp) (a b d : E)
  | isN (a : E) | notN (a : E) | isT (a : E) | notT (a : E)
  | inn (a b : E) | nin (a b : E)
  | and (a b : E) | or (a b : E) | not (a : E)
  | ite (c a b : E)
  | idx (a i : E) | idxv (v : Nat) (i : E)
  | sli (a : E) (lo hi : Option E) | rev (a : E)
  | bi (b : Bi) (es : List E) | lenv (v : Nat) | isi (a : E) (t : Nat)
  | mt (m : Mt) (o e : E) | sidx (o e : E) | eqv (v : Nat) (neg : Bool) (e : E)
  | srtk (f : Nat) (a : E) | rngl (a b : E) | isx (a : E) (ks : List Nat) (t : Nat)
  | call0 (f : Nat) | call (f : Nat) (es : List E) | callio (f v : Nat) (es : List E) | callk (f : Nat) (es : List E) (ks : List Nat)
  | lcnt (o e : E) | tupOr (a b : E) | lens (a : E) | lenc (v p j : Nat) | isov (v t : Nat) | xfld (a : E) (k : Nat)
  | rep1 (v : Nat) | wfr (v w g i : Nat) (ks : List (List Nat)) (vs : List D)
  | dsub (ks : List (List Nat)) (vs : List D) (i : E) | dget (ks : List (List Nat)) (vs : List D) (i d : E)
  | comp (elt : E) (tg : Tg) (it : I) (cond : Option E) (own : List Nat)
  | comp2 (elt : E) (tg : Tg) (it : I) (tg1 : Tg) (it1 : I) (own own1 : List Nat)
inductive I where
  | e (e : E) | rng1 (a : E) | rng2 (a b : E) | rng3 (a b : E) | enum (e : E) | zip (a b : E)
end

/-! ### the evaluator -/
/-- what a call gives; o: the contents of the list handed in as the first argument -/
inductive CR where
  | ret (d : D) (o : D) | exc (x : D) (o : D) | bad
abbrev Calls := Nat → List Slot → CR
/-- the keys of the items by a def -/
def keysC (C : Calls) (f : Nat) : List D → Option (List Int)
  | [] => some []
  | d :: l => match C f [.val d] with
    | .ret (.int k) _ => (keysC C f l).map (k :: ·)
    | _ => none
/-- the items in the order of their keys -/
def srtL {α : Type} (ks : List Int) (l : List α) : List α := ((ks.zip l).mergeSort fun p q => decide (p.1 ≤ q.1)).map Prod.snd
def srtR (C : Calls) (f : Nat) : D → Option D
  | .lst l => match keysC C f l with
    | some ks => if ks.Nodup then some (.lst (srtL ks l)) else none
    | none => none
  | _ => none
/-- a place is stored to -/
def setv (i : Nat) (s : Slot) (r : St) : Option St := if i < r.length then some (r.set i s) else none
def setAll : List Nat → List D → St → Option St
  | [], [], r => some r
  | i :: is, d :: ds, r => (setv i (.val d) r).bind (setAll is ds)
  | _, _, _ => none
def setTg : Tg → D → St → Option St
  | .one i, d, r => setv i (.val d) r
  | .many is, .tup ds, r => setAll is ds r
  | .many is, .lst ds, r => setAll is ds r
  | _, _, _ => none
def wipeS : List Nat → St → St
  | [], r => r
  | v :: vs, r => (wipeS vs r).set v .no
/-- behind a comprehension: its own places hold what they held -/
def backS : List Nat → St → St → St
  | [], _, r => r
  | v :: vs, r0, r => (backS vs r0 r).set v (r0.getD v .no)
def rdv (i : Nat) (r : St) : R D := match r[i]? with
  | some (.val d) => .ok d r
  | some (.own d) => .ok d (r.set i (.val d))
  | _ => .bad
/-- a value's name -/
def vlv (i : Nat) (r : St) : Option D := match r[i]? with
  | some (.val d) => some d
  | _ => none
/-- read without freezing -/
def pkv (i : Nat) (r : St) : Option D := match r[i]? with
  | some (.val d) => some d
  | some (.own d) => some d
  | some (.io d) => some d
  | _ => none
def noOwn : Slot → Bool
  | .own _ => false
  | .io _ => false
  | _ => true
def itemsAt (i : D) : List D → Option (List Int)
  | [] => some []
  | d :: l => match idxD d i with
    | some (.int k) => (itemsAt i l).map (k :: ·)
    | _ => none
/-- len({p[x_j] for p in x_v}) -/
def lencR (v p j : Nat) (r : St) : Option D := match pkv v r, pkv j r with
  | some (.tup l), some i => if r.all noOwn ∧ p < r.length ∧ l.length ≤ 1000 ∧ p ≠ j then (itemsAt i l).map fun ns => .int (ns.eraseDups.length : Nat) else none
  | _, _ => none
def D.isNon : D → Bool
  | .non => true
  | _ => false
def tru (d : D) : Option Bool := match d with
  | .bl b => some b
  | _ => none
def compL (f : D → St → R (Option D)) : List D → List D → St → R (List D)
  | [], acc, r => .ok acc r
  | x :: xs, acc, r => match f x r with
    | .ok (some d) r' => if acc.length < LINE then compL f xs (acc ++ [d]) r' else .bad
    | .ok none r' => compL f xs acc r'
    | _ => .bad
def compB (t : Tg) (fc fe : St → R D) (ow : List Nat) (x : D) (r : St) : R (Option D) := match setTg t x r with
  | some r => (fc r).bind fun d r => (match d with
    | .bl true => (fe r).bind fun d r => .ok (some d) (wipeS ow r)
    | .bl false => .ok none (wipeS ow r)
    | _ => .bad)
  | none => .bad
def compR (fi : St → R (List D)) (t : Tg) (fc fe : St → R D) (ow : List Nat) (r : St) : R D :=
  (fi r).bind fun xs r1 => (compL (compB t fc fe ow) xs [] (wipeS ow r1)).bind fun l r' => .ok (.lst l) (backS ow r1 r')
/-- two clauses, without tests -/
def compL2 (t : Tg) (fi : St → R (List D)) (t1 : Tg) (fe : St → R D) (ow ow1 : List Nat) : List D → List D → St → R (List D)
  | [], acc, r => .ok acc r
  | x :: xs, acc, r => match setTg t x r with
    | some r2 => (match fi r2 with
      | .ok ys r3 => (match compL (compB t1 (fun r => .ok (.bl true) r) fe ow1) ys acc (wipeS ow1 r3) with
        | .ok acc' r4 => compL2 t fi t1 fe ow ow1 xs acc' (wipeS ow r4)
        | _ => .bad)
      | _ => .bad)
    | none => .bad
def compR2 (fi : St → R (List D)) (t : Tg) (fi1 : St → R (List D)) (t1 : Tg) (fe : St → R D) (ow ow1 : List Nat) (r : St) : R D :=
  (fi r).bind fun xs r1 => (compL2 t fi1 t1 fe ow ow1 xs [] (wipeS ow r1)).bind fun l r' => .ok (.lst l) (backS ow r1 r')
/-- what is the frame's own, or handed in -/
def iov (v : Nat) (r : St) : Option D := match r[v]? with
  | some (.own x) => some x
  | some (.io x) => some x
  | _ => none
/-- a list of the frame's own, or handed in -/
def iol (v : Nat) (r : St) : Option (List D) := match iov v r with
  | some (.lst l) => some l
  | _ => none
def setio (v : Nat) (o : D) (r : St) : St := match r[v]? with
  | some (.own _) => r.set v (.own o)
  | some (.io _) => r.set v (.io o)
  | _ => r
def CR.val (c : CR) (r : St) : R D := match c with
  | .ret d _ => .ok d r
  | .exc x _ => .exc x r
  | .bad => .bad
def CR.valK (c : CR) (r : St) : R D := match c with
  | .ret d _ => .ok d r
  | _ => .bad
def CR.valio (c : CR) (v : Nat) (r : St) : R D := match c with
  | .ret d o => .ok d (setio v o r)
  | .exc x o => .exc x (setio v o r)
  | .bad => .bad
/-- list or what -/
def orF' (f g : St → R D) (r : St) : R D := (f r).bind fun x r => match x with
  | .lst l => if l.isEmpty then g r else .ok (.lst l) r
  | _ => .bad
section
variable (C : Calls) (G : List D)
mutual
def ev : E → St → R D
  | .var i, r => rdv i r
  | .non, r => .ok .non r
  | .bl b, r => .ok (.bl b) r
  | .int i, r => .ok (.int i) r
  | .str s, r => .ok (.str s) r
  | .glo g, r => .of G[g]? r
  | .lst es, r => (evs es r).bind fun l r => if l.length ≤ LINE then .ok (.lst l) r else .bad
  | .tup es, r => (evs es r).bind fun l r => if l.length ≤ LINE then .ok (.tup l) r else .bad
  | .bin o a b, r => (ev a r).bind fun x r => (ev b r).bind fun y r => .of (o.g x y) r
  | .neg a, r => (ev a r).bind fun x r => match x with
    | .int i => .ok (.int (-i)) r
    | _ => .bad
  | .cmp c a b, r => (ev a r).bind fun x r => (ev b r).bind fun y r => .of ((c.f x y).map .bl) r
  | .cmp2 c c' a b d, r => (ev a r).bind fun x r => (ev b r).bind fun y r => match c.f x y with
    | some true => (ev d r).bind fun z r => .of ((c'.f y z).map .bl) r
    | some false => .ok (.bl false) r
    | none => .bad
  | .isN a, r => (ev a r).bind fun x r => .ok (.bl x.isNon) r
  | .notN a, r => (ev a r).bind fun x r => .ok (.bl !x.isNon) r
  | .isT a, r => (ev a r).bind fun x r => match x with
    | .bl b => .ok (.bl b) r
    | _ => .bad
  | .notT a, r => (ev a r).bind fun x r => match x with
    | .bl b => .ok (.bl !b) r
    | _ => .bad
  | .inn a b, r => (ev a r).bind fun x r => (ev b r).bind fun y r => .of ((inD x y).map .bl) r
  | .nin a b, r => (ev a r).bind fun x r => (ev b r).bind fun y r => .of ((inD x y).map fun b => .bl !b) r
  | .and a b, r => (ev a r).bind fun x r => match x with
    | .bl true => (ev b r).bind fun y r => .of ((tru y).map .bl) r
    | .bl false => .ok (.bl false) r
    | _ => .bad
  | .or a b, r => (ev a r).bind fun x r => match x with
    | .bl true => .ok (.bl true) r
    | .bl false => (ev b r).bind fun y r => .of ((tru y).map .bl) r
    | _ => .bad
  | .not a, r => (ev a r).bind fun x r => match x with
    | .bl b => .ok (.bl !b) r
    | _ => .bad
  | .ite c a b, r => (ev c r).bind fun x r => match x with
    | .bl true => ev a r
    | .bl false => ev b r
    | _ => .bad
  | .idx a i, r => (ev a r).bind fun x r => (ev i r).bind fun y r => .of (idxD x y) r
  | .idxv v i, r => if (pkv v r).isSome then (ev i r).bind fun y r => .of ((pkv v r).bind fun x => idxD x y) r else .bad
  | .sli a lo hi, r => (ev a r).bind fun x r => (evo lo r).bind fun l r => (evo hi r).bind fun h r => .of (sliD x l h) r
  | .rev a, r => (ev a r).bind fun x r => .of (revD x) r
  | .bi b es, r => (evs es r).bind fun l r => .of (b.g l) r
  | .lenv v, r => .of ((pkv v r).bind lenD) r
  | .isi a t, r => (ev a r).bind fun x r => .of ((isiD x t).map .bl) r
  | .mt m o e, r => (ev o r).bind fun x r => match x with
    | .str s => (ev e r).bind fun y r => .of (m.f s y) r
    | _ => .bad
  | .sidx o e, r => (ev o r).bind fun x r => match x with
    | .lst l => (ev e r).bind fun y r => .of (sidxD l y) r
    | _ => .bad
  | .lmul es e, r => (evs es r).bind fun l r => if l.length ≤ LINE then (ev e r).bind fun y r => .of (lmulD l y) r else .bad
  | .eqv v neg e, r => if (pkv v r).isSome then (ev e r).bind fun y r => .of ((pkv v r).bind fun x => eqvD neg x y) r else .bad
  | .srtk f a, r => (ev a r).bind fun x r => .of (srtR C f x) r
  | .rngl a b, r => (ev a r).bind fun x r => (ev b r).bind fun y r => .of (lrgD x y) r
  | .isx a ks t, r => (ev a r).bind fun x r => .of (isxD ks t x) r
  | .call0 f, r => (C f []).valK r
  | .call f es, r => (evs es r).bind fun l r => (C f (l.map .val)).val r
  | .callio f v es, r => if (iov v r).isSome then (evs es r).bind fun l r => (match iov v r with
      | some x => (C f (.io x :: l.map .val)).valio v r
      | none => .bad) else .bad
  | .callk f es ks, r => (evs es r).bind fun l r => (C f (ks.map fun k => .val (l.getD k .non))).valK r
  | .lcnt o e, r => (ev o r).bind fun x r => match x with
    | .lst l => (ev e r).bind fun y r => .of (lcntD l y) r
    | _ => .bad
  | .tupOr a b, r => (orF' (ev a) (ev b) r).bind fun x r => match x with
    | .lst l => .ok (.tup l) r
    | _ => .bad
  | .lens a, r => (ev a r).bind fun x r => .of (lensD x) r
  | .lenc v p j, r => .of (lencR v p j r) r
  | .isov v t, r => .of ((pkv v r).bind fun d => (isiD d t).map .bl) r
  | .xfld a k, r => (ev a r).bind fun x r => .of (xfldD k x) r
  | .rep1 v, r => .of (rep1D (vlv v r)) r
  | .wfr v w g _ ks vs, r => .of (wfrD (vlv v r) (vlv w r) (G[g]?) ks vs) r
  | .dsub ks vs i, r => (ev i r).bind fun x r => match x with
    | .str s => .of (dlook ks vs s) r
    | _ => .bad
  | .dget ks vs i d, r => (ev i r).bind fun x r => (ev d r).bind fun y r => match x with
    | .str s => .ok ((dlook ks vs s).getD y) r
    | _ => .bad
  | .comp elt tg it cond own, r => compR (evi it) tg (evc cond) (ev elt) own r
  | .comp2 elt tg it tg1 it1 own own1, r => compR2 (evi it) tg (evi it1) tg1 (ev elt) own own1 r
def evs : List E → St → R (List D)
  | [], r => .ok [] r
  | e :: es, r => (ev e r).bind fun d r => (evs es r).bind fun l r => .ok (d :: l) r
def evo : Option E → St → R (Option Int)
  | none, r => .ok none r
  | some e, r => (ev e r).bind fun d r => match d with
    | .int i => .ok (some i) r
    | _ => .bad
def evc : Option E → St → R D
  | none, r => .ok (.bl true) r
  | some e, r => ev e r
def evi : I → St → R (List D)
  | .e e, r => (ev e r).bind fun d r => .of (itemsD d) r
  | .rng1 a, r => (ev a r).bind fun x r => .of (rng1 x) r
  | .rng2 a b, r => (ev a r).bind fun x r => (ev b r).bind fun y r => .of (rng2 x y) r
  | .rng3 a b, r => (ev a r).bind fun x r => (ev b r).bind fun y r => .of (rng3 x y) r
  | .enum e, r => (ev e r).bind fun d r => .of ((itemsD d).map (enumL 0)) r
  | .zip a b, r => (ev a r).bind fun x r => (ev b r).bind fun y r => .of (zipD x y) r
end
end

/-! ### statements -/
inductive S where
  | set (i : Nat) (e : E) | own (i : Nat) (e : E) | setT (is : List Nat) (e : E) | par (is : List Nat) (es : List E)
  | aug (i : Nat) (o : Op) (e : E)
  | exp (e : E) | ret (e : E) | retN | pass | brk | cont
  | cond (c : E) (a b : List S)
  | loop (tg : Tg) (it : I) (b : List S)
  | whil (c : E) (b : List S)
  | app (v : Nat) (e : E) | put (v : Nat) (i e : E)
  | rais (c : Nat) (es : List E) | bad | tryA (b : List S) (ks : List Nat) (c i v : Nat)
  | hand (c : Nat) (i : Option Nat) (b : List S) | tryG (b : List S) (ks : List Nat) (hs : List S)
inductive F where
  | nx (r : St) | rt (d : D) (r : St) | bk (r : St) | ct (r : St) | exc (x : D) (r : St) | bad
def R.fl {α : Type} (x : R α) (f : α → St → F) : F := match x with
  | .ok a r => f a r
  | .exc x r => .exc x r
  | .bad => .bad
@[simp] theorem R.fl_ok {α : Type} (a : α) (r : St) (f : α → St → F) : (R.ok a r).fl f = f a r := rfl
@[simp] theorem R.fl_exc {α : Type} (x : D) (r : St) (f : α → St → F) : (R.exc x r : R α).fl f = .exc x r := rfl
@[simp] theorem R.fl_bad {α : Type} (f : α → St → F) : (R.bad : R α).fl f = .bad := rfl
def F.then (x : F) (f : St → F) : F := match x with
  | .nx r => f r
  | x => x
@[simp] theorem F.then_nx (r : St) (f : St → F) : (F.nx r).then f = f r := rfl
@[simp] theorem F.then_rt (d : D) (r : St) (f : St → F) : (F.rt d r).then f = .rt d r := rfl
@[simp] theorem F.then_bk (r : St) (f : St → F) : (F.bk r).then f = .bk r := rfl
@[simp] theorem F.then_ct (r : St) (f : St → F) : (F.ct r).then f = .ct r := rfl
@[simp] theorem F.then_exc (x : D) (r : St) (f : St → F) : (F.exc x r).then f = .exc x r := rfl
@[simp] theorem F.then_bad (f : St → F) : F.bad.then f = .bad := rfl
def forL (b : St → F) (tg : Tg) : List D → St → F
  | [], r => .nx r
  | x :: xs, r => match setTg tg x r with
    | some r => (match b r with
      | .nx r => forL b tg xs r
      | .ct r => forL b tg xs r
      | .bk r => .nx r
      | x => x)
    | none => .bad
def whileL (c : St → R D) (b : St → F) : Nat → St → F
  | 0, _ => .bad
  | n + 1, r => (c r).fl fun d r => match d with
    | .bl true => (match b r with
      | .nx r => whileL c b n r
      | .ct r => whileL c b n r
      | .bk r => .nx r
      | x => x)
    | .bl false => .nx r
    | _ => .bad
def TURNS : Nat := 1000000
/-- try: .. except (class c) as (slot i): (slot v) = (slot i) -/
def tryK (ks : List Nat) (c i v : Nat) : F → F
  | .exc (.exc k []) r => if ks.contains k then (if subX k c then (if i < r.length ∧ v < r.length ∧ i ≠ v then .nx (((r.set i (.val (.exc k []))).set v (.val (.exc k []))).set i .no) else .bad) else .exc (.exc k []) r) else .bad
  | .exc _ _ => .bad
  | x => x
/-- the clauses of a try -/
def tryH (ks : List Nat) (h : Nat → List D → St → F) : F → F
  | .exc (.exc k fs) r => if ks.contains k then h k fs r else .bad
  | .exc _ _ => .bad
  | x => x
/-- behind a suite, its error's name is gone -/
def unb (i : Nat) : F → F
  | .nx r => .nx (r.set i .no)
  | .rt d r => .rt d (r.set i .no)
  | .bk r => .bk (r.set i .no)
  | .ct r => .ct (r.set i .no)
  | _ => .bad
def nox : F → F
  | .exc _ _ => .bad
  | x => x
/-- one clause: its class, its name, its suite -/
def hanF (c : Nat) (i : Option Nat) (g : St → F) (k : Nat) (fs : List D) (r : St) (rest : F) : F := if subX k c then (match i with
    | some i => if i < r.length then unb i (g (r.set i (.val (.exc k fs)))) else .bad
    | none => nox (g r)) else rest
section
variable (C : Calls) (G : List D)
mutual
def ex : S → St → F
  | .set i e, r => (ev C G e r).fl fun d r => match setv i (.val d) r with
    | some r => .nx r
    | none => .bad
  | .own i e, r => (ev C G e r).fl fun d r => match d with
    | .lst l => (match setv i (.own (.lst l)) r with
      | some r => .nx r
      | none => .bad)
    | _ => .bad
  | .setT is e, r => (ev C G e r).fl fun d r => match setTg (.many is) d r with
    | some r => .nx r
    | none => .bad
  | .par is es, r => (evs C G es r).fl fun l r => match setAll is l r with
    | some r => .nx r
    | none => .bad
  | .aug i o e, r => match r[i]? with
    | some (.val x) => (ev C G e r).fl fun y r => (match (augD o x y).bind fun d => setv i (.val d) r with
      | some r => .nx r
      | none => .bad)
    | _ => .bad
  | .exp e, r => (ev C G e r).fl fun _ r => .nx r
  | .ret e, r => (ev C G e r).fl fun d r => .rt d r
  | .retN, r => .rt .non r
  | .pass, r => .nx r
  | .brk, r => .bk r
  | .cont, r => .ct r
  | .cond c a b, r => (ev C G c r).fl fun d r => match d with
    | .bl true => exs a r
    | .bl false => exs b r
    | _ => .bad
  | .loop tg it b, r => (evi C G it r).fl fun xs r => forL (exs b) tg xs r
  | .whil c b, r => whileL (ev C G c) (exs b) TURNS r
  | .app v e, r => if (iol v r).isSome then (ev C G e r).fl fun d r => (match r[v]? with
    | some (.own (.lst l)) => if l.length < LINE then .nx (r.set v (.own (.lst (l ++ [d])))) else .bad
    | some (.io (.lst l)) => if l.length < LINE then .nx (r.set v (.io (.lst (l ++ [d])))) else .bad
    | _ => .bad) else .bad
  | .put v i e, r => (ev C G e r).fl fun d r => if (iov v r).isSome then (ev C G i r).fl fun k r => (match k with
    | .int k => (match r[v]? with
      | some (.own (.lst l)) => if 0 ≤ k ∧ k < l.length then .nx (r.set v (.own (.lst (l.set k.toNat d)))) else .bad
      | some (.io (.lst l)) => if 0 ≤ k ∧ k < l.length then .nx (r.set v (.io (.lst (l.set k.toNat d)))) else .bad
      | _ => .bad)
    | _ => .bad) else .bad
  | .bad, r => .bad
  | .rais c es, r => (evs C G es r).fl fun l r => .exc (.exc c l) r
  | .tryA b ks c i v, r => tryK ks c i v (exs b r)
  | .hand _ _ _, _ => .bad
  | .tryG b ks hs, r => tryH ks (exhs hs) (exs b r)
def exs : List S → St → F
  | [], r => .nx r
  | s :: ss, r => (ex s r).then (exs ss)
def exh : S → Nat → List D → St → F → F
  | .hand c i b, k, fs, r, rest => hanF c i (exs b) k fs r rest
  | _, _, _, _, _ => .bad
def exhs : List S → Nat → List D → St → F
  | [], k, fs, r => .exc (.exc k fs) r
  | h :: hs, k, fs, r => exh h k fs r (exhs hs k fs r)
end
end

/-! ### defs -/
structure Fn where
  np : Nat
  nl : Nat
  body : List S
/-- the list handed in, behind the call -/
def outOf (as : List Slot) (r : St) : Option D := match as with
  | .io _ :: _ => (match r with
    | .io x :: _ => some x
    | _ => none)
  | _ => some .non
def runFn (C : Calls) (G : List D) (f : Fn) (as : List Slot) : CR :=
  if as.length = f.np then (match exs C G f.body (as ++ List.replicate (f.nl - f.np) .no) with
    | .nx r => (match outOf as r with | some o => .ret .non o | none => .bad)
    | .rt d r => (match outOf as r with | some o => .ret d o | none => .bad)
    | .exc x r => (match outOf as r with | some o => .exc x o | none => .bad)
    | _ => .bad) else .bad
structure Prog where
  fns : List (Nat × Fn)
  glo : List D
/-- the def with a number -/
def Prog.get (P : Prog) (f : Nat) : Option Fn := P.fns.lookup f
def callN (P : Prog) : Nat → Calls
  | 0, _, _ => .bad
  | n + 1, f, as => match P.get f with
    | some fn => runFn (callN P n) P.glo fn as
    | none => .bad
end Z

/-! Z2: what the evaluator's data are in the abstract heap; the readings made of it -/
namespace Z
open PySem PySem.Spec PyProof.Rows L2

/-! ### data in the heap; F: the part of the heap that never changes -/
def SV (s : List Nat) : V := .str ⟨s.toArray⟩
def SOk (s : List Nat) : Prop := s.all (· < 0x110000) = true ∧ s.length ≤ LINE
/-- a dict -/
def Dk (u : HO) : Prop := (∃ kvs, u = .dK kvs) ∨ ∃ kvs, u = .dT kvs
/-- what may be changed -/
def Mtb (u : HO) : Prop := (∃ vs, u = .lst vs) ∨ Dk u
/-- as it was, but for the locks of dicts -/
def Fx (F F' : Hp) : Prop := ∀ a o, F a = some o → F' a = some o ∨ ∃ u o', Dk u ∧ (o = u ∨ ∃ z, o = .frz z u) ∧ F' a = some o' ∧ (o' = u ∨ ∃ z, o' = .frz z u)
def keyD : D → Option Key
  | .int i => some (.inl i)
  | .str s => if s.all (· < 0x110000) = true ∧ s.length ≤ LINE then some (.inr ⟨s.toArray⟩) else none
  | _ => none
def keyDs : List D → Option (List Key)
  | [] => some []
  | d :: l => (keyD d).bind fun k => (keyDs l).map (k :: ·)
def keyT : D → Option (List Key)
  | .tup l => keyDs l
  | _ => none
/-- the errors' names -/
def exn : List Str := ["LossError", "InvalidWord", "InvalidNumber", "InvalidWorker", "InvalidPair", "InvalidWorld", "InvalidFact", "InvalidAdversary", "InvalidLetters", "InvalidChain", "InvalidView", "NoWord", "NoPlace", "FactFalse", "TooLarge", "NotStarted", "NothingToUndo", "Forbidden", "NotCut"]
def xa (K : PySem.W.Frag) (c : Nat) : Addr := He.ga K (exn.getD c "")
/-- an error object, caught; dd its own dict -/
def XO (cls : Value) (dd : Option Addr) (a : Addr) : HO := .ext fun h => ∃ (oe : Obj) (vs : Array Value), h.get? a = some oe ∧ oe.cls = cls ∧ oe.dict = dd ∧ oe.data = .fields vs
/-- the name of an error's field -/
def fldN (c : Nat) : Str := if c = 17 then "word" else "rounds"
/-- the own dict of an error -/
def XD (F : Hp) (c : Nat) (dd : Option Addr) (ws : List V) : Prop := (ws = [] ∧ dd = none) ∨ ∃ d w, ws = [w] ∧ dd = some d ∧ F d = some (.xd [(fldN c, w)])
mutual
def Rep (K : PySem.W.Frag) (F : Hp) : D → V → Prop
  | .non, v => v = .non
  | .bl b, v => v = .bl b
  | .int i, v => v = .int i
  | .str s, v => v = SV s ∧ SOk s
  | .lst l, v => ∃ a vs, v = .ref a ∧ SqL K F a vs ∧ Reps K F l vs
  | .tup l, v => ∃ a vs, v = .ref a ∧ SqT K F a vs ∧ Reps K F l vs
  | .exc c fs, v => ∃ a dd ws, v = .ref a ∧ F a = some (XO (.ref (xa K c)) dd a) ∧ Reps K F fs ws ∧ XD F c dd ws
  | .dct ks vs, v => ∃ a ho, v = .ref a ∧ (F a = some ho ∨ ∃ z, F a = some (.frz z ho)) ∧
    ((∃ kvs : List (Key × V), ho = .dK kvs ∧ ks.map keyD = kvs.map (fun e => some e.1) ∧ Reps K F vs (kvs.map (·.2))) ∨
     ∃ kvs : List (List Key × V), ho = .dT kvs ∧ ks.map keyT = kvs.map (fun e => some e.1) ∧ Reps K F vs (kvs.map (·.2)))
def Reps (K : PySem.W.Frag) (F : Hp) : List D → List V → Prop
  | [], vs => vs = []
  | d :: ds, vs => ∃ v r, vs = v :: r ∧ Rep K F d v ∧ Reps K F ds r
end
theorem LINE_eq : LINE = sizeLine := by rw [sizeLine_eq]; rfl
theorem Fx.refl (F : Hp) : Fx F F := fun _ _ e => .inl e
theorem Fx.of {F F' : Hp} (h : Same F F') : Fx F F' := fun a o e => .inl (h a o e)
theorem dk_ne {u : HO} (h : Dk u) : ∀ z w, u ≠ .frz z w := by rcases h with ⟨_, rfl⟩ | ⟨_, rfl⟩ <;> exact fun _ _ z => nomatch z
theorem dk_un {o u v : HO} (hu : Dk u) (hv : Dk v) (h1 : o = u ∨ ∃ z, o = .frz z u) (h2 : o = v ∨ ∃ z, o = .frz z v) : u = v := by
  rcases h1 with rfl | ⟨z, rfl⟩ <;> rcases h2 with h2 | ⟨w, h2⟩
  · exact h2
  · exact absurd h2 (dk_ne hu _ _)
  · exact absurd h2.symm (dk_ne hv _ _)
  · cases h2; rfl
theorem Fx.trans {F G H : Hp} (h : Fx F G) (k : Fx G H) : Fx F H := fun a o e => by
  rcases h a o e with e1 | ⟨u, o', du, e1, e2, e3⟩
  · exact k a o e1
  · rcases k a o' e2 with e4 | ⟨v, o'', dv, e5, e6, e7⟩
    · exact .inr ⟨u, o', du, e1, e4, e3⟩
    · exact .inr ⟨u, o'', du, e1, e6, by rw [dk_un du dv e3 e5]; exact e7⟩
theorem Fx.plain {F F' : Hp} {a : Addr} {o : HO} (h : Fx F F') (e : F a = some o) (hn : ¬ Dk o) (hz : ∀ z w, o = .frz z w → ¬ Dk w) : F' a = some o := by
  rcases h a o e with e1 | ⟨u, o', du, e1, _⟩
  · exact e1
  · rcases e1 with rfl | ⟨z, rfl⟩
    · exact absurd du hn
    · exact absurd du (hz z u rfl)
theorem Fx.dk {F F' : Hp} {a : Addr} {u : HO} (h : Fx F F') (du : Dk u) (e : F a = some u ∨ ∃ z, F a = some (.frz z u)) : F' a = some u ∨ ∃ z, F' a = some (.frz z u) := by
  have : ∀ o, F a = some o → (o = u ∨ ∃ z, o = .frz z u) → F' a = some u ∨ ∃ z, F' a = some (.frz z u) := fun o e1 e2 => by
    rcases h a o e1 with e3 | ⟨v, o', dv, e4, e5, e6⟩
    · rcases e2 with rfl | ⟨z, rfl⟩
      · exact .inl e3
      · exact .inr ⟨z, e3⟩
    · rw [dk_un du dv e2 e4]
      rcases e6 with rfl | ⟨z, rfl⟩
      · exact .inl e5
      · exact .inr ⟨z, e5⟩
  rcases e with e | ⟨z, e⟩
  · exact this u e (.inl rfl)
  · exact this _ e (.inr ⟨z, rfl⟩)
theorem Fx.none {F F' : Hp} {a : Addr} (h : Fx F F') (e : F' a = none) : F a = none := by
  cases e1 : F a with
  | none => rfl
  | some o =>
    rcases h a o e1 with e2 | ⟨_, _, _, _, e2, _⟩ <;> rw [e] at e2 <;> cases e2
theorem ndk_lst {vs : List V} : ¬ Dk (.lst vs) := fun h => by rcases h with ⟨_, h⟩ | ⟨_, h⟩ <;> cases h
theorem ndk_tup {vs : List V} : ¬ Dk (.tup vs) := fun h => by rcases h with ⟨_, h⟩ | ⟨_, h⟩ <;> cases h
theorem SqL.mono {K : PySem.W.Frag} {F F' : Hp} {a : Addr} {vs : List V} (h : Fx F F') (q : SqL K F a vs) : SqL K F' a vs := by
  rcases q with q | q
  · rcases q with q | ⟨o, q⟩
    · exact .inl (.inl (h.plain q ndk_lst fun _ _ z => nomatch z))
    · exact .inl (.inr ⟨o, h.plain q (fun z => dk_ne z _ _ rfl) fun _ _ z => by cases z; exact ndk_lst⟩)
  · exact .inr q
theorem SqT.mono {K : PySem.W.Frag} {F F' : Hp} {a : Addr} {vs : List V} (h : Fx F F') (q : SqT K F a vs) : SqT K F' a vs := by
  rcases q with q | q
  · rcases q with q | ⟨o, q⟩
    · exact .inl (.inl (h.plain q ndk_tup fun _ _ z => nomatch z))
    · exact .inl (.inr ⟨o, h.plain q (fun z => dk_ne z _ _ rfl) fun _ _ z => by cases z; exact ndk_tup⟩)
  · exact .inr q
theorem SqL.up {K : PySem.W.Frag} {F H : Hp} {a : Addr} {vs : List V} (h : Same F H) (q : SqL K F a vs) : SqL K H a vs := SqL.mono (Fx.of h) q
theorem SqT.up {K : PySem.W.Frag} {F H : Hp} {a : Addr} {vs : List V} (h : Same F H) (q : SqT K F a vs) : SqT K H a vs := SqT.mono (Fx.of h) q
theorem XD.fx {F F' : Hp} (h : Fx F F') {c : Nat} {dd : Option Addr} {ws : List V} (x : XD F c dd ws) : XD F' c dd ws := by
  rcases x with x | ⟨d, w, e1, e2, e3⟩
  · exact .inl x
  · exact .inr ⟨d, w, e1, e2, h.plain e3 (fun z => by rcases z with ⟨_, z⟩ | ⟨_, z⟩ <;> cases z) fun _ _ z => by cases z⟩
mutual
theorem Rep.fx {K : PySem.W.Frag} {F F' : Hp} (h : Fx F F') : ∀ {d : D} {v : V}, Rep K F d v → Rep K F' d v
  | .non, _, r => by simpa only [Rep] using r
  | .bl _, _, r => by simpa only [Rep] using r
  | .int _, _, r => by simpa only [Rep] using r
  | .str _, _, r => by simpa only [Rep] using r
  | .exc _ _, _, r => by
    simp only [Rep] at r ⊢
    obtain ⟨a, dd, ws, e, q, z, x⟩ := r
    exact ⟨a, dd, ws, e, h.plain q (fun z => by rcases z with ⟨_, z⟩ | ⟨_, z⟩ <;> cases z) (fun _ _ z => by cases z), Reps.fx h z, x.fx h⟩
  | .lst l, v, r => by
    simp only [Rep] at r ⊢
    obtain ⟨a, vs, e, q, z⟩ := r
    exact ⟨a, vs, e, SqL.mono h q, Reps.fx h z⟩
  | .tup l, v, r => by
    simp only [Rep] at r ⊢
    obtain ⟨a, vs, e, q, z⟩ := r
    exact ⟨a, vs, e, SqT.mono h q, Reps.fx h z⟩
  | .dct ks vs, v, r => by
    simp only [Rep] at r ⊢
    obtain ⟨a, ho, e, q, z⟩ := r
    rcases z with ⟨kvs, rfl, z1, z2⟩ | ⟨kvs, rfl, z1, z2⟩
    · exact ⟨a, _, e, h.dk (.inl ⟨kvs, rfl⟩) q, .inl ⟨kvs, rfl, z1, Reps.fx h z2⟩⟩
    · exact ⟨a, _, e, h.dk (.inr ⟨kvs, rfl⟩) q, .inr ⟨kvs, rfl, z1, Reps.fx h z2⟩⟩
theorem Reps.fx {K : PySem.W.Frag} {F F' : Hp} (h : Fx F F') : ∀ {ds : List D} {vs : List V}, Reps K F ds vs → Reps K F' ds vs
  | [], _, r => by simpa only [Reps] using r
  | d :: ds, _, r => by
    simp only [Reps] at r ⊢
    obtain ⟨v, w, e, q, z⟩ := r
    exact ⟨v, w, e, Rep.fx h q, Reps.fx h z⟩
end
theorem Rep.mono {K : PySem.W.Frag} {F F' : Hp} (h : Same F F') {d : D} {v : V} (r : Rep K F d v) : Rep K F' d v := r.fx (Fx.of h)
theorem Reps.mono {K : PySem.W.Frag} {F F' : Hp} (h : Same F F') {d : List D} {v : List V} (r : Reps K F d v) : Reps K F' d v := r.fx (Fx.of h)
section
variable {K : PySem.W.Frag} {F : Hp}
theorem Reps.nil : Reps K F [] [] := by simp only [Reps]
theorem Reps.cons {d : D} {ds : List D} {v : V} {vs : List V} (h : Rep K F d v) (t : Reps K F ds vs) : Reps K F (d :: ds) (v :: vs) := by
  simp only [Reps]
  exact ⟨v, vs, rfl, h, t⟩
theorem Reps.length : ∀ {ds : List D} {vs : List V}, Reps K F ds vs → ds.length = vs.length
  | [], _, r => by simp only [Reps] at r; rw [r]; rfl
  | d :: ds, _, r => by
    simp only [Reps] at r
    obtain ⟨v, w, rfl, q, z⟩ := r
    simp [Reps.length z]
theorem Reps.get : ∀ {ds : List D} {vs : List V} {i : Nat} {d : D}, Reps K F ds vs → ds[i]? = some d → ∃ v, vs[i]? = some v ∧ Rep K F d v
  | [], _, _, _, _, e => by simp at e
  | d :: ds, _, i, x, r, e => by
    simp only [Reps] at r
    obtain ⟨v, w, rfl, q, z⟩ := r
    cases i with
    | zero => simp at e; subst e; exact ⟨v, rfl, q⟩
    | succ i => exact Reps.get (i := i) z (by simpa using e)
theorem Reps.set : ∀ {ds : List D} {vs : List V} {i : Nat} {d : D} {v : V}, Reps K F ds vs → Rep K F d v → Reps K F (ds.set i d) (vs.set i v)
  | [], _, _, _, _, r, _ => by simp only [Reps] at r; rw [r]; simp [Reps]
  | x :: ds, _, i, d, v, r, h => by
    simp only [Reps] at r
    obtain ⟨y, w, rfl, q, z⟩ := r
    cases i with
    | zero => exact Reps.cons h z
    | succ i => exact Reps.cons q (Reps.set z h)
theorem Reps.append : ∀ {ds es : List D} {vs ws : List V}, Reps K F ds vs → Reps K F es ws → Reps K F (ds ++ es) (vs ++ ws)
  | [], _, _, _, r, s => by simp only [Reps] at r; subst r; simpa using s
  | d :: ds, es, _, ws, r, s => by
    simp only [Reps] at r
    obtain ⟨v, w, rfl, q, z⟩ := r
    exact Reps.cons q (Reps.append z s)
theorem Reps.take : ∀ {ds : List D} {vs : List V} (n : Nat), Reps K F ds vs → Reps K F (ds.take n) (vs.take n)
  | _, _, 0, _ => by simp [Reps]
  | [], _, n + 1, r => by simp only [Reps] at r; subst r; simp [Reps]
  | d :: ds, _, n + 1, r => by
    simp only [Reps] at r
    obtain ⟨v, w, rfl, q, z⟩ := r
    exact Reps.cons q (Reps.take n z)
theorem Reps.drop : ∀ {ds : List D} {vs : List V} (n : Nat), Reps K F ds vs → Reps K F (ds.drop n) (vs.drop n)
  | _, _, 0, r => by simpa using r
  | [], _, n + 1, r => by simp only [Reps] at r; subst r; simp [Reps]
  | d :: ds, _, n + 1, r => by
    simp only [Reps] at r
    obtain ⟨v, w, rfl, q, z⟩ := r
    simpa using Reps.drop n z
theorem Reps.reverse : ∀ {ds : List D} {vs : List V}, Reps K F ds vs → Reps K F ds.reverse vs.reverse
  | [], _, r => by simp only [Reps] at r; subst r; simp [Reps]
  | d :: ds, _, r => by
    simp only [Reps] at r
    obtain ⟨v, w, rfl, q, z⟩ := r
    rw [List.reverse_cons, List.reverse_cons]
    exact Reps.append (Reps.reverse z) (Reps.cons q Reps.nil)
theorem Reps.flat : ∀ {ds : List D} {vs : List V} (k : Nat), Reps K F ds vs → Reps K F (rep ds k) (List.replicate k vs).flatten
  | _, _, 0, _ => by simp [rep, Reps]
  | ds, vs, k + 1, r => by
    have := Reps.append r (Reps.flat k r)
    simpa [rep, List.replicate_succ] using this
end

/-! ### a frame's places -/
def RepO (K : PySem.W.Frag) (F : Hp) : D → HO → Prop
  | .lst l, ho => ∃ vs, ho = .lst vs ∧ Reps K F l vs
  | .dct ks vs, ho => (∃ kvs : List (Key × V), ho = .dK kvs ∧ ks.map keyD = kvs.map (fun e => some e.1) ∧ Reps K F vs (kvs.map (·.2))) ∨
     ∃ kvs : List (List Key × V), ho = .dT kvs ∧ ks.map keyT = kvs.map (fun e => some e.1) ∧ Reps K F vs (kvs.map (·.2))
  | _, _ => False
theorem RepO.fx {K : PySem.W.Frag} {F F' : Hp} (h : Fx F F') : ∀ {d : D} {o : HO}, RepO K F d o → RepO K F' d o
  | .lst l, _, ⟨vs, e, q⟩ => ⟨vs, e, q.fx h⟩
  | .dct ks vs, _, .inl ⟨kvs, e, a, q⟩ => .inl ⟨kvs, e, a, q.fx h⟩
  | .dct ks vs, _, .inr ⟨kvs, e, a, q⟩ => .inr ⟨kvs, e, a, q.fx h⟩
theorem RepO.mono {K : PySem.W.Frag} {F F' : Hp} (h : Same F F') {d : D} {o : HO} (q : RepO K F d o) : RepO K F' d o := q.fx (Fx.of h)
theorem RepO.mtb {K : PySem.W.Frag} {F : Hp} : ∀ {d : D} {o : HO}, RepO K F d o → Mtb o
  | .lst l, _, ⟨vs, e, q⟩ => .inl ⟨vs, e⟩
  | .dct ks vs, _, .inl ⟨kvs, e, a, q⟩ => .inr (.inl ⟨kvs, e⟩)
  | .dct ks vs, _, .inr ⟨kvs, e, a, q⟩ => .inr (.inr ⟨kvs, e⟩)
/-- what is the frame's own becomes a value -/
theorem RepO.rep {K : PySem.W.Frag} {F : Hp} {d : D} {o : HO} {a : Addr} (h : RepO K F d o) (e : F a = some o) : Rep K F d (.ref a) := by
  cases d <;> try exact h.elim
  · obtain ⟨vs, rfl, q⟩ := h
    simp only [Rep]
    exact ⟨a, vs, rfl, .inl (.inl e), q⟩
  · simp only [Rep]
    exact ⟨a, o, rfl, .inl e, h⟩
def ownL : Option Slot → Option D
  | some (.own l) => some l
  | some (.io l) => some l
  | _ => none
def Own (r : St) (σ : L2.St) (b : Addr) : Prop := ∃ (i : Nat) (l : D), ownL r[i]? = some l ∧ σ[i]? = some (some (V.ref b))
structure Rp (K : PySem.W.Frag) (r : St) (σ : L2.St) (H F : Hp) : Prop where
  len : r.length = σ.length
  sub : Same F H
  val : ∀ (i : Nat) d, r[i]? = some (Slot.val d) → ∃ v, σ[i]? = some (some v) ∧ Rep K F d v
  own : ∀ (i : Nat) l, ownL r[i]? = some l → ∃ a ho, σ[i]? = some (some (V.ref a)) ∧ H a = some ho ∧ F a = none ∧ RepO K F l ho
  apart : ∀ (i j : Nat) l m a, ownL r[i]? = some l → ownL r[j]? = some m → σ[i]? = some (some (V.ref a)) → σ[j]? = some (some (V.ref a)) → i = j
/-- what an expression does to the frame and the heap -/
structure Ps (K : PySem.W.Frag) (r r' : St) (σ : L2.St) (H F H' F' : Hp) : Prop where
  rp : Rp K r' σ H' F'
  f : Same F F'
  h : ∀ b o, H b = some o → ¬ Own r σ b → H' b = some o
  n : ∀ b o, H b = some o → Mtb o → ¬ Own r σ b → F b = none → F' b = none
  sub : ∀ (i : Nat) l, ownL r'[i]? = some l → ∃ l', ownL r[i]? = some l'
  io : ∀ (i : Nat) l, r'[i]? = some (Slot.io l) → ∃ l', r[i]? = some (Slot.io l')
section
variable {K : PySem.W.Frag} {r r' r1 r2 : St} {σ : L2.St} {H F H1 F1 H2 F2 : Hp}
theorem Ps.refl (p : Rp K r σ H F) : Ps K r r σ H F H F := ⟨p, fun _ _ e => e, fun _ _ e _ => e, fun _ _ _ _ _ e => e, fun _ l e => ⟨l, e⟩, fun _ l e => ⟨l, e⟩⟩
theorem Ps.ownSub (p : Ps K r r1 σ H F H1 F1) {b : Addr} (h : Own r1 σ b) : Own r σ b := by
  obtain ⟨i, l, e, z⟩ := h
  obtain ⟨l', e'⟩ := p.sub i l e
  exact ⟨i, l', e', z⟩
theorem Ps.trans (p : Ps K r r1 σ H F H1 F1) (q : Ps K r1 r2 σ H1 F1 H2 F2) : Ps K r r2 σ H F H2 F2 where
  rp := q.rp
  f := p.f.trans q.f
  h := fun b o e n => q.h b o (p.h b o e n) fun z => n (p.ownSub z)
  n := fun b o e m n z => q.n b o (p.h b o e n) m (fun z => n (p.ownSub z)) (p.n b o e m n z)
  sub := fun i l e => let ⟨l1, e1⟩ := q.sub i l e; p.sub i l1 e1
  io := fun i l e => let ⟨l1, e1⟩ := q.io i l e; p.io i l1 e1
theorem Rp.ownNo (p : Rp K r σ H F) {b : Addr} (h : Own r σ b) : F b = none ∧ ∃ ho, H b = some ho ∧ Mtb ho := by
  obtain ⟨i, l, e, z⟩ := h
  obtain ⟨a, vs, e1, e2, e3, q⟩ := p.own i l e
  rw [z] at e1
  cases e1
  exact ⟨e3, vs, e2, q.mtb⟩
theorem Same.upd {H : Hp} {a : Addr} {o : HO} (h : H a = none) : Same H (upd H a o) := fun b u e => by rw [upd_ne (ne_of_none e h)]; exact e
/-- a new object, frozen at once -/
theorem Rp.new (p : Rp K r σ H F) {a : Addr} {o : HO} (h : H a = none) : Ps K r r σ H F (upd H a o) (upd F a o) := by
  have hF : F a = none := p.sub.free h
  refine ⟨⟨p.len, fun b u e => ?_, fun i d e => ?_, fun i l e => ?_, p.apart⟩, Same.upd hF, fun b u e _ => Same.upd h b u e, fun b u e _ _ n => ?_, fun i l e => ⟨l, e⟩, fun i l e => ⟨l, e⟩⟩
  · by_cases hb : b = a
    · subst hb; rw [upd_same] at e ⊢; exact e
    · rw [upd_ne hb] at e ⊢; exact p.sub b u e
  · obtain ⟨v, e1, q⟩ := p.val i d e
    exact ⟨v, e1, q.mono (Same.upd hF)⟩
  · obtain ⟨b, vs, e1, e2, e3, q⟩ := p.own i l e
    have hb : b ≠ a := ne_of_none e2 h
    exact ⟨b, vs, e1, by rw [upd_ne hb]; exact e2, by rw [upd_ne hb]; exact e3, q.mono (Same.upd hF)⟩
  · rw [upd_ne (ne_of_none e h)]; exact n
end

/-! ### an error's form; what is wanted -/
/-- an error: its class, its own dict -/
def RepX (K : PySem.W.Frag) (ca : Nat → Addr) (H F : Hp) : D → Value → Option Addr → Prop
  | .exc c fs, cls, dd => cls = .ref (xa K c) ∧ ∃ ws, Reps K F fs ws ∧ XD F c dd ws
  | _, _, _ => False
abbrev Rl (α β : Type) := Hp → α → β → Prop
def Fi {α β : Type} (K : PySem.W.Frag) (ca : Nat → Addr) (W : WX) (rel : Rl α β) (x : R α) (r : St) (σ : L2.St) (H F : Hp) (Q : β → Hp → Prop) : Prop := match x with
  | .ok d r' => ∀ v H' F', Ps K r r' σ H F H' F' → rel F' d v → Q v H'
  | .exc e r' => ∀ cls dd H' F', Ps K r r' σ H F H' F' → RepX K ca H' F' e cls dd → W cls dd σ H'
  | .bad => False
def tE (K : PySem.W.Frag) (ca : Nat → Addr) (W : WX) (f : St → R D) : TE := fun σ H Q => ∃ r F, Rp K r σ H F ∧ Fi K ca W (Rep K) (f r) r σ H F Q
def tAs (K : PySem.W.Frag) (ca : Nat → Addr) (W : WX) (f : St → R (List D)) : TA := fun σ H Q => ∃ r F, Rp K r σ H F ∧ Fi K ca W (Reps K) (f r) r σ H F Q
section
variable {K : PySem.W.Frag} {ca : Nat → Addr} {W : WX} {α β γ δ : Type} {ra : Rl α β} {rc : Rl γ δ} {x : R α} {g : α → St → R γ} {r r1 : St} {σ : L2.St} {H F H1 F1 : Hp} {Q : δ → Hp → Prop} {Q1 : β → Hp → Prop}
theorem Fi.shift (p : Ps K r r1 σ H F H1 F1) {y : R γ} (h : Fi K ca W rc y r σ H F Q) : Fi K ca W rc y r1 σ H1 F1 Q := by
  cases y with
  | ok d r2 => exact fun v H' F' q e => h v H' F' (p.trans q) e
  | exc e r2 => exact fun c dd H' F' q z => h c dd H' F' (p.trans q) z
  | bad => exact h
theorem Fi.step (h : Fi K ca W rc (x.bind g) r σ H F Q) (k : ∀ d r1 v H1 F1, Ps K r r1 σ H F H1 F1 → ra F1 d v → Fi K ca W rc (g d r1) r1 σ H1 F1 Q → Q1 v H1) : Fi K ca W ra x r σ H F Q1 := by
  cases x with
  | ok d r1 => exact fun v H1 F1 p e => k d r1 v H1 F1 p e (Fi.shift p h)
  | exc e r1 => exact h
  | bad => exact h
theorem PE.weak {X : Cx} {e : Expr} {t t' : TE} (h : PE X e t) (w : ∀ σ H Q, t' σ H Q → t σ H Q) : PE X e t' := ⟨fun pins s σ H Q I q => h.run pins s σ H Q I (w σ H Q q)⟩
theorem PA.weak {X : Cx} {e : List Expr} {t t' : TA} (h : PA X e t) (w : ∀ σ H Q, t' σ H Q → t σ H Q) : PA X e t' := ⟨fun pos pins s σ H Q I q => h.run pos pins s σ H Q I (w σ H Q q)⟩
theorem PT.weak {X : Cx} {e : Expr} {t t' : TT} (h : PT X e t) (w : ∀ σ H Q, t' σ H Q → t σ H Q) : PT X e t' := ⟨fun pins s σ H Q I q => h.run pins s σ H Q I (w σ H Q q)⟩
end
end Z

/-! Z3: each expression of the core does what the evaluator says -/
namespace Z
open PySem PySem.Spec PyProof.Rows L2 TL

section
variable {K : PySem.W.Frag} {F H : Hp}
theorem Rep.str_iff {s : List Nat} {v : V} : Rep K F (.str s) v ↔ v = SV s ∧ SOk s := by simp only [Rep]
theorem Rep.int_iff {i : Int} {v : V} : Rep K F (.int i) v ↔ v = .int i := by simp only [Rep]
theorem Rep.bl_iff {i : Bool} {v : V} : Rep K F (.bl i) v ↔ v = .bl i := by simp only [Rep]
theorem Rep.non_iff {v : V} : Rep K F .non v ↔ v = .non := by simp only [Rep]
theorem Rep.lst_iff {l : List D} {v : V} : Rep K F (.lst l) v ↔ ∃ a vs, v = .ref a ∧ SqL K F a vs ∧ Reps K F l vs := by simp only [Rep]
theorem Rep.tup_iff {l : List D} {v : V} : Rep K F (.tup l) v ↔ ∃ a vs, v = .ref a ∧ SqT K F a vs ∧ Reps K F l vs := by simp only [Rep]
theorem SOk.len {s : List Nat} (h : SOk s) : s.length ≤ sizeLine := by rw [← LINE_eq]; exact h.2
theorem SOk.app {s t : List Nat} (h : SOk s) (g : SOk t) (l : s.length + t.length ≤ LINE) : SOk (s ++ t) := ⟨by rw [List.all_append, h.1, g.1]; rfl, by rw [List.length_append]; exact l⟩
theorem mk_app (s t : List Nat) : (⟨s.toArray⟩ : Str) ++ ⟨t.toArray⟩ = ⟨(s ++ t).toArray⟩ := by
  apply ext_tl
  rw [tl_append, tl_mk, tl_mk, tl_mk]
theorem len_mk (s : List Nat) : (⟨s.toArray⟩ : Str).length = s.length := by rw [len_tl, tl_mk]
/-- a value that is read: data, or a list of the frame's own -/
def RepH (K : PySem.W.Frag) (F H : Hp) (d : D) (w : V) : Prop := Rep K F d w ∨ ∃ a ho, w = .ref a ∧ H a = some ho ∧ RepO K F d ho
theorem RepH.lst {l : List D} {w : V} (h : RepH K F H (.lst l) w) (s : Same F H) : ∃ a vs, w = .ref a ∧ SqL K H a vs ∧ Reps K F l vs := by
  rcases h with h | ⟨a, ho, e2, e3, vs, rfl, q⟩
  · obtain ⟨a, vs, e, q, z⟩ := Rep.lst_iff.mp h
    exact ⟨a, vs, e, SqL.up s q, z⟩
  · exact ⟨a, vs, e2, SqL.of e3, q⟩
theorem RepH.of_notL {d : D} {w : V} (h : RepH K F H d w) (n : ∀ o, ¬ RepO K F d o) : Rep K F d w := by
  rcases h with h | ⟨a, ho, _, _, q⟩
  · exact h
  · exact absurd q (n ho)
end

section
variable {K : PySem.W.Frag} {r : St} {σ : L2.St} {H F : Hp}
theorem Rp.pk (p : Rp K r σ H F) {i : Nat} {d : D} (h : pkv i r = some d) : ∃ w, σ[i]? = some (some w) ∧ RepH K F H d w := by
  unfold pkv at h
  split at h
  · rename_i d' e
    cases h
    obtain ⟨v, e1, q⟩ := p.val i _ e
    exact ⟨v, e1, .inl q⟩
  · rename_i l e
    cases h
    obtain ⟨a, vs, e1, e2, e3, q⟩ := p.own i _ (by rw [e]; rfl)
    exact ⟨_, e1, .inr ⟨a, vs, rfl, e2, q⟩⟩
  · rename_i l e
    cases h
    obtain ⟨a, vs, e1, e2, e3, q⟩ := p.own i _ (by rw [e]; rfl)
    exact ⟨_, e1, .inr ⟨a, vs, rfl, e2, q⟩⟩
  · cases h
/-- a list of the frame's own is shared from now on -/
theorem Rp.freeze (p : Rp K r σ H F) {i : Nat} {l : D} {a : Addr} {vs : HO} (h : r[i]? = some (Slot.own l)) (hs : σ[i]? = some (some (V.ref a))) (hH : H a = some vs) (hF : F a = none) (q : RepO K F l vs) :
    Ps K r (r.set i (.val l)) σ H F H (upd F a vs) := by
  have hi : i < r.length := (List.getElem?_eq_some_iff.mp h).1
  have hne : ∀ j m, j ≠ i → ownL r[j]? = some m → ∀ b, σ[j]? = some (some (V.ref b)) → b ≠ a := fun j m hj e b eb z => by
    subst z
    exact hj (p.apart j i m l b e (by rw [h]; rfl) eb hs)
  refine ⟨⟨by rw [List.length_set]; exact p.len, fun b u e => ?_, fun j d e => ?_, fun j m e => ?_, fun j k m n b e1 e2 => ?_⟩, Same.upd hF, fun _ _ e _ => e, fun b o e _ no n => ?_, fun j m e => ?_, fun j m e => ?_⟩
  · by_cases hb : b = a
    · subst hb; rw [upd_same] at e; rw [hH]; exact e
    · rw [upd_ne hb] at e; exact p.sub b u e
  · by_cases hj : j = i
    · subst hj
      rw [List.getElem?_set_self hi] at e
      cases e
      exact ⟨_, hs, (q.mono (Same.upd hF)).rep upd_same⟩
    · rw [List.getElem?_set_ne (Ne.symm hj)] at e
      obtain ⟨v, e1, z⟩ := p.val j d e
      exact ⟨v, e1, z.mono (Same.upd hF)⟩
  · by_cases hj : j = i
    · subst hj
      rw [List.getElem?_set_self hi] at e
      cases e
    · rw [List.getElem?_set_ne (Ne.symm hj)] at e
      obtain ⟨b, ws, e1, e2, e3, z⟩ := p.own j m e
      exact ⟨b, ws, e1, e2, by rw [upd_ne (hne j m hj e b e1)]; exact e3, z.mono (Same.upd hF)⟩
  · have hj : j ≠ i := fun z => by
      subst z
      rw [List.getElem?_set_self hi] at e1
      cases e1
    have hk : k ≠ i := fun z => by
      subst z
      rw [List.getElem?_set_self hi] at e2
      cases e2
    rw [List.getElem?_set_ne (Ne.symm hj)] at e1
    rw [List.getElem?_set_ne (Ne.symm hk)] at e2
    exact p.apart j k m n b e1 e2
  · have hb : b ≠ a := fun z => no ⟨i, l, by rw [h]; rfl, by rw [z]; exact hs⟩
    rw [upd_ne hb]
    exact n
  · by_cases hj : j = i
    · subst hj
      exact ⟨l, by rw [h]; rfl⟩
    · rw [List.getElem?_set_ne (Ne.symm hj)] at e
      exact ⟨m, e⟩
  · by_cases hj : j = i
    · subst hj
      rw [List.getElem?_set_self hi] at e
      cases e
    · rw [List.getElem?_set_ne (Ne.symm hj)] at e
      exact ⟨m, e⟩
end

/-- room for calls, whatever is being handled -/
structure RoomQ (k : Nat) (A : Around) : Prop where
  dp : A.depth + 3 * k + 5 < recursionLimit
  un : A.units + 16 * k + 200 < cLine
theorem RoomQ.of {k : Nat} {A : Around} (r : Room k A) : RoomQ k A := ⟨r.dp, r.un⟩
theorem RoomQ.mono {j k : Nat} {A : Around} (r : RoomQ k A) (h : j ≤ k) : RoomQ j A := ⟨by have := r.dp; omega, by have := r.un; omega⟩
theorem RoomQ.units {k : Nat} {A : Around} (r : RoomQ k A) : A.units + 64 < cLine := by have := r.un; omega
/-- the context of an expression: room for calls -/
structure Ck (X : Cx) (n : Nat) : Prop where
  nd : X.N.Nodup
  room : RoomQ n X.A
section
variable {X : Cx} {ca : Nat → Addr} {W : WX} {pos : Pos} {C : Calls} {G : List D}
abbrev QE (X : Cx) (ca : Nat → Addr) (W : WX) (e : Expr) (f : St → R D) : Prop := PE X e (tE X.K ca W f)
abbrev QA (X : Cx) (ca : Nat → Addr) (W : WX) (es : List Expr) (f : St → R (List D)) : Prop := PA X es (tAs X.K ca W f)
theorem q_var {i : Nat} {x : Str} (hN : X.N[i]? = some x) (hv : Vis X.env.scope x) (hd : (x == ("__debug__" : Str)) = false) (hcd : (x == ("__classdict__" : Str)) = false) : QE X ca W (.Name x pos) (rdv i) := by
  refine PE.weak (pe_var hN hv hd hcd) fun σ H Q ⟨r, F, p, h⟩ => ?_
  unfold rdv at h
  split at h
  · rename_i d e
    obtain ⟨v, e1, q⟩ := p.val i d e
    exact ⟨v, e1, h v H F (Ps.refl p) q⟩
  · rename_i l e
    obtain ⟨a, vs, e1, e2, e3, q⟩ := p.own i l (by rw [e]; rfl)
    exact ⟨_, e1, h _ H _ (p.freeze e e1 e2 e3 q) ((q.mono (Same.upd e3)).rep upd_same)⟩
  · exact h.elim
/-- a constant -/
theorem q_con {e : Expr} {v : V} {d : D} (h : PE X e (tC v)) (hr : ∀ F, Rep X.K F d v) : QE X ca W e (fun r => .ok d r) :=
  PE.weak h fun σ H Q ⟨r, F, p, h⟩ => h v H F (Ps.refl p) (hr F)
theorem q_none {j : Nat} : QE X ca W (.Constant .none j pos) (fun r => .ok .non r) := q_con pe_non fun _ => Rep.non_iff.mpr rfl
theorem q_bool {b : Bool} {j : Nat} : QE X ca W (.Constant (.bool b) j pos) (fun r => .ok (.bl b) r) := q_con pe_bl fun _ => Rep.bl_iff.mpr rfl
theorem q_int {i : Int} {j : Nat} : QE X ca W (.Constant (.int i) j pos) (fun r => .ok (.int i) r) := q_con pe_int fun _ => Rep.int_iff.mpr rfl
theorem q_str {x : Str} {s : List Nat} {j : Nat} (h : x = ⟨s.toArray⟩) (hs : SOk s) : QE X ca W (.Constant (.str x) j pos) (fun r => .ok (.str s) r) := by
  subst h
  exact q_con pe_str fun _ => Rep.str_iff.mpr ⟨rfl, hs⟩

/-! #### lists of expressions -/
def noStar : Expr → Bool
  | .Starred _ _ => false
  | _ => true
theorem star_cons {e : Expr} {es : List Expr} {env : Env} (h : noStar e = true) : starEach (e :: es) env = (false, eval e env) :: starEach es env := by
  cases e <;> first | rfl | cases h
theorem star_any {es : List Expr} {env : Env} (h : es.all noStar = true) : (backTo pos (starEach es env)).any (·.1) = false := by
  induction es with
  | nil => rfl
  | cons e es ih =>
    simp only [List.all_cons, Bool.and_eq_true] at h
    rw [star_cons h.1]
    show (false || (backTo pos (starEach es env)).any (·.1)) = false
    rw [ih h.2]
    rfl
theorem qa_nil : QA X ca W [] (fun r => .ok [] r) := PA.weak pa_nil fun σ H Q ⟨r, F, p, h⟩ => h [] H F (Ps.refl p) Reps.nil
theorem qa_cons {e : Expr} {es : List Expr} {f : St → R D} {g : St → R (List D)} (h1 : QE X ca W e f) (h2 : QA X ca W es g) (hn : noStar e = true) :
    QA X ca W (e :: es) (fun r => (f r).bind fun d r => (g r).bind fun l r => .ok (d :: l) r) := by
  refine PA.weak (pa_cons h1 h2 (star_cons hn)) fun σ H Q ⟨r, F, p, h⟩ => ⟨r, F, p, h.step fun d r1 v H1 F1 p1 q1 h => ⟨r1, F1, p1.rp, h.step fun l r2 vs H2 F2 p2 q2 h => ?_⟩⟩
  exact h (v :: vs) H2 F2 (Ps.refl p2.rp) (Reps.cons (q1.mono p2.f) q2)
theorem q_lst {es : List Expr} {g : St → R (List D)} (h : QA X ca W es g) : QE X ca W (.List es pos) (fun r => (g r).bind fun l r => if l.length ≤ LINE then .ok (.lst l) r else .bad) := by
  refine PE.weak (pe_lst h) fun σ H Q ⟨r, F, p, h⟩ => ⟨r, F, p, h.step fun l r1 vs H1 F1 p1 q1 h => ?_⟩
  split at h
  · rename_i hl
    refine ⟨by rw [← q1.length, ← LINE_eq]; exact hl, fun a ha => ?_⟩
    have hn := p1.rp.new (o := .lst vs) ha
    exact h (.ref a) _ _ hn (Rep.lst_iff.mpr ⟨a, vs, rfl, SqL.of upd_same, q1.mono hn.f⟩)
  · exact h.elim
theorem q_tup {es : List Expr} {g : St → R (List D)} {k : Nat} (h : QA X ca W es g) : QE X ca W (.Tuple es k pos) (fun r => (g r).bind fun l r => if l.length ≤ LINE then .ok (.tup l) r else .bad) := by
  refine PE.weak (pe_tup h) fun σ H Q ⟨r, F, p, h⟩ => ⟨r, F, p, h.step fun l r1 vs H1 F1 p1 q1 h => ?_⟩
  split at h
  · rename_i hl
    refine ⟨by rw [← q1.length, ← LINE_eq]; exact hl, fun a ha => ?_⟩
    have hn := p1.rp.new (o := .tup vs) ha
    exact h (.ref a) _ _ hn (Rep.tup_iff.mpr ⟨a, vs, rfl, SqT.of upd_same, q1.mono hn.f⟩)
  · exact h.elim
end

/-! #### operators -/
section
variable {X : Cx}
/-- list + list, whatever stands at them -/
def rCatG (K : PySem.W.Frag) : R2 := fun x y H Q => ∃ l b xs zs, x = .ref l ∧ y = .ref b ∧ SqL K H l xs ∧ SqL K H b zs ∧ xs.length + zs.length ≤ sizeLine ∧ ∀ p, H p = none → Q (.ref p) (upd H p (.lst (xs ++ zs)))
theorem op_catG : OpR X (binaryOp .Add) (rCatG X.K) := by
  intro pins s σ H x y v u Q I rx ry h
  obtain ⟨l, b, xs, zs, rfl, rfl, hH, hB, hz, q⟩ := h
  cases rx
  cases ry
  obtain ⟨its, rv, ⟨⟨c1, d1, t1, sl1⟩, n, e, hc, hd, ht⟩, z⟩ := I.list hH
  obtain ⟨its2, rv2, ⟨⟨c2, d2, t2, sl2⟩, n2, e2, hc2, hd2, ht2⟩, z2⟩ := I.list hB
  simp only at hc hd ht hc2 hd2 ht2
  subst hc hd ht hc2 hd2 ht2
  have hs : its.toArray.size + its2.toArray.size ≤ sizeLine := by
    rw [List.size_toArray, List.size_toArray, ← rv.length, ← rv2.length]
    exact hz
  refine PySem.concat_meets ⟨_, e, rfl⟩ ⟨_, e2, rfl⟩ noFill_list_add seq_list_add PySem.F.slot_list_add PySem.F.entry_list_add (PySem.F.args_list_add_2 _ _) (list_addW l b its.toArray its2.toArray n n2 none none sl1 sl2 hs) ⟨e, e2, ?_⟩
  have ea : its.toArray ++ its2.toArray = (its ++ its2).toArray := by simp
  rw [ea]
  exact ⟨.ref _, _, I.lnew (t' := s.toks) (rv.append rv2) (by rw [List.length_append]; omega), rfl, q _ I.fresh⟩
/-- what an operator asks, by the data -/
structure OpS (X : Cx) (f : Value → Value → Sem Value) (g : D → D → Option D) (rd : R2) : Prop where
  op : OpR X f rd
  ok : ∀ {x y d : D} {v w : V} {r : St} {σ : L2.St} {H F : Hp} {Q : VK}, g x y = some d → Rep X.K F x v → Rep X.K F y w → Rp X.K r σ H F →
    (∀ z H' F', Ps X.K r r σ H F H' F' → Rep X.K F' d z → Q z H') → rd v w H Q
theorem opS_add : OpS X (binaryOp .Add) addD (fun x y H Q => (rI0 (fun i j => .int (i + j)) x y H Q ∨ (∃ i j, x = V.str i ∧ y = V.str j ∧ i.length + j.length ≤ sizeLine ∧ Q (.str (i ++ j)) H)) ∨ (rCatG X.K x y H Q ∨ rCatA X.K x y H Q)) := by
  refine ⟨(op_add.or op_add_str).or (op_catG.or op_catA), ?_⟩
  intro x y d v w r σ H F Q hg hx hy p h
  unfold addD at hg
  split at hg
  · cases hg
    have e1 := Rep.int_iff.mp hx
    have e2 := Rep.int_iff.mp hy
    exact .inl (.inl ⟨_, _, e1, e2, h _ H F (Ps.refl p) (Rep.int_iff.mpr rfl)⟩)
  · rename_i a b
    split at hg
    · rename_i hl
      cases hg
      obtain ⟨e1, o1⟩ := Rep.str_iff.mp hx
      obtain ⟨e2, o2⟩ := Rep.str_iff.mp hy
      refine .inl (.inr ⟨_, _, e1, e2, by rw [len_mk, len_mk, ← LINE_eq]; exact hl, ?_⟩)
      rw [mk_app]
      exact h _ H F (Ps.refl p) (Rep.str_iff.mpr ⟨rfl, o1.app o2 hl⟩)
    · cases hg
  · rename_i a b
    split at hg
    · rename_i hl
      cases hg
      obtain ⟨l, xs, e1, s1, z1⟩ := Rep.lst_iff.mp hx
      obtain ⟨m, ys, e2, s2, z2⟩ := Rep.lst_iff.mp hy
      refine .inr (.inl ⟨l, m, xs, ys, e1, e2, SqL.up p.sub s1, SqL.up p.sub s2, by rw [← z1.length, ← z2.length, ← LINE_eq]; exact hl, fun q hq => ?_⟩)
      have hn := p.new (o := .lst (xs ++ ys)) hq
      exact h _ _ _ hn (Rep.lst_iff.mpr ⟨q, _, rfl, SqL.of upd_same, (z1.append z2).mono hn.f⟩)
    · cases hg
  · rename_i a b
    split at hg
    · rename_i hl
      cases hg
      have hx' := hx
      have hy' := hy
      obtain ⟨l, xs, e1, s1, z1⟩ := Rep.tup_iff.mp hx
      obtain ⟨m, ys, e2, s2, z2⟩ := Rep.tup_iff.mp hy
      refine .inr (.inr ⟨l, m, xs, ys, e1, e2, SqT.up p.sub s1, SqT.up p.sub s2, by rw [← z1.length, ← z2.length, ← LINE_eq]; exact hl, fun hn => ?_, fun _ hn => ?_, fun _ _ q hq => ?_⟩)
      · have : a = [] := by cases a with
          | nil => rfl
          | cons d a => rw [hn] at z1; simp [Reps] at z1
        subst this
        rw [← e2]
        exact h _ H F (Ps.refl p) hy'
      · have : b = [] := by cases b with
          | nil => rfl
          | cons d b => rw [hn] at z2; simp [Reps] at z2
        subst this
        rw [← e1]
        exact h _ H F (Ps.refl p) (by rw [List.append_nil]; exact hx')
      · have hn := p.new (o := .tup (xs ++ ys)) hq
        exact h _ _ _ hn (Rep.tup_iff.mpr ⟨q, _, rfl, SqT.of upd_same, (z1.append z2).mono hn.f⟩)
    · cases hg
  · cases hg
theorem opS_int {f : Value → Value → Sem Value} {g : D → D → Option D} {Cn : Int → Int → Prop} {k : Int → Int → Int} (h : OpR X f (rI Cn fun i j => .int (k i j)))
    (hg : ∀ x y d, g x y = some d → ∃ i j, x = .int i ∧ y = .int j ∧ Cn i j ∧ d = .int (k i j)) : OpS X f g (rI Cn fun i j => .int (k i j)) := by
  refine ⟨h, ?_⟩
  intro x y d v w r σ H F Q e hx hy p q
  obtain ⟨i, j, rfl, rfl, c, rfl⟩ := hg x y d e
  exact ⟨i, j, Rep.int_iff.mp hx, Rep.int_iff.mp hy, c, q _ H F (Ps.refl p) (Rep.int_iff.mpr rfl)⟩
theorem big_lt {a : Int} (h : a.natAbs < BIG) : a.natAbs < 2 ^ 8000 := h
theorem opS_sub : OpS X (binaryOp .Sub) subD (rI (fun _ _ => True) fun i j => .int (i - j)) := by
  refine opS_int (opI fun _ _ _ _ _ _ _ _ q => sub_int q) fun x y d h => ?_
  unfold subD at h
  split at h
  · cases h; exact ⟨_, _, rfl, rfl, trivial, rfl⟩
  · cases h
theorem opS_div : OpS X (binaryOp .FloorDiv) divD (rI CDivW fun i j => .int (i / j)) := by
  refine opS_int op_fdivW fun x y d h => ?_
  unfold divD at h
  split at h
  · split at h
    · rename_i c
      cases h
      exact ⟨_, _, rfl, rfl, wide_div c.1 (big_lt c.2) (by decide) (by decide), rfl⟩
    · cases h
  · cases h
theorem opS_mod : OpS X (binaryOp .Mod) modD (rI (fun _ j => 0 < j) fun i j => .int (i % j)) := by
  refine opS_int op_mod fun x y d h => ?_
  unfold modD at h
  split at h
  · split at h
    · rename_i c
      cases h
      exact ⟨_, _, rfl, rfl, c, rfl⟩
    · cases h
  · cases h
theorem opS_pow : OpS X (binaryOp .Pow) powD (rI CPow fun i j => .int (i ^ j.toNat)) := by
  refine opS_int op_pow fun x y d h => ?_
  unfold powD at h
  split at h
  · split at h
    · rename_i c
      cases h
      exact ⟨_, _, rfl, rfl, ⟨c.1, by omega, by have := c.2.2; omega⟩, rfl⟩
    · cases h
  · cases h
end

/-! #### products -/
theorem fold_rep (s : List Nat) : ∀ (k : Nat) (acc : Array Nat), (List.replicate k s.toArray).foldl (· ++ ·) acc = acc ++ (rep s k).toArray
  | 0, acc => by simp [rep]
  | k + 1, acc => by
    rw [List.replicate_succ, List.foldl_cons, fold_rep s k]
    simp [rep, List.replicate_succ]
theorem rep_length {α : Type} (l : List α) (k : Nat) : (rep l k).length = l.length * k := by
  unfold rep
  induction k with
  | zero => simp
  | succ k ih => simp only [List.replicate_succ, List.flatten_cons, List.length_append, ih, Nat.mul_succ]; omega
theorem rep_all (l : List Nat) (k : Nat) (h : l.all (· < 0x110000) = true) : (rep l k).all (· < 0x110000) = true := by
  unfold rep
  induction k with
  | zero => rfl
  | succ k ih => rw [List.replicate_succ, List.flatten_cons, List.all_append, h, ih]; rfl
theorem small_le {a : Int} (h : small a = true) : -1000000000 ≤ a ∧ a ≤ 1000000000 := of_decide_eq_true h
section
variable {X : Cx}
def rMulS : R2 := fun x y H Q => ∃ (s : List Nat) (k : Int), x = SV s ∧ y = V.int k ∧ small k = true ∧ s.length * k.toNat ≤ sizeLine ∧ Q (SV (rep s k.toNat)) H
theorem op_mulS : OpR X (binaryOp .Mult) rMulS := by
  intro pins s σ H x y v u Q I rx ry h
  obtain ⟨z, k, rfl, rfl, hk, hz, q⟩ := h
  obtain ⟨t, rfl⟩ := rx
  obtain ⟨t', rfl⟩ := ry
  obtain ⟨k1, k2⟩ := small_le hk
  have fin : ∀ (st : Str) (w : Value) (tk : Nat), st = ⟨(rep z k.toNat).toArray⟩ → w = .str st tk → ∀ n, EP X pins σ Q w { s with toks := n } := fun st w tk e e2 n => by
    subst e e2
    exact ⟨SV (rep z k.toNat), H, I.tok n, ⟨_, rfl⟩, q⟩
  have hl : ∀ n : Nat, (⟨z.toArray⟩ : Str).length * n = z.length * n := fun n => by rw [len_mk]
  refine PySem.P.mul_str (by rw [decide_eq_false (show ¬ k < -(2 ^ 63 : Int) by omega), decide_eq_false (show ¬ k ≥ 2 ^ 63 by omega)]; rfl) (fun h1 _ => ?_) (fun _ _ => ?_) ?_
  · have hk' : (0 : Int) < k := by omega
    have hz2 : z.length * k.toNat ≤ 16777216 := by rw [sizeLine_eq] at hz; exact hz
    have hm : (z.length : Int) * k ≤ 16777216 := by
      obtain ⟨m, rfl⟩ : ∃ m : Nat, k = (m : Int) := ⟨k.toNat, by omega⟩
      rw [Int.toNat_natCast] at hz2
      rw [← Int.natCast_mul]
      omega
    rw [len_mk]
    intro hgt
    have := Int.le_ediv_of_mul_le hk' (show (z.length : Int) * k ≤ 2 ^ 63 - 1 by omega)
    omega
  · rw [hl]
    unfold Builtin.Str.tooLong
    exact decide_eq_false (by omega)
  · by_cases h1 : k < 1
    · rw [if_pos h1]
      refine ⟨by decide, fin _ _ _ ?_ rfl _⟩
      have : k.toNat = 0 := by omega
      rw [this]
      rfl
    · rw [if_neg h1]
      by_cases h2 : (k == 1 || (⟨z.toArray⟩ : Str).length == 0) = true
      · rw [if_pos h2]
        refine fin _ _ t ?_ rfl s.toks
        rw [Bool.or_eq_true] at h2
        rcases h2 with h2 | h2
        · have : k = 1 := by simpa using h2
          subst this
          simp [rep]
        · have : z = [] := by rw [len_mk] at h2; simpa using h2
          subst this
          simp [rep]
      · rw [if_neg h2]
        refine ⟨?_, fin _ _ _ ?_ rfl _⟩
        · show (Str.length ⟨_⟩) ≤ sizeLine
          rw [fold_rep]
          have : (#[] ++ (rep z k.toNat).toArray) = (rep z k.toNat).toArray := by simp
          rw [this, len_mk, rep_length]
          exact hz
        · rw [fold_rep]
          simp
theorem opS_mul : OpS X (binaryOp .Mult) (fun x y => match x with | .lst _ => none | _ => mulD x y) (fun x y H Q => (rI CMulW (fun i j => .int (i * j)) x y H Q ∨ rMulS x y H Q) ∨ rRepT X.K x y H Q) := by
  refine ⟨(op_mulW.or op_mulS).or op_repT, ?_⟩
  intro x y d v w r σ H F Q hg hx hy p h
  have hg : mulD x y = some d ∧ ∀ l, x ≠ .lst l := by
    cases x <;> first | exact ⟨hg, fun l z => by cases z⟩ | cases hg
  obtain ⟨hg, nl⟩ := hg
  unfold mulD at hg
  split at hg
  · split at hg
    · rename_i c
      cases hg
      exact .inl (.inl ⟨_, _, Rep.int_iff.mp hx, Rep.int_iff.mp hy, wide_mul (big_lt c.1) (big_lt c.2) (by decide) (by decide) (by decide), h _ H F (Ps.refl p) (Rep.int_iff.mpr rfl)⟩)
    · cases hg
  · split at hg
    · rename_i c
      cases hg
      obtain ⟨e1, o1⟩ := Rep.str_iff.mp hx
      refine .inl (.inr ⟨_, _, e1, Rep.int_iff.mp hy, c.1, by rw [← LINE_eq]; exact c.2, h _ H F (Ps.refl p) (Rep.str_iff.mpr ⟨rfl, rep_all _ _ o1.1, by rw [rep_length]; exact c.2⟩)⟩)
    · cases hg
  · exact absurd rfl (nl _)
  · split at hg
    · rename_i a k _ c
      cases hg
      obtain ⟨l, xs, e1, s1, z1⟩ := Rep.tup_iff.mp hx
      have hne : xs ≠ [] := fun e => by
        cases a with
        | nil => simp at c
        | cons d a => rw [e] at z1; simp [Reps] at z1
      refine .inr ⟨l, k, xs, e1, Rep.int_iff.mp hy, SqT.up p.sub s1, hne, c.1, c.2.1, by rw [← z1.length]; exact c.2.2.2, fun q hq => ?_⟩
      have hn := p.new (o := .tup (List.replicate k.toNat xs).flatten) hq
      refine h _ _ _ hn (Rep.tup_iff.mpr ⟨q, _, rfl, SqT.of upd_same, ?_⟩)
      have q3 := z1.mono hn.f
      have rp : ∀ m : Nat, Reps X.K (upd F q (.tup (List.replicate k.toNat xs).flatten)) (List.replicate m a).flatten (List.replicate m xs).flatten := fun m => by
        induction m with
        | zero => exact Reps.nil
        | succ m ih => rw [List.replicate_succ, List.replicate_succ, List.flatten_cons, List.flatten_cons]; exact q3.append ih
      exact rp _
    · cases hg
  · cases hg
end

/-! #### equality of data -/
mutual
def toPD : D → PyData
  | .non => .none
  | .bl b => .bool b
  | .int i => .int i
  | .str s => .str ⟨s.toArray⟩
  | .lst l => .list (toPDs l)
  | .tup l => .tuple (toPDs l)
  | .exc _ _ => .none
  | .dct _ _ => .none
def toPDs : List D → List PyData
  | [] => []
  | d :: l => toPD d :: toPDs l
end
section
variable {K : PySem.W.Frag} {F H : Hp}
mutual
theorem Rep.dp (s : Same F H) : ∀ {n : Nat} {d : D} {v : V}, shal n d = true → Rep K F d v → Dp K H v (toPD d)
  | _, .non, _, _, r => by rw [Rep.non_iff.mp r]; unfold toPD; exact .non
  | _, .bl b, _, _, r => by rw [Rep.bl_iff.mp r]; unfold toPD; exact .bl b
  | _, .int b, _, _, r => by rw [Rep.int_iff.mp r]; unfold toPD; exact .int b
  | _, .str x, _, _, r => by rw [(Rep.str_iff.mp r).1]; unfold toPD; exact .str _
  | 0, .exc _ _, _, h, _ => by simp [shal] at h
  | _ + 1, .exc _ _, _, h, _ => by simp [shal] at h
  | 0, .dct _ _, _, h, r => by simp [shal] at h
  | _ + 1, .dct _ _, _, h, r => by simp [shal] at h
  | 0, .lst l, v, h, r => by simp [shal] at h
  | 0, .tup l, v, h, r => by simp [shal] at h
  | n + 1, .lst l, v, h, r => by
    obtain ⟨a, vs, e, q, z⟩ := Rep.lst_iff.mp r
    rw [e]; unfold toPD
    exact .lst (SqL.up s q) (Reps.dp s (n := n) (by simpa [shal] using h) z)
  | n + 1, .tup l, v, h, r => by
    obtain ⟨a, vs, e, q, z⟩ := Rep.tup_iff.mp r
    rw [e]; unfold toPD
    exact .tup (SqT.up s q) (Reps.dp s (n := n) (by simpa [shal] using h) z)
theorem Reps.dp (s : Same F H) : ∀ {n : Nat} {ds : List D} {vs : List V}, (∀ d ∈ ds, shal n d = true) → Reps K F ds vs → DpAll K H vs (toPDs ds)
  | _, [], _, _, r => by simp only [Reps] at r; subst r; unfold toPDs; exact .nil
  | n, d :: ds, _, h, r => by
    simp only [Reps] at r
    obtain ⟨v, w, rfl, q, z⟩ := r
    unfold toPDs
    exact .cons (Rep.dp s (h d List.mem_cons_self) q) (Reps.dp s (fun x hx => h x (List.mem_cons_of_mem _ hx)) z)
end
mutual
/-- what the texts within need -/
theorem Rep.lay : ∀ {d : D} {v : V}, Rep K F d v → (toPD d).canLay0 = true
  | .non, _, r => by unfold toPD; rfl
  | .bl b, _, r => by unfold toPD; rfl
  | .int b, _, r => by unfold toPD; rfl
  | .str x, _, r => by
    unfold toPD
    show PyData.strOk _ = true
    unfold PyData.strOk
    have := (Rep.str_iff.mp r).2.1
    simpa using this
  | .exc _ _, _, r => by unfold toPD; rfl
  | .dct _ _, _, r => by unfold toPD; rfl
  | .lst l, _, r => by
    obtain ⟨a, vs, e, q, z⟩ := Rep.lst_iff.mp r
    unfold toPD
    exact Reps.lay z
  | .tup l, _, r => by
    obtain ⟨a, vs, e, q, z⟩ := Rep.tup_iff.mp r
    unfold toPD
    exact Reps.lay z
theorem Reps.lay : ∀ {ds : List D} {vs : List V}, Reps K F ds vs → PyData.canLayAll0 (toPDs ds) = true
  | [], _, r => by unfold toPDs; rfl
  | d :: ds, _, r => by
    simp only [Reps] at r
    obtain ⟨v, w, rfl, q, z⟩ := r
    unfold toPDs
    show (PyData.canLay0 _ && PyData.canLayAll0 _) = true
    rw [Rep.lay q, Reps.lay z]
    rfl
end
end
theorem depthAll_le {n : Nat} : ∀ {l : List D}, (∀ d ∈ l, (toPD d).depth ≤ n) → PyData.depthAll (toPDs l) ≤ n
  | [], _ => by unfold toPDs; exact Nat.zero_le _
  | d :: l, h => by
    unfold toPDs
    show max _ _ ≤ n
    exact Nat.max_le.mpr ⟨h d List.mem_cons_self, depthAll_le fun x hx => h x (List.mem_cons_of_mem _ hx)⟩
theorem shal_depth : ∀ {n : Nat} {d : D}, shal n d = true → (toPD d).depth ≤ n
  | n, .non, _ => Nat.zero_le _
  | n, .bl _, _ => Nat.zero_le _
  | n, .int _, _ => Nat.zero_le _
  | n, .str _, _ => Nat.zero_le _
  | 0, .exc _ _, h => by simp [shal] at h
  | n + 1, .exc _ _, h => by simp [shal] at h
  | 0, .dct _ _, h => by simp [shal] at h
  | n + 1, .dct _ _, h => by simp [shal] at h
  | 0, .lst _, h => by simp [shal] at h
  | 0, .tup _, h => by simp [shal] at h
  | n + 1, .lst l, h => by
    simp only [shal, List.all_eq_true] at h
    show PyData.depthAll (toPDs l) + 1 ≤ n + 1
    exact Nat.succ_le_succ (depthAll_le fun d hd => shal_depth (h d hd))
  | n + 1, .tup l, h => by
    simp only [shal, List.all_eq_true] at h
    show PyData.depthAll (toPDs l) + 1 ≤ n + 1
    exact Nat.succ_le_succ (depthAll_le fun d hd => shal_depth (h d hd))
theorem str_beq (x y : List Nat) : ((⟨x.toArray⟩ : Str) == ⟨y.toArray⟩) = (x == y) := by
  by_cases h : x = y
  · subst h; simp
  · have h2 : ¬ (⟨x.toArray⟩ : Str) = ⟨y.toArray⟩ := fun e => h (by have := congrArg tl e; simpa [tl_mk] using this)
    rw [beq_eq_false_iff_ne.mpr h2, beq_eq_false_iff_ne.mpr h]
theorem shal_noexc {n : Nat} {c : Nat} {f : List D} : shal n (.exc c f) = false := by cases n <;> rfl
theorem shal_nodct {n : Nat} {c f : List D} : shal n (.dct c f) = false := by cases n <;> rfl
mutual
theorem eqd_pd : ∀ {n : Nat} {a b : D}, shal n a = true → shal n b = true → PyData.eqv (toPD a) (toPD b) = eqd a b
  | n, .exc _ _, b, h, _ => by rw [shal_noexc] at h; cases h
  | n, a, .exc _ _, _, h => by rw [shal_noexc] at h; cases h
  | n, .dct _ _, b, h, _ => by rw [shal_nodct] at h; cases h
  | n, a, .dct _ _, _, h => by rw [shal_nodct] at h; cases h
  | n, .non, b, _, h2 => by cases b <;> first | (rw [shal_noexc] at h2; cases h2) | (rw [shal_nodct] at h2; cases h2) | simp [toPD, PyData.eqv, eqd]
  | n, .bl x, b, _, h2 => by cases b <;> first | (rw [shal_noexc] at h2; cases h2) | (rw [shal_nodct] at h2; cases h2) | simp [toPD, PyData.eqv, eqd]
  | n, .int x, b, _, h2 => by cases b <;> first | (rw [shal_noexc] at h2; cases h2) | (rw [shal_nodct] at h2; cases h2) | simp [toPD, PyData.eqv, eqd]
  | n, .str x, .str y, _, _ => by simp only [toPD, PyData.eqv, eqd]; exact str_beq x y
  | n, .str x, .non, _, _ => by simp [toPD, PyData.eqv, eqd]
  | n, .str x, .bl _, _, _ => by simp [toPD, PyData.eqv, eqd]
  | n, .str x, .int _, _, _ => by simp [toPD, PyData.eqv, eqd]
  | n, .str x, .lst _, _, _ => by simp [toPD, PyData.eqv, eqd]
  | n, .str x, .tup _, _, _ => by simp [toPD, PyData.eqv, eqd]
  | 0, .lst _, _, h, _ => by simp [shal] at h
  | 0, .tup _, _, h, _ => by simp [shal] at h
  | n + 1, .lst x, .lst y, h, g => by
    simp only [shal, List.all_eq_true] at h g
    simp only [toPD, PyData.eqv, eqd]
    exact eqds_pd (n := n) h g
  | n + 1, .tup x, .tup y, h, g => by
    simp only [shal, List.all_eq_true] at h g
    simp only [toPD, PyData.eqv, eqd]
    exact eqds_pd (n := n) h g
  | n, .lst x, .non, _, _ => by simp [toPD, PyData.eqv, eqd]
  | n, .lst x, .bl _, _, _ => by simp [toPD, PyData.eqv, eqd]
  | n, .lst x, .int _, _, _ => by simp [toPD, PyData.eqv, eqd]
  | n, .lst x, .str _, _, _ => by simp [toPD, PyData.eqv, eqd]
  | n, .lst x, .tup _, _, _ => by simp [toPD, PyData.eqv, eqd]
  | n, .tup x, .non, _, _ => by simp [toPD, PyData.eqv, eqd]
  | n, .tup x, .bl _, _, _ => by simp [toPD, PyData.eqv, eqd]
  | n, .tup x, .int _, _, _ => by simp [toPD, PyData.eqv, eqd]
  | n, .tup x, .str _, _, _ => by simp [toPD, PyData.eqv, eqd]
  | n, .tup x, .lst _, _, _ => by simp [toPD, PyData.eqv, eqd]
theorem eqds_pd : ∀ {n : Nat} {a b : List D}, (∀ d ∈ a, shal n d = true) → (∀ d ∈ b, shal n d = true) → PyData.eqvAll (toPDs a) (toPDs b) = eqds a b
  | n, [], [], _, _ => by simp [toPDs, PyData.eqvAll, eqds]
  | n, [], _ :: _, _, _ => by simp [toPDs, PyData.eqvAll, eqds]
  | n, _ :: _, [], _, _ => by simp [toPDs, PyData.eqvAll, eqds]
  | n, x :: xs, y :: ys, h, g => by
    simp only [toPDs, PyData.eqvAll, eqds]
    rw [eqd_pd (h x List.mem_cons_self) (g y List.mem_cons_self), eqds_pd (fun d hd => h d (List.mem_cons_of_mem _ hd)) (fun d hd => g d (List.mem_cons_of_mem _ hd))]
end
end Z

/-! Z4: comparisons, tests, items, slices, built-ins -/
namespace Z
open PySem PySem.Spec PyProof.Rows L2 TL
theorem shaped_of {K : PySem.W.Frag} {F : Hp} {d : D} {v : V} (r : Rep K F d v) {n : Nat} (h : shal n d = true) (hn : n ≤ 64) : SeqAt.shaped (toPD d) = true := by
  unfold SeqAt.shaped
  rw [r.lay, decide_eq_true (Nat.le_trans (shal_depth h) hn)]
  rfl
theorem lexI_eq : ∀ (a b : List Int), lexI a b = HT.lexLt a b
  | [], [] => rfl
  | [], _ :: _ => rfl
  | _ :: _, [] => rfl
  | x :: xs, y :: ys => by rw [lexI, HT.lexLt_cons, lexI_eq xs ys]
theorem intsO_vals {K : PySem.W.Frag} {F : Hp} : ∀ {l : List D} {ns : List Int} {vs : List V}, intsO l = some ns → Reps K F l vs → vs = ns.map V.int
  | [], _, _, h, r => by simp only [intsO] at h; cases h; simp only [Reps] at r; exact r
  | d :: l, ns, _, h, r => by
    simp only [Reps] at r
    obtain ⟨v, w, rfl, q, z⟩ := r
    cases d <;> simp only [intsO, reduceCtorEq, Option.map_eq_some_iff] at h
    obtain ⟨ms, h1, rfl⟩ := h
    rw [Rep.int_iff.mp q, intsO_vals h1 z]
    rfl
section
variable {X : Cx} {n : Nat}
/-- what a comparison asks, by the data -/
structure CpS (X : Cx) (op : CmpOp) (g : D → D → Option Bool) (rd : R2) : Prop where
  op : OpR X (compareOp op) rd
  ok : ∀ {x y : D} {b : Bool} {v w : V} {H F : Hp} {Q : VK}, g x y = some b → Rep X.K F x v → Rep X.K F y w → Same F H → Q (.bl b) H → rd v w H Q
theorem cpS_eq (c : Ck X n) : CpS X .Eq (Cp.f .eq) (rEqD X.K) := by
  refine ⟨op_eqD c.room.units, ?_⟩
  intro x y b v w H F Q hg hx hy s q
  simp only [Cp.f, eqD] at hg
  split at hg
  · rename_i h
    rw [Bool.and_eq_true] at h
    cases hg
    exact ⟨_, _, hx.dp s h.1, hy.dp s h.2, shaped_of hx h.1 (by decide), shaped_of hy h.2 (by decide), by rw [eqd_pd h.1 h.2]; exact q⟩
  · cases hg
theorem cpS_ne (c : Ck X n) : CpS X .NotEq (Cp.f .ne) (rNeD X.K) := by
  refine ⟨op_neD c.room.units, ?_⟩
  intro x y b v w H F Q hg hx hy s q
  simp only [Cp.f, eqD] at hg
  split at hg
  · rename_i h
    rw [Bool.and_eq_true] at h
    cases hg
    exact ⟨_, _, hx.dp s h.1, hy.dp s h.2, shaped_of hx h.1 (by decide), shaped_of hy h.2 (by decide), by rw [eqd_pd h.1 h.2]; exact q⟩
  · cases hg
theorem cpS_int {op : CmpOp} {g : D → D → Option Bool} {k : Int → Int → Bool} (h : OpR X (compareOp op) (rI0 fun i j => .bl (k i j)))
    (hg : ∀ x y b, g x y = some b → ∃ i j, x = .int i ∧ y = .int j ∧ b = k i j) : CpS X op g (rI0 fun i j => .bl (k i j)) := by
  refine ⟨h, ?_⟩
  intro x y b v w H F Q e hx hy s q
  obtain ⟨i, j, rfl, rfl, rfl⟩ := hg x y b e
  exact ⟨i, j, Rep.int_iff.mp hx, Rep.int_iff.mp hy, q⟩
theorem cpS_lt (c : Ck X n) : CpS X .Lt (Cp.f .lt) (fun x y H Q => rI0 (fun i j => .bl (decide (i < j))) x y H Q ∨ rLtT X.K x y H Q) := by
  refine ⟨op_lt.or (op_ltT (by have := c.room.un; omega)), ?_⟩
  intro x y b v w H F Q e hx hy s q
  simp only [Cp.f] at e
  cases x <;> cases y <;> simp only [Cp.f, Option.some.injEq, reduceCtorEq] at e
  · subst e
    exact .inl ⟨_, _, Rep.int_iff.mp hx, Rep.int_iff.mp hy, q⟩
  · unfold ltT at e
    obtain ⟨ns, e1, e⟩ := Option.bind_eq_some_iff.mp e
    obtain ⟨ms, e2, rfl⟩ := Option.map_eq_some_iff.mp e
    obtain ⟨a, vs, h1, s1, z1⟩ := Rep.tup_iff.mp hx
    obtain ⟨a2, vs2, h2, s2, z2⟩ := Rep.tup_iff.mp hy
    have e1 := intsO_vals e1 z1
    have e2 := intsO_vals e2 z2
    subst e1 e2
    refine .inr ⟨a, a2, ns, ms, h1, h2, SqT.up s s1, SqT.up s s2, ?_⟩
    rw [← lexI_eq]
    exact q
def Cp.op : Cp → CmpOp
  | .eq => .Eq
  | .ne => .NotEq
  | .lt => .Lt
  | .le => .LtE
  | .gt => .Gt
  | .ge => .GtE
theorem cpS_all (c : Ck X n) (k : Cp) : ∃ rd, CpS X k.op k.f rd := by
  cases k with
  | eq => exact ⟨_, cpS_eq c⟩
  | ne => exact ⟨_, cpS_ne c⟩
  | lt => exact ⟨_, cpS_lt c⟩
  | le => exact ⟨_, cpS_int op_le fun x y b h => by cases x <;> cases y <;> simp only [Cp.f, Option.some.injEq, reduceCtorEq] at h; exact ⟨_, _, rfl, rfl, h.symm⟩⟩
  | gt => exact ⟨_, cpS_int op_gt fun x y b h => by cases x <;> cases y <;> simp only [Cp.f, Option.some.injEq, reduceCtorEq] at h; exact ⟨_, _, rfl, rfl, h.symm⟩⟩
  | ge => exact ⟨_, cpS_int op_ge fun x y b h => by cases x <;> cases y <;> simp only [Cp.f, Option.some.injEq, reduceCtorEq] at h; exact ⟨_, _, rfl, rfl, h.symm⟩⟩
def Op.op : Op → Operator
  | .add => .Add
  | .sub => .Sub
  | .mul => .Mult
  | .div => .FloorDiv
  | .mod => .Mod
  | .pow => .Pow
theorem opS_all (o : Op) : ∃ rd, OpS X (binaryOp o.op) o.g rd := by
  cases o with
  | add => exact ⟨_, opS_add⟩
  | sub => exact ⟨_, opS_sub⟩
  | mul => exact ⟨_, opS_mul⟩
  | div => exact ⟨_, opS_div⟩
  | mod => exact ⟨_, opS_mod⟩
  | pow => exact ⟨_, opS_pow⟩
/-! ### x in y -/
def rInT (K : PySem.W.Frag) : R2 := fun x y H Q => ∃ d ds, Dp K H x d ∧ Dp K H y (.tuple ds) ∧ SeqAt.shaped d = true ∧ SeqAt.shaped (.tuple ds) = true ∧ Q (.bl (ds.any fun z => PyData.eqv z d)) H
def rNotInT (K : PySem.W.Frag) : R2 := fun x y H Q => ∃ d ds, Dp K H x d ∧ Dp K H y (.tuple ds) ∧ SeqAt.shaped d = true ∧ SeqAt.shaped (.tuple ds) = true ∧ Q (.bl (!ds.any fun z => PyData.eqv z d)) H
theorem op_inT (hu : X.A.units + 65 < cLine) : OpR X (compareOp .In) (rInT X.K) := by
  intro pins s σ H x y v u Q I rx ry h
  obtain ⟨d, ds, hd, he, sd, se, q⟩ := h
  obtain ⟨as, r1⟩ := Dp.reads I d x v hd rx
  obtain ⟨bs, r2⟩ := Dp.reads I (.tuple ds) y u he ry
  exact SeqAt.in_tuple_reads r2 r1 (SeqAt.canLay_of_shaped se) (SeqAt.canLay_of_shaped sd) (room_in_shaped sd hu) ⟨.bl _, H, I, rfl, q⟩
theorem op_notInT (hu : X.A.units + 65 < cLine) : OpR X (compareOp .NotIn) (rNotInT X.K) := by
  intro pins s σ H x y v u Q I rx ry h
  obtain ⟨d, ds, hd, he, sd, se, q⟩ := h
  obtain ⟨as, r1⟩ := Dp.reads I d x v hd rx
  obtain ⟨bs, r2⟩ := Dp.reads I (.tuple ds) y u he ry
  exact SeqAt.notIn_tuple_reads r2 r1 (SeqAt.canLay_of_shaped se) (SeqAt.canLay_of_shaped sd) (room_in_shaped sd hu) ⟨.bl _, H, I, rfl, q⟩
theorem any_pd {a : D} {n : Nat} (ha : shal n a = true) : ∀ {l : List D}, (∀ d ∈ l, shal n d = true) → (toPDs l).any (fun z => PyData.eqv z (toPD a)) = l.any fun y => eqd y a
  | [], _ => rfl
  | d :: l, h => by
    unfold toPDs
    rw [List.any_cons, List.any_cons, eqd_pd (h d List.mem_cons_self) ha, any_pd ha fun x hx => h x (List.mem_cons_of_mem _ hx)]
theorem room65 (c : Ck X n) : X.A.units + 65 < cLine := by have := c.room.un; omega
theorem shal_lst {n : Nat} {l : List D} (h : l.all (shal n) = true) : shal (n + 1) (.lst l) = true := h
theorem shal_tup {n : Nat} {l : List D} (h : l.all (shal n) = true) : shal (n + 1) (.tup l) = true := h
theorem inS_all (c : Ck X n) (neg : Bool) : ∃ rd, CpS X (if neg then .NotIn else .In) (fun x y => (inD x y).map fun b => if neg then !b else b) rd := by
  have key : ∀ {x y : D} {b : Bool} {v w : V} {H F : Hp}, inD x y = some b → Rep X.K F x v → Rep X.K F y w → Same F H →
      (∃ (c : Nat) (z : Str), v = V.str ⟨#[c]⟩ ∧ w = V.str z ∧ b = decide (c ∈ z.cps.toList)) ∨
      (∃ d ds, Dp X.K H v d ∧ Dp X.K H w (.list ds) ∧ SeqAt.shaped d = true ∧ SeqAt.shaped (.list ds) = true ∧ b = ds.any fun z => PyData.eqv z d) ∨
      (∃ d ds, Dp X.K H v d ∧ Dp X.K H w (.tuple ds) ∧ SeqAt.shaped d = true ∧ SeqAt.shaped (.tuple ds) = true ∧ b = ds.any fun z => PyData.eqv z d) := by
    intro x y b v w H F hg hx hy s
    unfold inD at hg
    split at hg
    · rename_i ch z
      cases hg
      refine .inl ⟨ch, ⟨z.toArray⟩, (Rep.str_iff.mp hx).1, (Rep.str_iff.mp hy).1, ?_⟩
      simp
    · rename_i l
      split at hg
      · rename_i h
        rw [Bool.and_eq_true] at h
        cases hg
        exact .inr (.inr ⟨_, toPDs l, hx.dp s h.1, hy.dp s (n := 9) (shal_tup h.2), shaped_of hx h.1 (by decide), shaped_of (n := 9) hy (shal_tup h.2) (by decide), (any_pd h.1 (List.all_eq_true.mp h.2)).symm⟩)
      · cases hg
    · rename_i l
      split at hg
      · rename_i h
        rw [Bool.and_eq_true] at h
        cases hg
        exact .inr (.inl ⟨_, toPDs l, hx.dp s h.1, hy.dp s (n := 9) (shal_lst h.2), shaped_of hx h.1 (by decide), shaped_of (n := 9) hy (shal_lst h.2) (by decide), (any_pd h.1 (List.all_eq_true.mp h.2)).symm⟩)
      · cases hg
    · cases hg
  cases neg with
  | false =>
    refine ⟨_, op_in_sign.or ((op_inD (room65 c)).or (op_inT (room65 c))), ?_⟩
    intro x y b v w H F Q hg hx hy s q
    obtain ⟨b', hb, e⟩ := Option.map_eq_some_iff.mp hg
    have e : b' = b := e
    subst e
    rcases key hb hx hy s with ⟨c, z, e1, e2, rfl⟩ | ⟨d, ds, h1, h2, h3, h4, rfl⟩ | ⟨d, ds, h1, h2, h3, h4, rfl⟩
    · exact .inl ⟨c, z, e1, e2, q⟩
    · exact .inr (.inl ⟨d, ds, h1, h2, h3, h4, q⟩)
    · exact .inr (.inr ⟨d, ds, h1, h2, h3, h4, q⟩)
  | true =>
    refine ⟨_, op_notIn_sign.or ((op_notInD (room65 c)).or (op_notInT (room65 c))), ?_⟩
    intro x y b v w H F Q hg hx hy s q
    obtain ⟨b', hb, e⟩ := Option.map_eq_some_iff.mp hg
    have e : (!b') = b := e
    subst e
    rcases key hb hx hy s with ⟨c, z, e1, e2, rfl⟩ | ⟨d, ds, h1, h2, h3, h4, rfl⟩ | ⟨d, ds, h1, h2, h3, h4, rfl⟩
    · exact .inl ⟨c, z, e1, e2, q⟩
    · exact .inr (.inl ⟨d, ds, h1, h2, h3, h4, q⟩)
    · exact .inr (.inr ⟨d, ds, h1, h2, h3, h4, q⟩)
end

section
variable {X : Cx} {ca : Nat → Addr} {W : WX} {pos : Pos} {a b d : Expr} {fa fb fd : St → R D} {n : Nat}
theorem q_bin {op : Operator} {g : D → D → Option D} {rd : R2} (o : OpS X (binaryOp op) g rd) (ha : QE X ca W a fa) (hb : QE X ca W b fb) :
    QE X ca W (.BinOp a op b pos) (fun r => (fa r).bind fun x r => (fb r).bind fun y r => .of (g x y) r) := by
  refine PE.weak (pe_op o.op ha hb) fun σ H Q ⟨r, F, p, h⟩ => ⟨r, F, p, h.step fun x r1 v H1 F1 p1 q1 h => ⟨r1, F1, p1.rp, h.step fun y r2 w H2 F2 p2 q2 h => ?_⟩⟩
  cases e : g x y with
  | none => rw [e] at h; exact h.elim
  | some z => rw [e] at h; exact o.ok e (q1.mono p2.f) q2 p2.rp h
theorem q_cmp {op : CmpOp} {g : D → D → Option Bool} {rd : R2} (o : CpS X op g rd) (ha : QE X ca W a fa) (hb : QE X ca W b fb) (hm : behindInMarks op b = false) :
    QE X ca W (.Compare a [op] [b] pos) (fun r => (fa r).bind fun x r => (fb r).bind fun y r => .of ((g x y).map .bl) r) := by
  refine PE.weak (pe_cmpR o.op ha hb hm) fun σ H Q ⟨r, F, p, h⟩ => ⟨r, F, p, h.step fun x r1 v H1 F1 p1 q1 h => ⟨r1, F1, p1.rp, h.step fun y r2 w H2 F2 p2 q2 h => ?_⟩⟩
  cases e : g x y with
  | none => rw [e] at h; exact h.elim
  | some z => rw [e] at h; exact o.ok e (q1.mono p2.f) q2 p2.rp.sub (h _ _ _ (Ps.refl p2.rp) (Rep.bl_iff.mpr rfl))
theorem q_cmp2 {op op' : CmpOp} {g g' : D → D → Option Bool} {rd rd' : R2} (o : CpS X op g rd) (o' : CpS X op' g' rd') (ha : QE X ca W a fa) (hb : QE X ca W b fb) (hd : QE X ca W d fd) (hm : lastMarks [op, op'] [b, d] = false) :
    QE X ca W (.Compare a [op, op'] [b, d] pos) (fun r => (fa r).bind fun x r => (fb r).bind fun y r => match g x y with
      | some true => (fd r).bind fun z r => .of ((g' y z).map .bl) r
      | some false => .ok (.bl false) r
      | none => .bad) := by
  refine PE.weak (pe_chain o.op o'.op ha hb hd hm) fun σ H Q ⟨r, F, p, h⟩ => ⟨r, F, p, h.step fun x r1 v H1 F1 p1 q1 h => ⟨r1, F1, p1.rp, h.step fun y r2 w H2 F2 p2 q2 h => ?_⟩⟩
  cases e : g x y with
  | none => simp only [e] at h; exact h.elim
  | some z =>
    simp only [e] at h
    refine o.ok e (q1.mono p2.f) q2 p2.rp.sub ⟨z, rfl, ?_⟩
    cases z with
    | false => exact iteF (h _ _ _ (Ps.refl p2.rp) (Rep.bl_iff.mpr rfl))
    | true =>
      refine iteT ⟨r2, F2, p2.rp, h.step fun z r3 u H3 F3 p3 q3 h => ?_⟩
      cases e' : g' y z with
      | none => rw [e'] at h; exact h.elim
      | some k => rw [e'] at h; exact o'.ok e' (q2.mono p3.f) q3 p3.rp.sub (h _ _ _ (Ps.refl p3.rp) (Rep.bl_iff.mpr rfl))
theorem rep_non {K : PySem.W.Frag} {F : Hp} {x : D} {v : V} (r : Rep K F x v) : decide (v = V.non) = x.isNon := by
  cases x with
  | non => rw [Rep.non_iff.mp r]; rfl
  | bl b => rw [Rep.bl_iff.mp r]; rfl
  | int b => rw [Rep.int_iff.mp r]; rfl
  | str b => rw [(Rep.str_iff.mp r).1]; rfl
  | lst b => obtain ⟨a, _, e, _⟩ := Rep.lst_iff.mp r; rw [e]; rfl
  | tup b => obtain ⟨a, _, e, _⟩ := Rep.tup_iff.mp r; rw [e]; rfl
  | exc _ _ => simp only [Rep] at r; obtain ⟨a, _, _, e, _⟩ := r; rw [e]; rfl
  | dct _ _ => simp only [Rep] at r; obtain ⟨a, _, e, _⟩ := r; rw [e]; rfl
theorem q_isN {j : Nat} {p2 : Pos} (ha : QE X ca W a fa) : QE X ca W (.Compare a [.Is] [.Constant .none j p2] pos) (fun r => (fa r).bind fun x r => .ok (.bl x.isNon) r) := by
  refine PE.weak (pe_cmp (pc_isN ha)) fun σ H Q ⟨r, F, p, h⟩ => ⟨r, F, p, h.step fun x r1 v H1 F1 p1 q1 h => ?_⟩
  rw [rep_non q1]
  exact h _ _ _ (Ps.refl p1.rp) (Rep.bl_iff.mpr rfl)
theorem q_notN {j : Nat} {p2 : Pos} (ha : QE X ca W a fa) : QE X ca W (.Compare a [.IsNot] [.Constant .none j p2] pos) (fun r => (fa r).bind fun x r => .ok (.bl !x.isNon) r) := by
  refine PE.weak (pe_cmp (pc_notN ha)) fun σ H Q ⟨r, F, p, h⟩ => ⟨r, F, p, h.step fun x r1 v H1 F1 p1 q1 h => ?_⟩
  rw [rep_non q1]
  exact h _ _ _ (Ps.refl p1.rp) (Rep.bl_iff.mpr rfl)
/-! ### and, or, not, if -/
theorem q_not (ha : QE X ca W a fa) : QE X ca W (.UnaryOp .Not a pos) (fun r => (fa r).bind fun x r => match x with | .bl b => .ok (.bl !b) r | _ => .bad) := by
  refine PE.weak (pe_not ha) fun σ H Q ⟨r, F, p, h⟩ => ⟨r, F, p, h.step fun x r1 v H1 F1 p1 q1 h => ?_⟩
  cases x with
  | bl c => exact ⟨c, Rep.bl_iff.mp q1, h _ _ _ (Ps.refl p1.rp) (Rep.bl_iff.mpr rfl)⟩
  | _ => exact h.elim
theorem q_neg (ha : QE X ca W a fa) : QE X ca W (.UnaryOp .USub a pos) (fun r => (fa r).bind fun x r => match x with | .int i => .ok (.int (-i)) r | _ => .bad) := by
  refine PE.weak (pe_un un_neg ha) fun σ H Q ⟨r, F, p, h⟩ => ⟨r, F, p, h.step fun x r1 v H1 F1 p1 q1 h => ?_⟩
  cases x with
  | int c => exact ⟨c, Rep.int_iff.mp q1, h _ _ _ (Ps.refl p1.rp) (Rep.int_iff.mpr rfl)⟩
  | _ => exact h.elim
/-- an expression whose value is a truth value -/
theorem bl_of {f : St → R D} {e : Expr} (h : QE X ca W e f) : QE X ca W e (fun r => (f r).bind fun y r => .of ((tru y).map .bl) r) := by
  refine PE.weak h fun σ H Q ⟨r, F, p, h⟩ => ⟨r, F, p, h.step fun x r1 v H1 F1 p1 q1 h => ?_⟩
  cases x with
  | bl c => exact h _ _ _ (Ps.refl p1.rp) q1
  | _ => exact h.elim
def andF (fa fb : St → R D) : St → R D := fun r => (fa r).bind fun x r => match x with
  | .bl true => (fb r).bind fun y r => .of ((tru y).map .bl) r
  | .bl false => .ok (.bl false) r
  | _ => .bad
def orF (fa fb : St → R D) : St → R D := fun r => (fa r).bind fun x r => match x with
  | .bl true => .ok (.bl true) r
  | .bl false => (fb r).bind fun y r => .of ((tru y).map .bl) r
  | _ => .bad
theorem q_and1 {es : List Expr} (ha : QE X ca W a fa) (hb : QE X ca W (.BoolOp .And (b :: es) pos) fb) : QE X ca W (.BoolOp .And (a :: b :: es) pos) (andF fa fb) := by
  refine PE.weak (pe_and ha (bl_of hb)) fun σ H Q ⟨r, F, p, h⟩ => ⟨r, F, p, Fi.step h fun x r1 v H1 F1 p1 q1 h => ?_⟩
  cases x with
  | bl c =>
    refine ⟨c, Rep.bl_iff.mp q1, ?_⟩
    cases c with
    | true => exact iteT ⟨r1, F1, p1.rp, h⟩
    | false => exact iteF (h _ _ _ (Ps.refl p1.rp) (Rep.bl_iff.mpr rfl))
  | _ => exact h.elim
theorem q_or1 {es : List Expr} (ha : QE X ca W a fa) (hb : QE X ca W (.BoolOp .Or (b :: es) pos) fb) : QE X ca W (.BoolOp .Or (a :: b :: es) pos) (orF fa fb) := by
  refine PE.weak (pe_or ha (bl_of hb)) fun σ H Q ⟨r, F, p, h⟩ => ⟨r, F, p, Fi.step h fun x r1 v H1 F1 p1 q1 h => ?_⟩
  cases x with
  | bl c =>
    refine ⟨c, Rep.bl_iff.mp q1, ?_⟩
    cases c with
    | true => exact iteT (h _ _ _ (Ps.refl p1.rp) (Rep.bl_iff.mpr rfl))
    | false => exact iteF ⟨r1, F1, p1.rp, h⟩
  | _ => exact h.elim
theorem q_one {op : BoolOp} (ha : QE X ca W a fa) : QE X ca W (.BoolOp op [a] pos) fa := pe_one ha
end
end Z

/-! Z5: tests, items, slices, built-ins, methods -/
namespace Z
open PySem PySem.Spec PyProof.Rows L2 TL

section
variable {X : Cx} {ca : Nat → Addr} {W : WX} {pos : Pos} {a b d e : Expr} {fa fb fd f : St → R D} {n : Nat}
/-! ### tests -/
def relT : Rl D Bool := fun _ d b => d = .bl b
def tT (K : PySem.W.Frag) (ca : Nat → Addr) (W : WX) (f : St → R D) : TT := fun σ H Q => ∃ r F, Rp K r σ H F ∧ Fi K ca W relT (f r) r σ H F Q
abbrev QT (X : Cx) (ca : Nat → Addr) (W : WX) (e : Expr) (f : St → R D) : Prop := PT X e (tT X.K ca W f)
theorem qt_plain (h : QE X ca W e f) (he : ∀ whole, isTrue e X.env whole = (do let v ← whole; standAt e.pos; holding [v] (truthy v))) : QT X ca W e (fun r => (f r).bind fun y r => .of ((tru y).map .bl) r) := by
  refine PT.weak (pt_val h he) fun σ H Q ⟨r, F, p, h⟩ => ⟨r, F, p, Fi.step h fun x r1 v H1 F1 p1 q1 h => ?_⟩
  cases x with
  | bl c => exact ⟨c, Rep.bl_iff.mp q1, h _ _ _ (Ps.refl p1.rp) rfl⟩
  | _ => exact h.elim
theorem bt_of (h : QT X ca W e f) : QT X ca W e (fun r => (f r).bind fun y r => .of ((tru y).map .bl) r) := by
  refine PT.weak h fun σ H Q ⟨r, F, p, h⟩ => ⟨r, F, p, Fi.step h fun x r1 v H1 F1 p1 q1 h => ?_⟩
  cases q1
  exact h _ _ _ (Ps.refl p1.rp) rfl
theorem qt_cmp {op : CmpOp} {g : D → D → Option Bool} {rd : R2} (o : CpS X op g rd) (ha : QE X ca W a fa) (hb : QE X ca W b fb) (hm : behindInMarks op b = false) :
    QT X ca W (.Compare a [op] [b] pos) (fun r => (fa r).bind fun x r => (fb r).bind fun y r => .of ((g x y).map .bl) r) := by
  refine PT.weak (pt_cmpR o.op ha hb hm) fun σ H Q ⟨r, F, p, h⟩ => ⟨r, F, p, Fi.step h fun x r1 v H1 F1 p1 q1 h => ⟨r1, F1, p1.rp, Fi.step h fun y r2 w H2 F2 p2 q2 h => ?_⟩⟩
  cases e : g x y with
  | none => rw [e] at h; exact h.elim
  | some z => rw [e] at h; exact o.ok e (q1.mono p2.f) q2 p2.rp.sub ⟨z, rfl, h _ _ _ (Ps.refl p2.rp) rfl⟩
theorem qt_cmp2 {op op' : CmpOp} {g g' : D → D → Option Bool} {rd rd' : R2} (o : CpS X op g rd) (o' : CpS X op' g' rd') (ha : QE X ca W a fa) (hb : QE X ca W b fb) (hd : QE X ca W d fd) (hm : lastMarks [op, op'] [b, d] = false) :
    QT X ca W (.Compare a [op, op'] [b, d] pos) (fun r => (fa r).bind fun x r => (fb r).bind fun y r => match g x y with
      | some true => (fd r).bind fun z r => .of ((g' y z).map .bl) r
      | some false => .ok (.bl false) r
      | none => .bad) := by
  refine PT.weak (pt_chain o.op o'.op ha hb hd hm) fun σ H Q ⟨r, F, p, h⟩ => ⟨r, F, p, Fi.step h fun x r1 v H1 F1 p1 q1 h => ⟨r1, F1, p1.rp, Fi.step h fun y r2 w H2 F2 p2 q2 h => ?_⟩⟩
  cases e : g x y with
  | none => simp only [e] at h; exact h.elim
  | some z =>
    simp only [e] at h
    refine o.ok e (q1.mono p2.f) q2 p2.rp.sub ⟨z, rfl, ?_⟩
    cases z with
    | false => exact iteF ⟨_, rfl, h _ _ _ (Ps.refl p2.rp) rfl⟩
    | true =>
      refine iteT ⟨r2, F2, p2.rp, Fi.step h fun z r3 u H3 F3 p3 q3 h => ?_⟩
      cases e' : g' y z with
      | none => rw [e'] at h; exact h.elim
      | some k => rw [e'] at h; exact o'.ok e' (q2.mono p3.f) q3 p3.rp.sub ⟨_, rfl, h _ _ _ (Ps.refl p3.rp) rfl⟩
theorem qt_isN {j : Nat} {p2 : Pos} (ha : QE X ca W a fa) : QT X ca W (.Compare a [.Is] [.Constant .none j p2] pos) (fun r => (fa r).bind fun x r => .ok (.bl x.isNon) r) := by
  refine PT.weak (pt_cmp (pc_isN ha)) fun σ H Q ⟨r, F, p, h⟩ => ⟨r, F, p, Fi.step h fun x r1 v H1 F1 p1 q1 h => ⟨_, rfl, ?_⟩⟩
  rw [rep_non q1]
  exact h _ _ _ (Ps.refl p1.rp) rfl
theorem qt_notN {j : Nat} {p2 : Pos} (ha : QE X ca W a fa) : QT X ca W (.Compare a [.IsNot] [.Constant .none j p2] pos) (fun r => (fa r).bind fun x r => .ok (.bl !x.isNon) r) := by
  refine PT.weak (pt_cmp (pc_notN ha)) fun σ H Q ⟨r, F, p, h⟩ => ⟨r, F, p, Fi.step h fun x r1 v H1 F1 p1 q1 h => ⟨_, rfl, ?_⟩⟩
  rw [rep_non q1]
  exact h _ _ _ (Ps.refl p1.rp) rfl
theorem qt_not (ha : QT X ca W a fa) : QT X ca W (.UnaryOp .Not a pos) (fun r => (fa r).bind fun x r => match x with | .bl b => .ok (.bl !b) r | _ => .bad) := by
  refine PT.weak (pt_not ha) fun σ H Q ⟨r, F, p, h⟩ => ⟨r, F, p, Fi.step h fun x r1 v H1 F1 p1 q1 h => ?_⟩
  cases q1
  exact h _ _ _ (Ps.refl p1.rp) rfl
abbrev QW (X : Cx) (ca : Nat → Addr) (W : WX) (e : Expr) (f : St → R D) : Prop := PW X e (tT X.K ca W f)
theorem PW.weak {e : Expr} {t t' : TT} (h : PW X e t) (w : ∀ σ H Q, t' σ H Q → t σ H Q) : PW X e t' := ⟨fun wh pins s σ H Q I q => h.run wh pins s σ H Q I (w σ H Q q)⟩
theorem wt_of (h : QW X ca W e f) : QW X ca W e (fun r => (f r).bind fun y r => .of ((tru y).map .bl) r) := by
  refine PW.weak h fun σ H Q ⟨r, F, p, h⟩ => ⟨r, F, p, Fi.step h fun x r1 v H1 F1 p1 q1 h => ?_⟩
  cases q1
  exact h _ _ _ (Ps.refl p1.rp) rfl
theorem qw_and {es : List Expr} (ha : QT X ca W a fa) (hb : QW X ca W (.BoolOp .And (b :: es) pos) fb) : QW X ca W (.BoolOp .And (a :: b :: es) pos) (andF fa fb) := by
  refine PW.weak (pw_and ha (wt_of hb)) fun σ H Q ⟨r, F, p, h⟩ => ⟨r, F, p, Fi.step h fun x r1 v H1 F1 p1 q1 h => ?_⟩
  cases q1
  cases v with
  | true => exact iteT ⟨r1, F1, p1.rp, h⟩
  | false => exact iteF (h _ _ _ (Ps.refl p1.rp) rfl)
theorem qw_or {es : List Expr} (ha : QT X ca W a fa) (hb : QW X ca W (.BoolOp .Or (b :: es) pos) fb) : QW X ca W (.BoolOp .Or (a :: b :: es) pos) (orF fa fb) := by
  refine PW.weak (pw_or ha (wt_of hb)) fun σ H Q ⟨r, F, p, h⟩ => ⟨r, F, p, Fi.step h fun x r1 v H1 F1 p1 q1 h => ?_⟩
  cases q1
  cases v with
  | true => exact iteT (h _ _ _ (Ps.refl p1.rp) rfl)
  | false => exact iteF ⟨r1, F1, p1.rp, h⟩
theorem qw_and1 (ha : QT X ca W a fa) : QW X ca W (.BoolOp .And [a] pos) fa := pw_and1 ha
theorem qw_or1 (ha : QT X ca W a fa) : QW X ca W (.BoolOp .Or [a] pos) fa := pw_or1 ha
/-- a if c else b -/
theorem q_ite {c : Expr} {fc : St → R D} (hc : QT X ca W c fc) (ha : QE X ca W a fa) (hb : QE X ca W b fb) :
    QE X ca W (.IfExp c a b pos) (fun r => (fc r).bind fun x r => match x with | .bl true => fa r | .bl false => fb r | _ => .bad) := by
  refine PE.weak (pe_ifExp hc ha hb) fun σ H Q ⟨r, F, p, h⟩ => ⟨r, F, p, Fi.step h fun x r1 v H1 F1 p1 q1 h => ?_⟩
  cases q1
  cases v with
  | true => exact iteT ⟨r1, F1, p1.rp, h⟩
  | false => exact iteF ⟨r1, F1, p1.rp, h⟩

/-! ### items -/
def noSlice : Expr → Bool
  | .Slice _ _ _ _ => false
  | _ => true
theorem plainIx (h : noSlice b = true) : PlainIx b := by
  intro o i
  cases b <;> first | rfl | cases h
theorem atL_at {K : PySem.W.Frag} {F : Hp} {l : List D} {vs : List V} {i : Int} {x : D} (q : Reps K F l vs) (h : atL l i = some x) : ∃ v, atI vs i = some v ∧ Rep K F x v := by
  have hl := q.length
  unfold atL at h
  unfold atI ixN
  split at h
  · rename_i h0
    obtain ⟨v, e, z⟩ := q.get h
    have hlt : i.toNat < vs.length := (List.getElem?_eq_some_iff.mp e).1
    refine ⟨v, ?_, z⟩
    rw [if_pos h0, if_pos (by omega)]
    exact e
  · rename_i h0
    split at h
    · rename_i h1
      obtain ⟨v, e, z⟩ := q.get h
      refine ⟨v, ?_, z⟩
      rw [if_neg h0, if_pos (by rw [← hl]; exact h1)]
      show vs[(i + (vs.length : Int)).toNat]? = _
      rw [← hl]
      exact e
    · cases h
theorem atL_sig {s : List Nat} {i : Int} {c : Nat} (h : atL s i = some c) : atI s i = some c := by
  unfold atL at h
  unfold atI ixN
  split at h
  · rename_i h0
    have hlt : i.toNat < s.length := (List.getElem?_eq_some_iff.mp h).1
    rw [if_pos h0, if_pos (by omega)]
    exact h
  · rename_i h0
    split at h
    · rename_i h1
      rw [if_neg h0, if_pos h1]
      exact h
    · cases h
theorem atL_mem {α : Type} {l : List α} {i : Int} {c : α} (h : atL l i = some c) : c ∈ l := by
  unfold atL at h
  split at h
  · exact List.mem_of_getElem? h
  · split at h
    · exact List.mem_of_getElem? h
    · cases h
theorem SOk.one {s : List Nat} (h : SOk s) {c : Nat} (hc : c ∈ s) : SOk [c] := by
  refine ⟨?_, by show 1 ≤ 16777216; decide⟩
  have := List.all_eq_true.mp h.1 c hc
  simpa using this
theorem ix_ok {K : PySem.W.Frag} {x y z : D} {v w : V} {H F : Hp} {Q : VK} (h : idxD x y = some z) (hx : RepH K F H x v) (hy : Rep K F y w) (s : Same F H) (q : ∀ u, Rep K F z u → Q u H) : rIx K v w H Q := by
  unfold idxD at h
  split at h
  · obtain ⟨a, vs, e, l, r⟩ := hx.lst s
    obtain ⟨u, e2, ru⟩ := atL_at r h
    exact .inl ⟨a, vs, _, u, e, Rep.int_iff.mp hy, l, e2, q u ru⟩
  · obtain ⟨a, vs, e, l, r⟩ := Rep.tup_iff.mp (hx.of_notL fun _ z => z)
    obtain ⟨u, e2, ru⟩ := atL_at r h
    exact .inr (.inl ⟨a, vs, _, u, e, Rep.int_iff.mp hy, SqT.up s l, e2, q u ru⟩)
  · rename_i t i
    obtain ⟨c, hc, e⟩ := Option.map_eq_some_iff.mp h
    subst e
    obtain ⟨e, o⟩ := Rep.str_iff.mp (hx.of_notL fun _ z => z)
    exact .inr (.inr ⟨_, _, c, e, Rep.int_iff.mp hy, by rw [len_mk]; exact o.len, atL_sig hc, q _ (Rep.str_iff.mpr ⟨rfl, o.one (atL_mem hc)⟩)⟩)
  · cases h
theorem q_idx (ha : QE X ca W a fa) (hb : QE X ca W b fb) (hs : noSlice b = true) : QE X ca W (.Subscript a b pos) (fun r => (fa r).bind fun x r => (fb r).bind fun y r => .of (idxD x y) r) := by
  refine PE.weak (pe_ix ix_seq ha hb (plainIx hs)) fun σ H Q ⟨r, F, p, h⟩ => ⟨r, F, p, Fi.step h fun x r1 v H1 F1 p1 q1 h => ⟨r1, F1, p1.rp, Fi.step h fun y r2 w H2 F2 p2 q2 h => ?_⟩⟩
  cases e : idxD x y with
  | none => rw [e] at h; exact h.elim
  | some z => rw [e] at h; exact ix_ok e (.inl (q1.mono p2.f)) q2 p2.rp.sub fun u ru => h u _ _ (Ps.refl p2.rp) ru
theorem q_idxv {i : Nat} {x : Str} {px : Pos} (hN : X.N[i]? = some x) (hv : Vis X.env.scope x) (hd : (x == ("__debug__" : Str)) = false) (hcd : (x == ("__classdict__" : Str)) = false) (hb : QE X ca W b fb) (hs : noSlice b = true) :
    QE X ca W (.Subscript (.Name x px) b pos) (fun r => if (pkv i r).isSome then (fb r).bind fun y r => .of ((pkv i r).bind fun x => idxD x y) r else .bad) := by
  refine PE.weak (pe_ix ix_seq (pe_var hN hv hd hcd) hb (plainIx hs)) fun σ H Q ⟨r, F, p, h⟩ => ?_
  dsimp only at h
  split at h
  case isFalse => exact h.elim
  rename_i h0
  obtain ⟨x0, e0⟩ := Option.isSome_iff_exists.mp h0
  obtain ⟨v, hv, _⟩ := p.pk e0
  refine ⟨v, hv, r, F, p, Fi.step h fun y r1 w H1 F1 p1 q1 h => ?_⟩
  cases e : pkv i r1 with
  | none => rw [e] at h; exact h.elim
  | some x =>
    rw [e] at h
    obtain ⟨v', hv', q⟩ := p1.rp.pk e
    rw [hv] at hv'
    cases hv'
    cases e2 : idxD x y with
    | none => simp only [Option.bind, e2] at h; exact h.elim
    | some z => simp only [Option.bind, e2] at h; exact ix_ok e2 q q1 p1.rp.sub fun u ru => h u _ _ (Ps.refl p1.rp) ru

theorem q_lenv {i : Nat} {x : Str} {p px : Pos} (hN : X.N[i]? = some x) (hv : Vis X.env.scope x) (hd : (x == ("__debug__" : Str)) = false) (hcd : (x == ("__classdict__" : Str)) = false) (hg : Gl X "len") (hm : X.mg "len" = none) :
    QE X ca W (.Call (.Name "len" p) [.Name x px] [] pos) (fun r => .of ((pkv i r).bind lenD) r) := by
  refine PE.weak (pe_callB call_len hg hm PySem.boot_len (pa_cons (pe_var hN hv hd hcd) pa_nil)) fun σ H Q ⟨r, F, p, h⟩ => ?_
  dsimp only at h
  cases e : pkv i r with
  | none => rw [e] at h; exact h.elim
  | some x =>
    rw [e] at h
    obtain ⟨v, hv, q⟩ := p.pk e
    refine ⟨v, hv, v, ?_⟩
    cases x with
    | lst l =>
      obtain ⟨a, vs, e1, s1, z1⟩ := q.lst p.sub
      subst e1
      exact ⟨vs.length, rfl, .inl ⟨_, s1, rfl⟩, h _ _ _ (Ps.refl p) (Rep.int_iff.mpr (by rw [z1.length]))⟩
    | tup l =>
      obtain ⟨a, vs, e1, s1, z1⟩ := Rep.tup_iff.mp (q.of_notL fun _ z => z)
      subst e1
      exact ⟨vs.length, rfl, .inr ⟨_, SqT.up p.sub s1, rfl⟩, h _ _ _ (Ps.refl p) (Rep.int_iff.mpr (by rw [z1.length]))⟩
    | str s =>
      obtain ⟨e1, o⟩ := Rep.str_iff.mp (q.of_notL fun _ z => z)
      subst e1
      exact ⟨s.length, rfl, ⟨by rw [len_mk]; exact o.len, by rw [len_mk]⟩, h _ _ _ (Ps.refl p) (Rep.int_iff.mpr rfl)⟩
    | _ => exact h.elim

/-! ### slices -/
def relO : Rl (Option Int) (Option Int) := fun _ a b => a = b
def tO (K : PySem.W.Frag) (ca : Nat → Addr) (W : WX) (f : St → R (Option Int)) : TO := fun σ H Q => ∃ r F, Rp K r σ H F ∧ Fi K ca W relO (f r) r σ H F Q
theorem PO.weak {e : Option Expr} {t t' : TO} (h : PO X e t) (w : ∀ σ H Q, t' σ H Q → t σ H Q) : PO X e t' := ⟨fun pins s σ H Q I q => h.run pins s σ H Q I (w σ H Q q)⟩
theorem qo_none : PO X none (tO X.K ca W fun r => .ok none r) := PO.weak po_none fun σ H Q ⟨r, F, p, h⟩ => h _ _ _ (Ps.refl p) rfl
theorem qo_some (ha : QE X ca W a fa) : PO X (some a) (tO X.K ca W fun r => (fa r).bind fun d r => match d with | .int i => .ok (some i) r | _ => .bad) := by
  refine PO.weak (po_some ha) fun σ H Q ⟨r, F, p, h⟩ => ⟨r, F, p, Fi.step h fun x r1 v H1 F1 p1 q1 h => ?_⟩
  cases x with
  | int i => exact ⟨i, Rep.int_iff.mp q1, h _ _ _ (Ps.refl p1.rp) rfl⟩
  | _ => exact h.elim
theorem clip_sIx (n d : Nat) (o : Option Int) : clip n d o = HT.sIx n d o := by cases o <;> rfl
theorem cut_cutV (vs : List V) (lo hi : Option Int) : cut vs lo hi = cutV vs lo hi := by unfold cut cutV; rw [clip_sIx, clip_sIx]
theorem Reps.cut {K : PySem.W.Frag} {F : Hp} {l : List D} {vs : List V} (q : Reps K F l vs) (lo hi : Option Int) : Reps K F (Z.cut l lo hi) (cutV vs lo hi) := by
  rw [← cut_cutV]
  unfold Z.cut
  rw [q.length]
  exact Reps.take _ (Reps.drop _ q)
theorem SOk.cut {s : List Nat} (h : SOk s) (lo hi : Option Int) : SOk (Z.cut s lo hi) := by
  refine ⟨?_, ?_⟩
  · rw [List.all_eq_true]
    intro c hc
    exact List.all_eq_true.mp h.1 c (List.mem_of_mem_drop (List.mem_of_mem_take hc))
  · unfold Z.cut
    have := h.2
    rw [List.length_take, List.length_drop]
    omega
theorem cut_S (s : List Nat) (lo hi : Option Int) : cutS ⟨s.toArray⟩ lo hi = ⟨(cut s lo hi).toArray⟩ := by
  unfold cutS cut
  rw [len_mk, clip_sIx, clip_sIx]
def rSlZ (K : PySem.W.Frag) : V → Option Int → Option Int → Hp → VK → Prop := fun x lo hi H Q => rSlL K x lo hi H Q ∨ (L2.rSlA K x lo hi H Q ∨ rSlS x lo hi H Q)
theorem q_sli {lo hi : Option Expr} {fl fh : St → R (Option Int)} {p2 : Pos} (ha : QE X ca W a fa) (hl : PO X lo (tO X.K ca W fl)) (hh : PO X hi (tO X.K ca W fh)) :
    QE X ca W (.Subscript a (.Slice lo hi none p2) pos) (fun r => (fa r).bind fun x r => (fl r).bind fun l r => (fh r).bind fun h r => .of (sliD x l h) r) := by
  refine PE.weak (pe_slice (r := rSlZ X.K) (sl_list.or (L2.sl_tupA.or sl_str)) ha hl hh) fun σ H Q ⟨r, F, p, h⟩ => ⟨r, F, p, Fi.step h fun x r1 v H1 F1 p1 q1 h => ⟨r1, F1, p1.rp, Fi.step h fun l r2 l' H2 F2 p2 q2 h => ⟨r2, F2, p2.rp, Fi.step h fun u r3 u' H3 F3 p3 q3 h => ?_⟩⟩⟩
  cases q2
  cases q3
  have q1 := q1.mono (p2.f.trans p3.f)
  cases x with
  | lst xs =>
    obtain ⟨a, vs, e1, s1, z1⟩ := Rep.lst_iff.mp q1
    refine .inl ⟨a, vs, e1, SqL.up p3.rp.sub s1, fun q hq => ?_⟩
    have hn := p3.rp.new (o := .lst (cutV vs l u)) hq
    exact h _ _ _ hn (Rep.lst_iff.mpr ⟨q, _, rfl, SqL.of upd_same, (z1.cut l u).mono hn.f⟩)
  | tup xs =>
    obtain ⟨a, vs, e1, s1, z1⟩ := Rep.tup_iff.mp q1
    refine .inr (.inl ⟨a, vs, e1, SqT.up p3.rp.sub s1, fun hw => ?_, fun hw q hq => ?_⟩)
    · have e : cut xs l u = xs := by
        rw [← z1.length] at hw
        unfold cut
        rw [clip_sIx, clip_sIx, hw.1, hw.2, List.drop_zero, Nat.sub_zero, List.take_length]
      rw [← e1]
      exact h _ _ _ (Ps.refl p3.rp) (by rw [e]; exact q1)
    · have hn := p3.rp.new (o := .tup (cutV vs l u)) hq
      exact h _ _ _ hn (Rep.tup_iff.mpr ⟨q, _, rfl, SqT.of upd_same, (z1.cut l u).mono hn.f⟩)
  | str xs =>
    obtain ⟨e1, o⟩ := Rep.str_iff.mp q1
    refine .inr (.inr ⟨_, e1, by rw [len_mk]; exact o.len, ?_⟩)
    rw [cut_S]
    exact h _ _ _ (Ps.refl p3.rp) (Rep.str_iff.mpr ⟨rfl, o.cut l u⟩)
  | _ => exact h.elim
end
end Z

/-! ZL: list(text) -/
namespace Z
open PySem PySem.Calls PyProof.Rows PyProof.V PySem.Spec PySem.W
section
variable {prog : Program} {w : World} {A : Around} {E : Value → Shared → Prop} {s : Shared} {x : Str} {t : Tok}
theorem ls_hint {Q : Bool → Shared → Prop} (h : Q false s) : wpAny (model prog w) A (Builtin.List.listLengthHint (.str x t)) Q E s := by
  have hT : s.TypeIs (.str x t) "str" := typeIs_str s x t
  have hl : typeLookup (.type "str") "__len__" = pure (some (.builtin "str.__len__")) := by rw [typeLookup_type, builtinLookup_eq_fast]; kernel_rfl
  unfold Builtin.List.listLengthHint
  refine wpAny_bind (wpAny_specialOf hT hl ?_)
  generalize hid : ("str.__len__" : String) = id0
  wp_delta
  rw [show splitId id0 = some ("str", "__len__") from by subst hid; decide +kernel]
  subst hid
  refine wpAny_bind (wpAny_isInstance (T := "str") (b := true) hT (by rw [isSubtype_type]; kernel_rfl) ?_)
  refine wpAny_ite_split (fun hab => absurd hab (by decide)) (fun _ => ?_)
  refine wpAny_ite_split (fun _ => ?_) (fun hab => absurd (by decide +kernel) hab)
  refine wpAny_bind (wpAny_typeOf hT ?_)
  exact wpAny_pure h
theorem ls_iter (hh : A.handled = none) : ∃ (oI : Obj) (St : Nat → Heap → Prop), (∀ (A' : Around) (E' : Value → Shared → Prop) (Q : Value → Shared → Prop), Q (.ref s.heap.objs.size) { s with heap := s.heap.push oI } → wpAny (model prog w) A' (pyIter (.str x t)) Q E' s) ∧
    Walks prog w A s.heap.objs.size [s.heap.objs.size] [s.heap.objs.size] x.cps.size (SignAt x) St ∧ St 0 (s.heap.push oI) := by
  cases ha : x.cps.all (· < 128)
  · exact ⟨_, _, fun _ _ _ hq => wpAny_pyIter_wide ha hq, Walks.strWide hh _ x t, ⟨_, Heap.get?_push_size _ rfl, rfl, rfl⟩⟩
  · exact ⟨_, _, fun _ _ _ hq => wpAny_pyIter_ascii ha hq, Walks.strAscii hh _ x t, ⟨_, Heap.get?_push_size _ rfl, rfl, rfl⟩⟩
theorem ls_extend {R : Result → Shared → Prop} (hh : A.handled = none) (S : Addr) (res : Value) (c₀ : Nat) (hS : s.heap.get? S = some { cls := .type "list", data := .seq #[] c₀ })
    (hR : ∀ h' tk acc' c', (∀ b o, b ≠ S → s.heap.get? b = some o → h'.get? b = some o) → h'.get? S = some { cls := .type "list", dict := none, data := .seq acc' c', slots := #[] } → ItemsOf (SignAt x) acc' x.cps.size → R (.ok (.ret res)) { s with heap := h', toks := tk }) (hn : x.cps.size ≤ sizeLine) :
    wpAny (model prog w) A.in1 (Builtin.List.listExtendWith (.ref S) (.str x t) res)
      (fun fin s' => match fin with | .done f => R (.ok f) s' | .again c' => c'.quiet = true ∧ codeAny (model prog w) A c' R s') (fun e s' => R (.error e) s') s := by
  have hSI : S ≠ s.heap.objs.size := Nat.ne_of_lt (Heap.lt_size hS)
  have hSf : S ∉ [s.heap.objs.size] := by simp only [List.mem_cons, List.not_mem_nil, or_false]; exact hSI
  obtain ⟨oI, St, hit, W, st⟩ := ls_iter (prog := prog) (w := w) (A := A.in1) (s := s) (x := x) (t := t) hh
  have key : ∀ (h : Heap) (c₁ tk : Nat), St 0 h → (∀ b o, b ≠ S → s.heap.get? b = some o → h.get? b = some o) →
      h.get? S = some { cls := .type "list", data := .seq #[] c₁ } → codeAny (model prog w) A (.builtin "list.extend.loop" ⟨[.ref S, .ref s.heap.objs.size, res], []⟩) R { s with heap := h, toks := tk } := by
    intro h c₁ tk hst hk hS₁
    refine codeAny_extend_loopS W.toS hn S hSf res x.cps.size 0 _ #[] c₁ rfl (Nat.zero_le _) hst hS₁ (ItemsOf.nil _) fun s' acc' c' hm hS' hacc => ?_
    rw [Moved.eq_with hm]
    refine hR s'.heap s'.toks acc' c' (fun b o hb e => hm.heap b o (fun hmem => ?_) (hk b o hb e)) hS' hacc
    rcases List.mem_cons.mp hmem with e' | hmem
    · exact hb e'
    · exact absurd (Heap.lt_size e) (by rw [List.mem_singleton.mp hmem]; exact Nat.lt_irrefl _)
  unfold Builtin.List.listExtendWith
  refine wpAny_bind (wpAny_typeOf (T := "str") (typeIs_str s x t) ?_)
  have h1 : Builtin.List.listSameRef (.ref S) (.str x t) = false := rfl
  simp only [h1, show (Value.type "str" == Value.type "list") = false from by decide, show (Value.type "str" == Value.type "tuple") = false from by decide, Bool.or_false, Bool.false_eq_true, if_false]
  refine wpAny_bind (hit _ _ _ ?_)
  have hS₁ := Heap.get?_push_of_some oI hS
  refine wpAny_bind (wpAny_holding (ls_hint ?_))
  refine wpAny_ite_split (fun _ => ?_) (fun _ => wpAny_pure ⟨plainId_quiet PySem.F.plain_extend_loop _, key _ c₀ _ st (fun b o _ e => Heap.get?_push_of_some _ e) hS₁⟩)
  refine wpAny_bind (wpAny_rule ?_)
  refine wpAny_bind ?_
  show wpAny _ _ (updateSeq S (·.push .none) >>= fun _ => updateSeq S (·.pop)) _ _ _
  refine wpAny_bind (wpAny_updateSeq hS₁ rfl ?_)
  have hS₂ := Heap.get?_update_self (Obj.mapSeq (·.push Value.none)) hS₁ rfl
  refine wpAny_updateSeq (hz := by seq_fits) hS₂ rfl ?_
  have hS₃ := Heap.get?_update_self (Obj.mapSeq (·.pop)) hS₂ rfl
  refine wpAny_pure ⟨plainId_quiet PySem.F.plain_extend_loop _, key _ _ _ ?_ (fun b o hb e => ?_) hS₃⟩
  · refine W.frame 0 _ _ st fun b hb o e => ?_
    have hbS : b ≠ S := fun h => hSf (h ▸ hb)
    exact (Heap.get?_update_other _ _ (Ne.symm hbS)).trans ((Heap.get?_update_other _ _ (Ne.symm hbS)).trans e)
  · exact (Heap.get?_update_other _ _ (Ne.symm hb)).trans ((Heap.get?_update_other _ _ (Ne.symm hb)).trans (Heap.get?_push_of_some _ e))
theorem ls_init {R : Result → Shared → Prop} (hh : A.handled = none) (S : Addr) (hS : s.heap.get? S = some { cls := .type "list", data := .seq #[] })
    (hR : ∀ h' tk acc' c', (∀ b o, b ≠ S → s.heap.get? b = some o → h'.get? b = some o) → h'.get? S = some { cls := .type "list", dict := none, data := .seq acc' c', slots := #[] } → ItemsOf (SignAt x) acc' x.cps.size → R (.ok (.ret .none)) { s with heap := h', toks := tk }) (hn : x.cps.size ≤ sizeLine) :
    wpAny (model prog w) A.in1 (Builtin.«list.__init__» ⟨[.ref S, .str x t], []⟩)
      (fun fin s' => match fin with | .done f => R (.ok f) s' | .again c' => c'.quiet = true ∧ codeAny (model prog w) A c' R s') (fun e s' => R (.error e) s') s := by
  show wpAny _ _ (do let old ← Builtin.List.listItems (.ref S); Builtin.List.listUpdate (.ref S) (fun _ => #[]); letGo old.toList.reverse; Builtin.List.listExtendWith (.ref S) (.str x t) .none) _ _ s
  refine wpAny_bind ?_
  unfold Builtin.List.listItems
  refine wpAny_bind (wpAny_seqItems hS rfl (wpAny_pure ?_))
  show wpAny _ _ (updateSeq S (fun _ => #[]) >>= fun _ => letGo (#[] : Array Value).toList.reverse >>= fun _ => Builtin.List.listExtendWith (.ref S) (.str x t) .none) _ _ s
  refine wpAny_bind (wpAny_updateSeq hS rfl ?_)
  have hS₂ := Heap.get?_update_self (Obj.mapSeq (fun _ => (#[] : Array Value))) hS rfl
  have oth : ∀ b o, b ≠ S → s.heap.get? b = some o → (s.heap.update S (Obj.mapSeq (fun _ => (#[] : Array Value)))).get? b = some o :=
    fun b o hb e => (Heap.get?_update_other _ _ (Ne.symm hb)).trans e
  refine wpAny_bind (wpAny_letGo ?_)
  refine ls_extend hh S .none _ hS₂ (fun h' tk acc' c' hk hS' hacc => ?_) hn
  exact hR h' tk acc' c' (fun b o hb e => hk b o hb (oth b o hb e)) hS' hacc
theorem ls_call {Q : Value → Shared → Prop} (hh : A.handled = none) (hn : x.cps.size ≤ sizeLine)
    (hQ : ∀ h' tk acc' c', (∀ b o, s.heap.get? b = some o → h'.get? b = some o) → h'.get? s.heap.objs.size = some { cls := .type "list", dict := none, data := .seq acc' c', slots := #[] } → ItemsOf (SignAt x) acc' x.cps.size → Q (.ref s.heap.objs.size) { s with heap := h', toks := tk }) :
    wpAny (model prog w) A (call (.type "list") [.str x t]) Q E s := by
  refine callType_codes (Q₁ := fun obj s₁ => obj = .ref s.heap.objs.size ∧ s₁ = { s with heap := s.heap.push { cls := .type "list", data := .seq #[] } }) PySem.F.called_list (PySem.F.typeCall_list_1 _) PySem.F.entry_list_init
    (code_list_new _ ⟨rfl, rfl⟩) fun obj s₁ h₁ => ?_
  obtain ⟨rfl, rfl⟩ := h₁
  have hS : (s.heap.push { cls := .type "list", data := .seq #[] }).get? s.heap.objs.size = some { cls := .type "list", data := .seq #[] } := Heap.get?_push_size _ rfl
  refine ⟨⟨_, hS, rfl⟩, PySem.F.args_list_init_2 _ _, ls_init (A := A.in1) hh _ hS (fun h' tk acc' c' hk hS' hacc => ?_) hn⟩
  exact ⟨rfl, hQ h' tk acc' c' (fun b o e => hk b o (Nat.ne_of_lt (Heap.lt_size e)) (Heap.get?_push_of_some _ e)) hS' hacc⟩

end
end Z
namespace Z
open PySem PySem.Spec PyProof.Rows L2
def signs (s : List Nat) : List V := s.map fun c => V.str ⟨[c].toArray⟩
theorem call_list_str {X : Cx} (hc : X.calm = true) : CallR X (.type "list") (fun xs H Q => ∃ s : List Nat, xs = [.str ⟨s.toArray⟩] ∧ s.length ≤ sizeLine ∧ ∀ q, H q = none → Q (.ref q) (upd H q (.lst (signs s)))) := by
  intro pins s σ H xs us Q I r h
  obtain ⟨y, e, hz, q⟩ := h
  subst e
  obtain ⟨u, eu, rx⟩ := vals1 r
  subst eu
  obtain ⟨t, rfl⟩ := rx
  refine ls_call (I.ok.hd hc) (by simpa using hz) fun h' tk acc' c' hkeep hS hacc => ?_
  refine ⟨.ref s.heap.objs.size, upd H s.heap.objs.size (.lst (signs y)), I.laid hkeep (Nat.le_refl _) (show ObjOk X.prog X.w _ _ _ (.lst (signs y)) from ⟨?_, acc'.toList, c', ?_, ?_⟩), rfl, q _ (I.hok.fresh (Nat.le_refl _))⟩
  · unfold signs; rw [List.length_map]; exact hz
  · have el : acc'.toList.length = acc'.size := by simp
    refine vals_of_at (by unfold signs; rw [List.length_map, el, hacc.1]; simp) fun j x w h1 h2 => ?_
    obtain ⟨c, u, hc, hw⟩ := hacc.2 j w (by rw [← Array.getElem?_toList]; exact h2)
    subst hw
    unfold signs at h1
    rw [List.getElem?_map, show y[j]? = some c by simpa using hc] at h1
    cases h1
    exact ⟨u, rfl⟩
  · simpa using hS
end Z

/-! Z6: built-in functions, methods, isinstance -/
namespace Z
open PySem PySem.Spec PyProof.Rows L2 TL

section
variable {K : PySem.W.Frag} {F H : Hp}
theorem ints_vals : ∀ {l : List D} {ns : List Int} {vs : List V}, intsOf l = some ns → Reps K F l vs → vs = ns.map V.int
  | [], _, _, h, r => by simp only [intsOf] at h; cases h; simp only [Reps] at r; exact r
  | d :: l, ns, _, h, r => by
    simp only [Reps] at r
    obtain ⟨v, w, rfl, q, z⟩ := r
    cases d <;> simp only [intsOf, reduceCtorEq, Option.map_eq_some_iff] at h
    obtain ⟨ms, h1, rfl⟩ := h
    rw [Rep.int_iff.mp q, ints_vals h1 z]
    rfl
theorem bls_vals : ∀ {l : List D} {ns : List Bool} {vs : List V}, blsOf l = some ns → Reps K F l vs → vs = ns.map V.bl
  | [], _, _, h, r => by simp only [blsOf] at h; cases h; simp only [Reps] at r; exact r
  | d :: l, ns, _, h, r => by
    simp only [Reps] at r
    obtain ⟨v, w, rfl, q, z⟩ := r
    cases d <;> simp only [blsOf, reduceCtorEq, Option.map_eq_some_iff] at h
    obtain ⟨ms, h1, rfl⟩ := h
    rw [Rep.bl_iff.mp q, bls_vals h1 z]
    rfl
theorem strs_vals : ∀ {l : List D} {ns : List (List Nat)} {vs : List V}, strsOf l = some ns → Reps K F l vs → vs = (ns.map fun s => (⟨s.toArray⟩ : Str)).map V.str ∧ ∀ s ∈ ns, SOk s
  | [], _, _, h, r => by simp only [strsOf] at h; cases h; simp only [Reps] at r; exact ⟨r, fun s hs => by cases hs⟩
  | d :: l, ns, _, h, r => by
    simp only [Reps] at r
    obtain ⟨v, w, rfl, q, z⟩ := r
    cases d <;> simp only [strsOf, reduceCtorEq, Option.map_eq_some_iff] at h
    obtain ⟨ms, h1, rfl⟩ := h
    obtain ⟨e, o⟩ := Rep.str_iff.mp q
    obtain ⟨e2, o2⟩ := strs_vals h1 z
    rw [e, e2]
    refine ⟨rfl, fun s hs => ?_⟩
    rcases List.mem_cons.mp hs with rfl | hs
    · exact o
    · exact o2 s hs
theorem signs_vals : ∀ (s : List Nat), SOk s → Reps K F (s.map fun c => .str [c]) (s.map fun c => SV [c])
  | [], _ => Reps.nil
  | c :: s, h => Reps.cons (Rep.str_iff.mpr ⟨rfl, h.one List.mem_cons_self⟩) (signs_vals s ⟨by have := h.1; rw [List.all_cons, Bool.and_eq_true] at this; exact this.2, by have := h.2; simp only [List.length_cons] at this; omega⟩)
end

section
variable {X : Cx} {ca : Nat → Addr} {W : WX} {pos : Pos} {n : Nat}
/-- what a built-in asks, by the data of its arguments -/
structure CbS (X : Cx) (f : Value) (g : List D → Option D) (rd : List V → Hp → VK → Prop) : Prop where
  op : CallR X f rd
  ok : ∀ {l : List D} {d : D} {vs : List V} {r : St} {σ : L2.St} {H F : Hp} {Q : VK}, g l = some d → Reps X.K F l vs → Rp X.K r σ H F →
    (∀ z H' F', Ps X.K r r σ H F H' F' → Rep X.K F' d z → Q z H') → rd vs H Q
theorem reps1 {K : PySem.W.Frag} {F : Hp} {d : D} {vs : List V} (r : Reps K F [d] vs) : ∃ v, vs = [v] ∧ Rep K F d v := by
  simp only [Reps] at r
  obtain ⟨v, w, rfl, q, rfl⟩ := r
  exact ⟨v, rfl, q⟩
theorem reps2 {K : PySem.W.Frag} {F : Hp} {d e : D} {vs : List V} (r : Reps K F [d, e] vs) : ∃ v w, vs = [v, w] ∧ Rep K F d v ∧ Rep K F e w := by
  simp only [Reps] at r
  obtain ⟨v, w, rfl, q, u, z, rfl, q2, rfl⟩ := r
  exact ⟨v, u, rfl, q, q2⟩
theorem cb_len : CbS X (.builtin "len") (Bi.f .len) (fun xs H Q => ∃ x n, xs = [x] ∧ LenV X.K x H n ∧ Q (.int n) H) := by
  refine ⟨call_len, ?_⟩
  intro l d vs r σ H F Q hg hr p q
  unfold Bi.f at hg
  split at hg <;> try contradiction
  rename_i x _
  obtain ⟨v, rfl, hv⟩ := reps1 hr
  cases x <;> simp only [lenD, Option.some.injEq, reduceCtorEq] at hg <;> subst hg
  · obtain ⟨e1, o⟩ := Rep.str_iff.mp hv
    subst e1
    exact ⟨_, _, rfl, ⟨by rw [len_mk]; exact o.len, by rw [len_mk]⟩, q _ _ _ (Ps.refl p) (Rep.int_iff.mpr rfl)⟩
  · obtain ⟨a, vs, e1, s1, z1⟩ := Rep.lst_iff.mp hv
    subst e1
    exact ⟨_, vs.length, rfl, .inl ⟨_, SqL.up p.sub s1, rfl⟩, q _ _ _ (Ps.refl p) (Rep.int_iff.mpr (by rw [z1.length]))⟩
  · obtain ⟨a, vs, e1, s1, z1⟩ := Rep.tup_iff.mp hv
    subst e1
    exact ⟨_, vs.length, rfl, .inr ⟨_, SqT.up p.sub s1, rfl⟩, q _ _ _ (Ps.refl p) (Rep.int_iff.mpr (by rw [z1.length]))⟩
theorem cb_tuple : CbS X (.type "tuple") (Bi.f .tuple) (fun xs H Q => ∃ p ys, xs = [.ref p] ∧ ((SqL X.K H p ys ∧ ∀ l, H l = none → Q (.ref l) (upd H l (.tup ys))) ∨ (SqT X.K H p ys ∧ Q (.ref p) H))) := by
  refine ⟨call_tuple_of, ?_⟩
  intro l d vs r σ H F Q hg hr p q
  unfold Bi.f at hg
  split at hg <;> try contradiction
  all_goals
    first | (cases hg; done) | skip
  · cases hg
    obtain ⟨v, rfl, hv⟩ := reps1 hr
    obtain ⟨a, vs, e1, s1, z1⟩ := Rep.lst_iff.mp hv
    subst e1
    refine ⟨a, vs, rfl, .inl ⟨SqL.up p.sub s1, fun l hl => ?_⟩⟩
    have hn := p.new (o := .tup vs) hl
    exact q _ _ _ hn (Rep.tup_iff.mpr ⟨l, _, rfl, SqT.of upd_same, z1.mono hn.f⟩)
  · cases hg
    obtain ⟨v, rfl, hv⟩ := reps1 hr
    obtain ⟨a, vs, e1, s1, z1⟩ := Rep.tup_iff.mp hv
    subst e1
    exact ⟨a, vs, rfl, .inr ⟨SqT.up p.sub s1, q _ _ _ (Ps.refl p) hv⟩⟩
theorem reps_signs {K : PySem.W.Frag} {F : Hp} : ∀ {s : List Nat}, SOk s → Reps K F (s.map fun c => .str [c]) (signs s)
  | [], _ => Reps.nil
  | c :: s, h => by
    have h1 : c < 0x110000 := by simpa using (List.all_eq_true.mp h.1) c List.mem_cons_self
    refine Reps.cons (Rep.str_iff.mpr ⟨rfl, by simpa using h1, by simp [LINE]⟩) (reps_signs ⟨?_, ?_⟩)
    · have := h.1
      simp only [List.all_cons, Bool.and_eq_true] at this
      exact this.2
    · have := h.2
      simp only [List.length_cons] at this
      omega
theorem cb_list (c : X.calm = true) : CbS X (.type "list") Bi.listG (fun xs H Q => (∃ p ys, xs = [.ref p] ∧ (SqL X.K H p ys ∨ SqT X.K H p ys) ∧ ∀ l, H l = none → Q (.ref l) (upd H l (.lst ys))) ∨ ∃ s : List Nat, xs = [.str ⟨s.toArray⟩] ∧ s.length ≤ sizeLine ∧ ∀ q, H q = none → Q (.ref q) (upd H q (.lst (signs s)))) := by
  refine ⟨fun pins s σ H xs us Q I r h => h.elim (call_list_of pins s σ H xs us Q I r) (call_list_str c pins s σ H xs us Q I r), ?_⟩
  intro l d vs r σ H F Q hg hr p q
  unfold Bi.listG at hg
  split at hg
  · cases hg
    obtain ⟨v, rfl, hv⟩ := reps1 hr
    obtain ⟨a, vs, e1, s1, z1⟩ := Rep.lst_iff.mp hv
    subst e1
    refine .inl ⟨a, vs, rfl, .inl (SqL.up p.sub s1), fun l hl => ?_⟩
    have hn := p.new (o := .lst vs) hl
    exact q _ _ _ hn (Rep.lst_iff.mpr ⟨l, _, rfl, SqL.of upd_same, z1.mono hn.f⟩)
  · cases hg
    obtain ⟨v, rfl, hv⟩ := reps1 hr
    obtain ⟨a, vs, e1, s1, z1⟩ := Rep.tup_iff.mp hv
    subst e1
    refine .inl ⟨a, vs, rfl, .inr (SqT.up p.sub s1), fun l hl => ?_⟩
    have hn := p.new (o := .lst vs) hl
    exact q _ _ _ hn (Rep.lst_iff.mpr ⟨l, _, rfl, SqL.of upd_same, z1.mono hn.f⟩)
  · cases hg
    obtain ⟨v, rfl, hv⟩ := reps1 hr
    obtain ⟨e1, o⟩ := Rep.str_iff.mp hv
    subst e1
    refine .inr ⟨_, rfl, o.len, fun l hl => ?_⟩
    rename_i s1
    have hn := p.new (o := .lst (signs s1)) hl
    exact q _ _ _ hn (Rep.lst_iff.mpr ⟨l, _, rfl, SqL.of upd_same, reps_signs o⟩)
  · cases hg
theorem cb_max (c : X.calm = true) : CbS X (.builtin "max") (Bi.f .max2) (fun xs H Q => ∃ i j, xs = [.int i, .int j] ∧ Q (.int (if j > i then j else i)) H) := by
  refine ⟨call_max2 c, ?_⟩
  intro l d vs r σ H F Q hg hr p q
  unfold Bi.f at hg
  split at hg <;> try contradiction
  cases hg
  obtain ⟨v, w, rfl, hv, hw⟩ := reps2 hr
  rw [Rep.int_iff.mp hv, Rep.int_iff.mp hw]
  exact ⟨_, _, rfl, q _ _ _ (Ps.refl p) (Rep.int_iff.mpr rfl)⟩
theorem cb_min (c : X.calm = true) : CbS X (.builtin "min") (Bi.f .min2) (fun xs H Q => ∃ i j, xs = [.int i, .int j] ∧ Q (.int (if j < i then j else i)) H) := by
  refine ⟨call_min2 c, ?_⟩
  intro l d vs r σ H F Q hg hr p q
  unfold Bi.f at hg
  split at hg <;> try contradiction
  cases hg
  obtain ⟨v, w, rfl, hv, hw⟩ := reps2 hr
  rw [Rep.int_iff.mp hv, Rep.int_iff.mp hw]
  exact ⟨_, _, rfl, q _ _ _ (Ps.refl p) (Rep.int_iff.mpr rfl)⟩
theorem cb_abs : CbS X (.builtin "abs") (Bi.f .abs) (fun xs H Q => ∃ i, xs = [.int i] ∧ Q (.int (if i < 0 then -i else i)) H) := by
  refine ⟨call_abs, ?_⟩
  intro l d vs r σ H F Q hg hr p q
  unfold Bi.f at hg
  split at hg <;> try contradiction
  cases hg
  obtain ⟨v, rfl, hv⟩ := reps1 hr
  rw [Rep.int_iff.mp hv]
  refine ⟨_, rfl, q _ _ _ (Ps.refl p) (Rep.int_iff.mpr ?_)⟩
  congr 1
  split <;> omega
theorem cb_sum (c : X.calm = true) : CbS X (.builtin "sum") (Bi.f .sum) (rSum X.K) := by
  refine ⟨cr_sum c, ?_⟩
  intro l d vs r σ H F Q hg hr p q
  unfold Bi.f at hg
  split at hg <;> try contradiction
  obtain ⟨ns, h1, h2⟩ := Option.map_eq_some_iff.mp hg
  subst h2
  obtain ⟨v, rfl, hv⟩ := reps1 hr
  obtain ⟨a, vs, e1, s1, z1⟩ := Rep.lst_iff.mp hv
  subst e1
  have e := ints_vals h1 z1
  subst e
  exact ⟨a, ns, rfl, SqL.up p.sub s1, q _ _ _ (Ps.refl p) (Rep.int_iff.mpr rfl)⟩
theorem cb_all (c : X.calm = true) : CbS X (.builtin "all") (Bi.f .all) (rAll X.K) := by
  refine ⟨cr_all c, ?_⟩
  intro l d vs r σ H F Q hg hr p q
  unfold Bi.f at hg
  split at hg <;> try contradiction
  obtain ⟨ns, h1, h2⟩ := Option.map_eq_some_iff.mp hg
  subst h2
  obtain ⟨v, rfl, hv⟩ := reps1 hr
  obtain ⟨a, vs, e1, s1, z1⟩ := Rep.lst_iff.mp hv
  subst e1
  have e := bls_vals h1 z1
  subst e
  exact ⟨a, ns, rfl, SqL.up p.sub s1, q _ _ _ (Ps.refl p) (Rep.bl_iff.mpr rfl)⟩
theorem cb_any (c : X.calm = true) : CbS X (.builtin "any") (Bi.f .any) (rAny X.K) := by
  refine ⟨cr_any c, ?_⟩
  intro l d vs r σ H F Q hg hr p q
  unfold Bi.f at hg
  split at hg <;> try contradiction
  obtain ⟨ns, h1, h2⟩ := Option.map_eq_some_iff.mp hg
  subst h2
  obtain ⟨v, rfl, hv⟩ := reps1 hr
  obtain ⟨a, vs, e1, s1, z1⟩ := Rep.lst_iff.mp hv
  subst e1
  have e := bls_vals h1 z1
  subst e
  exact ⟨a, ns, rfl, SqL.up p.sub s1, q _ _ _ (Ps.refl p) (Rep.bl_iff.mpr rfl)⟩
theorem cb_int : CbS X (.type "int") (Bi.f .int) (fun xs H Q => (∃ i, xs = [.int i] ∧ Q (.int i) H) ∨ ∃ k, xs = [.bl k] ∧ Q (.int (if k then 1 else 0)) H) := by
  refine ⟨call_int1, ?_⟩
  intro l d vs r σ H F Q hg hr p q
  unfold Bi.f at hg
  split at hg <;> try contradiction
  · cases hg
    obtain ⟨v, rfl, hv⟩ := reps1 hr
    rw [Rep.int_iff.mp hv]
    exact .inl ⟨_, rfl, q _ _ _ (Ps.refl p) (Rep.int_iff.mpr rfl)⟩
  · cases hg
    obtain ⟨v, rfl, hv⟩ := reps1 hr
    rw [Rep.bl_iff.mp hv]
    exact .inr ⟨_, rfl, q _ _ _ (Ps.refl p) (Rep.int_iff.mpr rfl)⟩
theorem maxF : ∀ (l : List Int) (i m : Int), m ∈ i :: l → (∀ y, y ∈ i :: l → y ≤ m) → l.foldl (fun a b => if b > a then b else a) i = m
  | [], i, m, h, _ => by
    have : m = i := by simpa using h
    exact this.symm
  | b :: l, i, m, h, k => by
    simp only [List.foldl_cons]
    refine maxF l _ m ?_ fun y hy => ?_
    · split
      · rename_i hb
        rcases List.mem_cons.mp h with e | h
        · have := k b (by simp); omega
        · exact h
      · rename_i hb
        rcases List.mem_cons.mp h with e | h
        · rw [e]; exact List.mem_cons_self
        · rcases List.mem_cons.mp h with e | h
          · have := k i (by simp)
            have : i = m := by omega
            rw [this]; exact List.mem_cons_self
          · exact List.mem_cons_of_mem _ h
    · rcases List.mem_cons.mp hy with e | hy
      · rw [e]; split
        · exact k b (by simp)
        · exact k i (by simp)
      · exact k y (by simp [hy])
theorem minF : ∀ (l : List Int) (i m : Int), m ∈ i :: l → (∀ y, y ∈ i :: l → m ≤ y) → l.foldl (fun a b => if b < a then b else a) i = m
  | [], i, m, h, _ => by
    have : m = i := by simpa using h
    exact this.symm
  | b :: l, i, m, h, k => by
    simp only [List.foldl_cons]
    refine minF l _ m ?_ fun y hy => ?_
    · split
      · rename_i hb
        rcases List.mem_cons.mp h with e | h
        · have := k b (by simp); omega
        · exact h
      · rename_i hb
        rcases List.mem_cons.mp h with e | h
        · rw [e]; exact List.mem_cons_self
        · rcases List.mem_cons.mp h with e | h
          · have := k i (by simp)
            have : i = m := by omega
            rw [this]; exact List.mem_cons_self
          · exact List.mem_cons_of_mem _ h
    · rcases List.mem_cons.mp hy with e | hy
      · rw [e]; split
        · exact k b (by simp)
        · exact k i (by simp)
      · exact k y (by simp [hy])
theorem cb_maxL (c : X.calm = true) : CbS X (.builtin "max") (Bi.f .maxL) (rMax X.K) := by
  refine ⟨cr_max c, ?_⟩
  intro l d vs r σ H F Q hg hr p q
  unfold Bi.f at hg
  split at hg <;> try contradiction
  obtain ⟨i, h1, h2⟩ := Option.map_eq_some_iff.mp hg
  obtain ⟨ns, h0, h1⟩ := Option.bind_eq_some_iff.mp h1
  subst h2
  obtain ⟨v, rfl, hv⟩ := reps1 hr
  obtain ⟨a, vs, e1, s1, z1⟩ := Rep.lst_iff.mp hv
  subst e1
  have e := ints_vals h0 z1
  subst e
  cases ns with
  | nil => cases h1
  | cons j ns =>
    refine ⟨a, _, rfl, SqL.up p.sub s1, Nat.succ_pos _, fun m hm hy => q _ _ _ (Ps.refl p) (Rep.int_iff.mpr ?_)⟩
    rw [← maxF ns j m hm hy]
    simp only [maxI, Option.some.injEq] at h1
    rw [h1]
theorem cb_minL (c : X.calm = true) : CbS X (.builtin "min") (Bi.f .minL) (rMin X.K) := by
  refine ⟨cr_min c, ?_⟩
  intro l d vs r σ H F Q hg hr p q
  unfold Bi.f at hg
  split at hg <;> try contradiction
  obtain ⟨i, h1, h2⟩ := Option.map_eq_some_iff.mp hg
  obtain ⟨ns, h0, h1⟩ := Option.bind_eq_some_iff.mp h1
  subst h2
  obtain ⟨v, rfl, hv⟩ := reps1 hr
  obtain ⟨a, vs, e1, s1, z1⟩ := Rep.lst_iff.mp hv
  subst e1
  have e := ints_vals h0 z1
  subst e
  cases ns with
  | nil => cases h1
  | cons j ns =>
    refine ⟨a, _, rfl, SqL.up p.sub s1, Nat.succ_pos _, fun m hm hy => q _ _ _ (Ps.refl p) (Rep.int_iff.mpr ?_)⟩
    rw [← minF ns j m hm hy]
    simp only [minI, Option.some.injEq] at h1
    rw [h1]
theorem ints_sorted {ns ns' : List Int} (h1 : ns'.Perm ns) (h2 : ns'.Pairwise (· ≤ ·)) : ns' = ns.mergeSort fun a b => decide (a ≤ b) := by
  have p := List.mergeSort_perm ns (fun a b => decide (a ≤ b))
  have o : (ns.mergeSort fun a b => decide (a ≤ b)).Pairwise (fun a b => decide (a ≤ b) = true) := List.pairwise_mergeSort (fun a b c h k => by simp only [decide_eq_true_eq] at h k ⊢; omega) (fun a b => by by_cases h : a ≤ b <;> simp [h]; omega) ns
  refine List.Perm.eq_of_pairwise (le := fun a b : Int => a ≤ b) (fun a b _ _ h k => Int.le_antisymm h k) h2 (o.imp fun {a b} h => of_decide_eq_true h) (h1.trans p.symm)
theorem reps_ints {K : PySem.W.Frag} {F : Hp} : ∀ (ns : List Int), Reps K F (ns.map .int) (ns.map V.int)
  | [] => Reps.nil
  | _ :: ns => Reps.cons (Rep.int_iff.mpr rfl) (reps_ints ns)
theorem cb_srt : CbS X (.builtin "sorted") (Bi.f .srt) (rSortedI X.K) := by
  refine ⟨cr_sortedI, ?_⟩
  intro l d vs r σ H F Q hg hr p q
  unfold Bi.f at hg
  split at hg <;> try contradiction
  obtain ⟨ns, h1, h2⟩ := Option.map_eq_some_iff.mp hg
  subst h2
  obtain ⟨v, rfl, hv⟩ := reps1 hr
  obtain ⟨a, vs, e1, s1, z1⟩ := Rep.lst_iff.mp hv
  subst e1
  have e := ints_vals h1 z1
  subst e
  refine ⟨a, ns, rfl, SqL.up p.sub s1, fun ns' l hp ho hl => ?_⟩
  have hn := p.new (o := .lst (ns'.map V.int)) hl
  refine q _ _ _ hn (Rep.lst_iff.mpr ⟨l, _, rfl, SqL.of upd_same, ?_⟩)
  rw [← ints_sorted hp ho]
  exact reps_ints ns'
/-- its name, its value -/
def Bi.name : Bi → String
  | .len => "len"
  | .tuple => "tuple"
  | .list => "list"
  | .abs => "abs"
  | .max2 => "max"
  | .min2 => "min"
  | .sum => "sum"
  | .all => "all"
  | .any => "any"
  | .str => "str"
  | .int => "int"
  | .maxL => "max"
  | .minL => "min"
  | .srt => "sorted"
def Bi.ty : Bi → Bool
  | .tuple => true
  | .list => true
  | .int => true
  | .str => true
  | _ => false
def Bi.val (b : Bi) : Value := if b.ty then .type b.name else .builtin b.name
theorem never_call {f : Value} : CbS X f (fun _ => none) (fun _ _ _ => False) := ⟨fun _ _ _ _ _ _ _ _ _ h => h.elim, fun h => by cases h⟩
theorem cb_as (c : X.calm = true) (b : Bi) : ∃ rd, CbS X b.val b.g rd := by
  cases b with
  | len => exact ⟨_, cb_len⟩
  | tuple => exact ⟨_, cb_tuple⟩
  | list => exact ⟨_, cb_list c⟩
  | abs => exact ⟨_, cb_abs⟩
  | max2 => exact ⟨_, cb_max c⟩
  | min2 => exact ⟨_, cb_min c⟩
  | sum => exact ⟨_, cb_sum c⟩
  | all => exact ⟨_, cb_all c⟩
  | any => exact ⟨_, cb_any c⟩
  | str => exact ⟨_, never_call⟩
  | int => exact ⟨_, cb_int⟩
  | maxL => exact ⟨_, cb_maxL c⟩
  | minL => exact ⟨_, cb_minL c⟩
  | srt => exact ⟨_, cb_srt⟩
theorem bi_boot (b : Bi) : bootBuiltins (b.name : Str) = some b.val := by cases b <;> decide +kernel
theorem bi_ne (b : Bi) : ¬ ((b.name : Str) = "__name__") := by cases b <;> decide +kernel
theorem bi_nd (b : Bi) : ((b.name : Str) == ("__debug__" : Str)) = false := by cases b <;> decide +kernel
theorem q_bi {b : Bi} {e : Expr} {es : List Expr} {fs : St → R (List D)} {p : Pos} (c : X.calm = true) (hg : Gl X (b.name : Str)) (hm : X.mg (b.name : Str) = none) (ha : QA X ca W (e :: es) fs) (hn : (e :: es).all noStar = true) :
    QE X ca W (.Call (.Name (b.name : Str) p) (e :: es) [] pos) (fun r => (fs r).bind fun l r => .of (b.g l) r) := by
  obtain ⟨rd, o⟩ := cb_as c b
  have hn2 := hn
  rw [List.all_cons, Bool.and_eq_true] at hn2
  have fin : ∀ {t : TE}, PE X (.Call (.Name (b.name : Str) p) (e :: es) [] pos) t → t = tCB rd (tAs X.K ca W fs) → QE X ca W (.Call (.Name (b.name : Str) p) (e :: es) [] pos) (fun r => (fs r).bind fun l r => .of (b.g l) r) := fun {t} h et => by
    subst et
    refine PE.weak h fun σ H Q ⟨r, F, q, h⟩ => ⟨r, F, q, Fi.step h fun l r1 vs H1 F1 p1 q1 h => ?_⟩
    cases e : b.g l with
    | none => rw [e] at h; exact h.elim
    | some z => rw [e] at h; exact o.ok e q1 p1.rp h
  have hb := bi_boot b
  have ho := o.op
  unfold Bi.val at ho hb
  cases ht : b.ty with
  | true =>
    rw [ht] at ho hb
    exact fin (pe_callTy (T := b.name) ho hg hm hb ha (bi_ne b) (bi_nd b) (star_cons hn2.1) (star_any hn2.2)) rfl
  | false =>
    rw [ht] at ho hb
    exact fin (pe_callB (id := b.name) ho hg hm hb ha (bi_ne b) (bi_nd b) (star_cons hn2.1) (star_any hn2.2)) rfl

/-! ### isinstance -/
def tyName : Nat → String
  | 0 => "int"
  | 1 => "bool"
  | 2 => "str"
  | 3 => "tuple"
  | _ => "list"
def tyD : D → Option String
  | .non => some "NoneType"
  | .bl _ => some "bool"
  | .int _ => some "int"
  | .str _ => some "str"
  | .tup _ => some "tuple"
  | .lst _ => some "list"
  | .exc _ _ => none
  | .dct _ _ => none
theorem rep_tyx {F H : Hp} {x : D} {v : V} (r : Rep X.K F x v) (s : Same F H) (hd : ∀ a b, x ≠ .dct a b) (hx : ∀ a b, x ≠ .exc a b) : ∃ t, tyD x = some t ∧ TyX X.K H v (.type t) := by
  cases x with
  | non => rw [Rep.non_iff.mp r]; exact ⟨_, rfl, .base .non⟩
  | bl b => rw [Rep.bl_iff.mp r]; exact ⟨_, rfl, .base (.bl b)⟩
  | int b => rw [Rep.int_iff.mp r]; exact ⟨_, rfl, .base (.int b)⟩
  | str b => rw [(Rep.str_iff.mp r).1]; exact ⟨_, rfl, .base (.str _)⟩
  | lst b =>
    obtain ⟨a, vs, e, q, _⟩ := Rep.lst_iff.mp r
    rw [e]
    refine ⟨_, rfl, ?_⟩
    rcases q with (q | ⟨o, q⟩) | ⟨o, its, n, q, hc, _⟩
    · exact .base (.lst (s _ _ q))
    · exact .base (.frz (s _ _ q))
    · exact .kList q hc
  | tup b =>
    obtain ⟨a, vs, e, q, _⟩ := Rep.tup_iff.mp r
    rw [e]
    refine ⟨_, rfl, ?_⟩
    rcases q with (q | ⟨o, q⟩) | ⟨o, its, n, q, hc, _⟩
    · exact .base (.tup (s _ _ q))
    · exact .fTuple (s _ _ q)
    · exact .kTuple q hc
  | exc a b => exact absurd rfl (hx a b)
  | dct a b => exact absurd rfl (hd a b)
theorem kit_tab {x : D} {t : Nat} {s : String} {b : Bool} (ht : t < 5) (h : tyD x = some s) (hi : isiD x t = some b) : kitB s (tyName t) = some b := by
  have : t = 0 ∨ t = 1 ∨ t = 2 ∨ t = 3 ∨ t = 4 := by omega
  cases x <;> simp only [tyD, Option.some.injEq, reduceCtorEq] at h <;> subst h <;> rcases this with rfl | rfl | rfl | rfl | rfl <;> simp only [isiD, Option.some.injEq] at hi <;> subst hi <;> decide +kernel
theorem ty_boot (t : Nat) : bootBuiltins (tyName t : Str) = some (.type (tyName t)) := by
  unfold tyName
  split <;> decide +kernel
theorem ty_ne (t : Nat) : ¬ ((tyName t : Str) = "__name__") := by
  unfold tyName
  split <;> decide +kernel
theorem ty_nd (t : Nat) : ((tyName t : Str) == ("__debug__" : Str)) = false := by
  unfold tyName
  split <;> decide +kernel
theorem q_isi {a : Expr} {fa : St → R D} {t : Nat} {p p2 : Pos} (ht : t < 5) (hg : Gl X "isinstance") (hm : X.mg "isinstance" = none) (hg2 : Gl X (tyName t : Str)) (hm2 : X.mg (tyName t : Str) = none) (ha : QE X ca W a fa) (hn : noStar a = true) :
    QE X ca W (.Call (.Name "isinstance" p) [a, .Name (tyName t : Str) p2] [] pos) (fun r => (fa r).bind fun x r => .of ((isiD x t).map .bl) r) := by
  have hT : PE X (.Name (tyName t : Str) p2) (tC (.ty (tyName t))) := pe_bltn hg2 hm2 (ty_boot t) rfl (ty_ne t) (ty_nd t)
  refine PE.weak (pe_callB call_isi hg hm PyProof.Rows.boot_isinstance (pa_cons ha (pa_cons hT pa_nil) (star_cons hn)) (by decide) (by decide) (star_cons hn) rfl) fun σ H Q ⟨r, F, q, h⟩ => ⟨r, F, q, Fi.step h fun x r1 v H1 F1 p1 q1 h => ?_⟩
  cases e : isiD x t with
  | none => rw [e] at h; exact h.elim
  | some b =>
    rw [e] at h
    obtain ⟨s, e1, ty⟩ := rep_tyx q1 p1.rp.sub (fun a b z => by subst z; simp [isiD] at e) (fun a b z => by subst z; simp [isiD] at e)
    exact ⟨v, _, _, _, b, rfl, .ty _, ty, kit_ty (kit_tab ht e1 e), h _ _ _ (Ps.refl p1.rp) (Rep.bl_iff.mpr rfl)⟩
end
end Z

/-! Z7: calls of the text's own defs -/
namespace Z
open PySem PySem.Spec PyProof.Rows L2 TL

/-- what a call does to the heap; o: the contents of the list handed in first -/
structure Pc (K : PySem.W.Frag) (sl : List Slot) (o : D) (σ : L2.St) (H F H' F' : Hp) : Prop where
  f : Same F F'
  sub : Same F' H'
  h : ∀ b u, H b = some u → ¬ Own sl σ b → H' b = some u
  n : ∀ b u, H b = some u → Mtb u → ¬ Own sl σ b → F b = none → F' b = none
  io : ∀ l, sl[0]? = some (Slot.io l) → ∃ a ws, σ[0]? = some (some (V.ref a)) ∧ H' a = some ws ∧ F' a = none ∧ RepO K F' o ws
def SpOf (K : PySem.W.Frag) (ca : Nat → Addr) (np : Nat) (c : List Slot → CR) : Sp := fun vs H Q E => ∃ (sl : List Slot) (F : Hp), vs.length = np ∧ Rp K sl (vs.map some) H F ∧ (∀ (i : Nat) (l : D), sl[i]? ≠ some (.own l)) ∧ (∀ (i : Nat) (l : D), sl[i]? = some (.io l) → i = 0) ∧ match c sl with
  | .ret d o => ∀ v H' F', Pc K sl o (vs.map some) H F H' F' → Rep K F' d v → Q v H'
  | .exc x o => ∀ cls dd H' F', Pc K sl o (vs.map some) H F H' F' → RepX K ca H' F' x cls dd → E cls dd H'
  | .bad => False

section
variable {K : PySem.W.Frag} {F H : Hp}
theorem vals_rp {l : List D} {vs : List V} (s : Same F H) (q : Reps K F l vs) : Rp K (l.map .val) (vs.map some) H F := by
  refine ⟨by rw [List.length_map, List.length_map]; exact q.length, s, fun i d e => ?_, fun i m e => ?_, fun i j m k a e => ?_⟩
  · rw [List.getElem?_map] at e
    obtain ⟨d', e1, e2⟩ := Option.map_eq_some_iff.mp e
    cases e2
    obtain ⟨v, e3, z⟩ := q.get e1
    exact ⟨v, by rw [List.getElem?_map, e3]; rfl, z⟩
  · rw [List.getElem?_map] at e
    cases h : l[i]? with
    | none => rw [h] at e; cases e
    | some d => rw [h] at e; cases e
  · rw [List.getElem?_map] at e
    cases h : l[i]? with
    | none => rw [h] at e; cases e
    | some d => rw [h] at e; cases e
theorem vals_noL {l : List D} {i : Nat} {m : D} : ownL (l.map Slot.val)[i]? ≠ some m := by
  intro e
  rw [List.getElem?_map] at e
  cases h : l[i]? with
  | none => rw [h] at e; cases e
  | some d => rw [h] at e; cases e
theorem vals_noOwn {l : List D} {σ : L2.St} {b : Addr} : ¬ Own (l.map .val) σ b := by
  rintro ⟨i, m, e, _⟩
  rw [List.getElem?_map] at e
  cases h : l[i]? with
  | none => rw [h] at e; cases e
  | some d => rw [h] at e; cases e
theorem io_rp {l : List D} {vs : List V} {ws : HO} {x : D} {a : Addr} (s : Same F H) (q : Reps K F l vs) (ha : H a = some ws) (hf : F a = none) (qx : RepO K F x ws) : Rp K (.io x :: l.map .val) ((V.ref a :: vs).map some) H F := by
  have p := vals_rp (K := K) s q
  refine ⟨by have := p.len; simp only [List.length_cons, List.map_cons] at this ⊢; omega, s, fun i d e => ?_, fun i m e => ?_, fun i j m k b e1 e2 _ _ => ?_⟩
  · cases i with
    | zero => cases e
    | succ i => exact p.val i d e
  · cases i with
    | zero => cases e; exact ⟨a, ws, rfl, ha, hf, qx⟩
    | succ i => exact p.own i m e
  · have z : ∀ (i : Nat) m, ownL (Slot.io x :: l.map .val)[i]? = some m → i = 0 := fun i m e => by
      cases i with
      | zero => rfl
      | succ i => exact absurd (show ownL (l.map Slot.val)[i]? = some m from e) vals_noL
    rw [z i m e1, z j k e2]

theorem Pc.ps {r : St} {σ τ : L2.St} {H' F' : Hp} {l : List D} {o : D} (p : Rp K r σ H F) (c : Pc K (l.map .val) o τ H F H' F') : Ps K r r σ H F H' F' where
  rp := ⟨p.len, c.sub, fun i d e => let ⟨v, e1, q⟩ := p.val i d e; ⟨v, e1, q.mono c.f⟩, fun i m e => by
    obtain ⟨a, vs, e1, e2, e3, q⟩ := p.own i m e
    exact ⟨a, vs, e1, c.h _ _ e2 vals_noOwn, c.n _ _ e2 q.mtb vals_noOwn e3, q.mono c.f⟩, p.apart⟩
  f := c.f
  h := fun b u e _ => c.h b u e vals_noOwn
  n := fun b u e m _ => c.n b u e m vals_noOwn
  sub := fun i l e => ⟨l, e⟩
  io := fun i l e => ⟨l, e⟩
theorem iov_own {v : Nat} {r : St} {x : D} (h : iov v r = some x) : ownL r[v]? = some x := by
  unfold iov at h
  split at h <;> rename_i e <;> first | (cases h; rw [e]; rfl) | cases h
theorem setio_get {v : Nat} {r : St} {x o : D} (h : iov v r = some x) : ∃ s, setio v o r = r.set v s ∧ ownL (some s) = some o ∧ ((∃ y, r[v]? = some (Slot.io y)) → s = .io o) ∧ (∀ d, s ≠ .val d) ∧ (∀ y, s = .io y → ∃ z, r[v]? = some (Slot.io z)) := by
  unfold iov at h
  unfold setio
  split at h <;> rename_i e
  · rw [e]
    exact ⟨_, rfl, rfl, ⟨fun ⟨y, z⟩ => (nomatch z), fun d z => (nomatch z), fun d z => (nomatch z)⟩⟩
  · rw [e]
    exact ⟨_, rfl, rfl, ⟨fun _ => rfl, fun d z => (nomatch z), fun d z => ⟨_, rfl⟩⟩⟩
  · cases h
theorem Pc.psio {r : St} {σ τ : L2.St} {H' F' : Hp} {l : List D} {o x : D} {v : Nat} {a : Addr} (p : Rp K r σ H F) (hx : iov v r = some x) (ha : σ[v]? = some (some (V.ref a))) (c : Pc K (.io x :: l.map .val) o (some (V.ref a) :: τ) H F H' F') :
    Ps K r (setio v o r) σ H F H' F' := by
  obtain ⟨s, es, eo, eio, nv, ioi⟩ := setio_get (o := o) hx
  have hv := iov_own hx
  have hl : v < r.length := by
    cases e : r[v]? with
    | none => rw [e] at hv; cases hv
    | some z => exact (List.getElem?_eq_some_iff.mp e).1
  have own1 : ∀ b, Own (.io x :: l.map .val) (some (V.ref a) :: τ) b → b = a := fun b ⟨i, m, e, z⟩ => by
    cases i with
    | zero => cases z; rfl
    | succ i => exact absurd (show ownL (l.map Slot.val)[i]? = some m from e) vals_noL
  have noOwn : ∀ b, ¬ Own r σ b → ¬ Own (.io x :: l.map .val) (some (V.ref a) :: τ) b := fun b n z => n (by rw [own1 b z]; exact ⟨v, x, hv, ha⟩)
  have other : ∀ j m b, j ≠ v → ownL r[j]? = some m → σ[j]? = some (some (V.ref b)) → ¬ Own (.io x :: l.map .val) (some (V.ref a) :: τ) b := fun j m b hj e z w => by
    rw [own1 b w] at z
    exact hj (p.apart j v m x a e hv z ha)
  have hset : ∀ j, ownL (r.set v s)[j]? = if j = v then some o else ownL r[j]? := fun j => by
    by_cases hj : j = v
    · subst hj
      rw [List.getElem?_set_self hl, if_pos rfl]
      exact eo
    · rw [List.getElem?_set_ne (Ne.symm hj), if_neg hj]
  obtain ⟨b, ws, e1, e2, e3, q⟩ := c.io x rfl
  cases e1
  rw [es]
  refine ⟨⟨by rw [List.length_set]; exact p.len, c.sub, fun j d e => ?_, fun j m e => ?_, fun j k m m' b e1 e2 z1 z2 => ?_⟩, c.f, fun b u e n => c.h b u e (noOwn b n), fun b u e m n => c.n b u e m (noOwn b n), fun j m e => ?_, fun j m e => ?_⟩
  · by_cases hj : j = v
    · subst hj
      rw [List.getElem?_set_self hl] at e
      exact absurd (Option.some.inj e) (nv d)
    · rw [List.getElem?_set_ne (Ne.symm hj)] at e
      obtain ⟨w, e1, q⟩ := p.val j d e
      exact ⟨w, e1, q.mono c.f⟩
  · rw [hset] at e
    by_cases hj : j = v
    · subst hj
      rw [if_pos rfl] at e
      cases e
      exact ⟨a, ws, ha, e2, e3, q⟩
    · rw [if_neg hj] at e
      obtain ⟨b, vs, z1, z2, z3, z4⟩ := p.own j m e
      exact ⟨b, vs, z1, c.h _ _ z2 (other j m b hj e z1), c.n _ _ z2 z4.mtb (other j m b hj e z1) z3, z4.mono c.f⟩
  · have w : ∀ j m, ownL (r.set v s)[j]? = some m → ∃ m', ownL r[j]? = some m' := fun j m e => by
      rw [hset] at e
      by_cases hj : j = v
      · subst hj; exact ⟨x, hv⟩
      · rw [if_neg hj] at e; exact ⟨m, e⟩
    obtain ⟨m1, w1⟩ := w j m e1
    obtain ⟨m2, w2⟩ := w k m' e2
    exact p.apart j k m1 m2 b w1 w2 z1 z2
  · rw [hset] at e
    by_cases hj : j = v
    · subst hj; exact ⟨x, hv⟩
    · rw [if_neg hj] at e; exact ⟨m, e⟩
  · by_cases hj : j = v
    · subst hj
      rw [List.getElem?_set_self hl] at e
      exact ioi m (Option.some.inj e)
    · rw [List.getElem?_set_ne (Ne.symm hj)] at e
      exact ⟨m, e⟩
end

section
variable {X : Cx} {ca : Nat → Addr} {W : WX} {pos p : Pos} {k : Nat} {f : Addr} {fd : FuncData} {ps : List Str} {x : Str} {c : List Slot → CR} {e : Expr} {es : List Expr} {fs : St → R (List D)}
theorem q_call (tk : Takes X W) (FO : FnOk X.prog X.w X.K X.mg X.base (L2.CX X.prog X.w) k f fd ps (SpOf X.K ca ps.length c)) (hr : Room k X.A) (hg : Gl X x) (hm : X.mg x = some (.ref f)) (hk : PySem.W.keepIn X.K (.ref f) = true) (hb : Binds X.K fd ps [])
    (hd : (x == ("__debug__" : Str)) = false) (ha : QA X ca W (e :: es) fs) (hn : (e :: es).all noStar = true) (hlen : ∀ r l r', fs r = .ok l r' → l.length = ps.length) :
    QE X ca W (.Call (.Name x p) (e :: es) [] pos) (fun r => (fs r).bind fun l r => (c (l.map .val)).val r) := by
  have hn2 := hn
  rw [List.all_cons, Bool.and_eq_true] at hn2
  refine PE.weak (pe_callS FO hr hg hm hk hb (E := WE W) (fun σ => passAt tk σ) ha hd (star_cons hn2.1) (star_any hn2.2)) fun σ H Q ⟨r, F, q, h⟩ => ⟨r, F, q, ?_⟩
  dsimp only at h
  cases e1 : fs r with
  | bad => rw [e1] at h; exact h.elim
  | exc y r1 => rw [e1] at h; exact h
  | ok l r1 =>
    rw [e1] at h
    intro vs H1 F1 p1 q1
    have h := Fi.shift p1 h
    dsimp only [R.bind] at h
    refine ⟨l.map .val, F1, by rw [← q1.length]; exact hlen r l r1 e1, vals_rp p1.rp.sub q1, fun i m z => ?_, fun i m z => ?_, ?_⟩
    · exact vals_noL (i := i) (m := m) (by rw [z]; rfl)
    · exact absurd (show ownL (l.map Slot.val)[i]? = some m by rw [z]; rfl) vals_noL
    · cases e2 : c (l.map .val) with
      | bad => rw [e2] at h; exact h.elim
      | ret d o =>
        rw [e2] at h
        exact fun v H' F' pc q => h v H' F' (Pc.ps p1.rp pc) q
      | exc y o =>
        rw [e2] at h
        exact fun cls dd H' F' pc q => h cls dd H' F' (Pc.ps p1.rp pc) q
theorem q_callio {i : Nat} {y : Str} {py : Pos} (tk : Takes X W) (FO : FnOk X.prog X.w X.K X.mg X.base (L2.CX X.prog X.w) k f fd ps (SpOf X.K ca ps.length c)) (hr : Room k X.A) (hg : Gl X x) (hm : X.mg x = some (.ref f)) (hk : PySem.W.keepIn X.K (.ref f) = true) (hb : Binds X.K fd ps [])
    (hd : (x == ("__debug__" : Str)) = false) (hN : X.N[i]? = some y) (hv : Vis X.env.scope y) (hyd : (y == ("__debug__" : Str)) = false) (hycd : (y == ("__classdict__" : Str)) = false) (ha : QA X ca W es fs) (hn : es.all noStar = true)
    (hlen : ∀ r l r', fs r = .ok l r' → l.length + 1 = ps.length) :
    QE X ca W (.Call (.Name x p) (.Name y py :: es) [] pos) (fun r => if (iov i r).isSome then (fs r).bind fun l r => (match iov i r with | some x => (c (.io x :: l.map .val)).valio i r | none => .bad) else .bad) := by
  refine PE.weak (pe_callS FO hr hg hm hk hb (E := WE W) (fun σ => passAt tk σ) (pa_cons (pe_var hN hv hyd hycd) ha) hd rfl (star_any hn)) fun σ H Q ⟨r, F, q, h⟩ => ?_
  dsimp only at h
  split at h
  case isFalse => exact h.elim
  rename_i h0
  obtain ⟨x0, e0⟩ := Option.isSome_iff_exists.mp h0
  obtain ⟨a, vs0, ea, _⟩ := q.own i x0 (iov_own e0)
  refine ⟨_, ea, r, F, q, ?_⟩
  cases e1 : fs r with
  | bad => rw [e1] at h; exact h.elim
  | exc y r1 => rw [e1] at h; exact h
  | ok l r1 =>
    rw [e1] at h
    intro vs H1 F1 p1 q1
    have h := Fi.shift p1 h
    dsimp only [R.bind] at h
    cases e3 : iov i r1 with
    | none => rw [e3] at h; exact h.elim
    | some z =>
      rw [e3] at h
      obtain ⟨a', ws, ea', ha', hf', qx⟩ := p1.rp.own i z (iov_own e3)
      rw [ea] at ea'
      cases ea'
      refine ⟨.io z :: l.map .val, F1, by rw [List.length_cons, ← q1.length]; exact hlen r l r1 e1, io_rp p1.rp.sub q1 ha' hf' qx, fun j m w => ?_, fun j m w => ?_, ?_⟩
      · cases j with
        | zero => cases w
        | succ j => exact vals_noL (l := l) (i := j) (m := m) (by rw [show (l.map Slot.val)[j]? = some (.own m) from w]; rfl)
      · cases j with
        | zero => rfl
        | succ j => exact absurd (show ownL (l.map Slot.val)[j]? = some m by rw [show (l.map Slot.val)[j]? = some (.io m) from w]; rfl) vals_noL
      · dsimp only at h
        cases e2 : c (.io z :: l.map .val) with
        | bad => rw [e2] at h; exact h.elim
        | ret d o =>
          rw [e2] at h
          exact fun v H' F' pc q => h v H' F' (Pc.psio p1.rp e3 ea pc) q
        | exc y o =>
          rw [e2] at h
          exact fun cls dd H' F' pc q => h cls dd H' F' (Pc.psio p1.rp e3 ea pc) q
end
end Z

/-! Z8: stores, walks -/
namespace Z
open PySem PySem.Spec PyProof.Rows L2 TL

/-- what a statement does to the frame and the heap -/
structure Pt (K : PySem.W.Frag) (r r' : St) (σ σ' : L2.St) (H F H' F' : Hp) : Prop where
  rp : Rp K r' σ' H' F'
  f : Same F F'
  h : ∀ b o, H b = some o → ¬ Own r σ b → H' b = some o
  n : ∀ b o, H b = some o → Mtb o → ¬ Own r σ b → F b = none → F' b = none
  sub : ∀ b, Own r' σ' b → Own r σ b ∨ H b = none
  io : ∀ (i : Nat) l, r'[i]? = some (Slot.io l) → (∃ l', r[i]? = some (Slot.io l')) ∧ σ'[i]? = σ[i]?
section
variable {K : PySem.W.Frag} {r r' r1 r2 : St} {σ σ' σ1 σ2 : L2.St} {H F H1 F1 H2 F2 : Hp}
theorem Ps.pt (p : Ps K r r1 σ H F H1 F1) : Pt K r r1 σ σ H F H1 F1 := ⟨p.rp, p.f, p.h, p.n, fun b o => .inl (p.ownSub o), fun i l e => ⟨p.io i l e, rfl⟩⟩
theorem Pt.refl (p : Rp K r σ H F) : Pt K r r σ σ H F H F := (Ps.refl p).pt
theorem Pt.trans (p : Pt K r r1 σ σ1 H F H1 F1) (q : Pt K r1 r2 σ1 σ2 H1 F1 H2 F2) : Pt K r r2 σ σ2 H F H2 F2 := by
  have no : ∀ b o, H b = some o → ¬ Own r σ b → ¬ Own r1 σ1 b := fun b o e n z => (p.sub b z).elim n fun w => by rw [w] at e; cases e
  refine ⟨q.rp, p.f.trans q.f, fun b o e n => q.h b o (p.h b o e n) (no b o e n), fun b o e m n z => q.n b o (p.h b o e n) m (no b o e n) (p.n b o e m n z), fun b z => ?_, fun i l e => ?_⟩
  · rcases q.sub b z with z | z
    · exact p.sub b z
    · cases e : H b with
      | none => exact .inr rfl
      | some o =>
        refine .inl ?_
        by_cases n : Own r σ b
        · exact n
        · rw [p.h b o e n] at z
          cases z
  · obtain ⟨⟨l1, e1⟩, z1⟩ := q.io i l e
    obtain ⟨e2, z2⟩ := p.io i l1 e1
    exact ⟨e2, z1.trans z2⟩
theorem setv_some {i : Nat} {s : Slot} (h : setv i s r = some r') : r' = r.set i s ∧ i < r.length := by
  unfold setv at h
  split at h
  · cases h; exact ⟨rfl, ‹_›⟩
  · cases h
/-- a value is stored -/
theorem Rp.put (p : Rp K r σ H F) {i : Nat} {d : D} {v : V} (hi : i < r.length) (q : Rep K F d v) : Pt K r (r.set i (.val d)) σ (σ.set i (some v)) H F H F := by
  have hi2 : i < σ.length := by rw [← p.len]; exact hi
  have own1 : ∀ (j : Nat) m, ownL (r.set i (.val d))[j]? = some m → j ≠ i ∧ ownL r[j]? = some m := fun j m e => by
    by_cases hj : j = i
    · subst hj
      rw [List.getElem?_set_self hi] at e
      cases e
    · rw [List.getElem?_set_ne (Ne.symm hj)] at e
      exact ⟨hj, e⟩
  have sg : ∀ (j : Nat), j ≠ i → (σ.set i (some v))[j]? = σ[j]? := fun j hj => by rw [List.getElem?_set_ne (Ne.symm hj)]
  refine ⟨⟨by rw [List.length_set, List.length_set]; exact p.len, p.sub, fun j x e => ?_, fun j m e => ?_, fun j k m m' b e1 e2 z1 z2 => ?_⟩, fun _ _ e => e, fun _ _ e _ => e, fun _ _ _ _ _ e => e, fun b ⟨j, m, e, z⟩ => ?_, fun j m e => ?_⟩
  · by_cases hj : j = i
    · subst hj
      rw [List.getElem?_set_self hi] at e
      cases e
      exact ⟨v, by rw [List.getElem?_set_self hi2], q⟩
    · rw [List.getElem?_set_ne (Ne.symm hj)] at e
      rw [sg j hj]
      exact p.val j x e
  · obtain ⟨hj, e⟩ := own1 j m e
    rw [sg j hj]
    exact p.own j m e
  · obtain ⟨hj, e1⟩ := own1 j m e1
    obtain ⟨hk, e2⟩ := own1 k m' e2
    rw [sg j hj] at z1
    rw [sg k hk] at z2
    exact p.apart j k m m' b e1 e2 z1 z2
  · obtain ⟨hj, e⟩ := own1 j m e
    rw [sg j hj] at z
    exact .inl ⟨j, m, e, z⟩
  · by_cases hj : j = i
    · subst hj
      rw [List.getElem?_set_self hi] at e
      cases e
    · rw [List.getElem?_set_ne (Ne.symm hj)] at e
      rw [sg j hj]
      exact ⟨⟨m, e⟩, rfl⟩
/-- a new list becomes the frame's own -/
theorem Rp.putOwn (p : Rp K r σ H F) {i : Nat} {l : D} {a : Addr} {vs : HO} (hi : i < r.length) (ha : H a = none) (q : RepO K F l vs) :
    Pt K r (r.set i (.own l)) σ (σ.set i (some (V.ref a))) H F (upd H a vs) F := by
  have hi2 : i < σ.length := by rw [← p.len]; exact hi
  have hF : F a = none := p.sub.free ha
  have own1 : ∀ (j : Nat) m, ownL (r.set i (.own l))[j]? = some m → (j = i ∧ m = l) ∨ (j ≠ i ∧ ownL r[j]? = some m) := fun j m e => by
    by_cases hj : j = i
    · subst hj
      rw [List.getElem?_set_self hi] at e
      cases e
      exact .inl ⟨rfl, rfl⟩
    · rw [List.getElem?_set_ne (Ne.symm hj)] at e
      exact .inr ⟨hj, e⟩
  have sg : ∀ (j : Nat), j ≠ i → (σ.set i (some (V.ref a)))[j]? = σ[j]? := fun j hj => by rw [List.getElem?_set_ne (Ne.symm hj)]
  have si : (σ.set i (some (V.ref a)))[i]? = some (some (V.ref a)) := List.getElem?_set_self hi2
  have old : ∀ (j : Nat) m b, ownL r[j]? = some m → σ[j]? = some (some (V.ref b)) → b ≠ a := fun j m b e z w => by
    subst w
    obtain ⟨b', vs', e1, e2, _⟩ := p.own j m e
    rw [z] at e1
    cases e1
    rw [ha] at e2
    cases e2
  refine ⟨⟨by rw [List.length_set, List.length_set]; exact p.len, fun b u e => by rw [upd_ne (ne_of_none (p.sub b u e) ha)]; exact p.sub b u e, fun j x e => ?_, fun j m e => ?_, fun j k m m' b e1 e2 z1 z2 => ?_⟩, fun _ _ e => e, fun b u e _ => by rw [upd_ne (ne_of_none e ha)]; exact e, fun _ _ _ _ _ e => e, fun b ⟨j, m, e, z⟩ => ?_, fun j m e => ?_⟩
  · by_cases hj : j = i
    · subst hj
      rw [List.getElem?_set_self hi] at e
      cases e
    · rw [List.getElem?_set_ne (Ne.symm hj)] at e
      rw [sg j hj]
      exact p.val j x e
  · rcases own1 j m e with ⟨rfl, rfl⟩ | ⟨hj, e⟩
    · exact ⟨a, vs, si, upd_same, hF, q⟩
    · rw [sg j hj]
      obtain ⟨b, ws, e1, e2, e3, z⟩ := p.own j m e
      exact ⟨b, ws, e1, by rw [upd_ne (old j m b e e1)]; exact e2, e3, z⟩
  · rcases own1 j m e1 with ⟨rfl, rfl⟩ | ⟨hj, y1⟩ <;> rcases own1 k m' e2 with ⟨rfl, rfl⟩ | ⟨hk, y2⟩
    · rfl
    · rw [si] at z1
      cases z1
      rw [sg k hk] at z2
      exact absurd rfl (old k m' a y2 z2)
    · rw [si] at z2
      cases z2
      rw [sg j hj] at z1
      exact absurd rfl (old j m a y1 z1)
    · rw [sg j hj] at z1
      rw [sg k hk] at z2
      exact p.apart j k m m' b y1 y2 z1 z2
  · rcases own1 j m e with ⟨rfl, rfl⟩ | ⟨hj, e⟩
    · rw [si] at z
      cases z
      exact .inr ha
    · rw [sg j hj] at z
      exact .inl ⟨j, m, e, z⟩
  · by_cases hj : j = i
    · subst hj
      rw [List.getElem?_set_self hi] at e
      cases e
    · rw [List.getElem?_set_ne (Ne.symm hj)] at e
      rw [sg j hj]
      exact ⟨⟨m, e⟩, rfl⟩
/-- a list of the frame's own is changed -/
theorem Rp.chg (p : Rp K r σ H F) {i : Nat} {l l' : D} {s : Slot} {a : Addr} {vs : HO} (h : ownL r[i]? = some l) (hs : ownL (some s) = some l') (hio : ∀ y, s = .io y → ∃ z, r[i]? = some (Slot.io z)) (nv : ∀ d, s ≠ .val d) (ha : σ[i]? = some (some (V.ref a))) (q : RepO K F l' vs) :
    Ps K r (r.set i s) σ H F (upd H a vs) F := by
  have hi : i < r.length := by
    cases e : r[i]? with
    | none => rw [e] at h; cases h
    | some z => exact (List.getElem?_eq_some_iff.mp e).1
  obtain ⟨a', ws, e1, e2, e3, _⟩ := p.own i l h
  rw [ha] at e1
  cases e1
  have hset : ∀ (j : Nat), ownL (r.set i s)[j]? = if j = i then some l' else ownL r[j]? := fun j => by
    by_cases hj : j = i
    · subst hj
      rw [List.getElem?_set_self hi, if_pos rfl]
      exact hs
    · rw [List.getElem?_set_ne (Ne.symm hj), if_neg hj]
  have back : ∀ (j : Nat) m, ownL (r.set i s)[j]? = some m → ∃ m', ownL r[j]? = some m' := fun j m e => by
    rw [hset] at e
    by_cases hj : j = i
    · subst hj; exact ⟨l, h⟩
    · rw [if_neg hj] at e; exact ⟨m, e⟩
  refine ⟨⟨by rw [List.length_set]; exact p.len, fun b u e => by rw [upd_ne (fun z => by subst z; rw [e3] at e; cases e)]; exact p.sub b u e, fun j d e => ?_, fun j m e => ?_, fun j k m m' b z1 z2 w1 w2 => ?_⟩, fun _ _ e => e, fun b u e n => ?_, fun _ _ _ _ _ e => e, back, fun j m e => ?_⟩
  · by_cases hj : j = i
    · subst hj
      rw [List.getElem?_set_self hi] at e
      exact absurd (Option.some.inj e) (nv d)
    · rw [List.getElem?_set_ne (Ne.symm hj)] at e
      exact p.val j d e
  · rw [hset] at e
    by_cases hj : j = i
    · subst hj
      rw [if_pos rfl] at e
      cases e
      exact ⟨a, vs, ha, upd_same, e3, q⟩
    · rw [if_neg hj] at e
      obtain ⟨b, us, z1, z2, z3, z4⟩ := p.own j m e
      have hb : b ≠ a := fun w => by subst w; exact hj (p.apart j i m l b e h z1 ha)
      exact ⟨b, us, z1, by rw [upd_ne hb]; exact z2, z3, z4⟩
  · obtain ⟨m1, y1⟩ := back j m z1
    obtain ⟨m2, y2⟩ := back k m' z2
    exact p.apart j k m1 m2 b y1 y2 w1 w2
  · have hb : b ≠ a := fun w => n (by subst w; exact ⟨i, l, h, ha⟩)
    rw [upd_ne hb]
    exact e
  · by_cases hj : j = i
    · subst hj
      rw [List.getElem?_set_self hi] at e
      exact hio m (Option.some.inj e)
    · rw [List.getElem?_set_ne (Ne.symm hj)] at e
      exact ⟨m, e⟩
end

/-! ### targets -/
def gAll : List Nat → TGs
  | [] => gNil
  | i :: is => gCons (gName i) (gAll is)
def gTg (K : PySem.W.Frag) : Tg → TG
  | .one i => gName i
  | .many is => fun v σ H Q => gTup K is.length (gAll is) v σ H Q ∨ gUnl K is.length (gAll is) v σ H Q
theorem pg_or {X : Cx} {e : Expr} {t t2 : TG} (h : PG X e t) (h2 : PG X e t2) : PG X e (fun v σ H Q => t v σ H Q ∨ t2 v σ H Q) := ⟨fun pins s σ H v u Q I r hw => hw.elim (fun q => h.run pins s σ H v u Q I r q) fun q => h2.run pins s σ H v u Q I r q⟩
/-- the same but at these places -/
def But (is : List Nat) (σ σ' : L2.St) : Prop := σ'.length = σ.length ∧ ∀ j, j ∉ is → σ'[j]? = σ[j]?
theorem But.refl (is : List Nat) (σ : L2.St) : But is σ σ := ⟨rfl, fun _ _ => rfl⟩
theorem gAll_ok {K : PySem.W.Frag} : ∀ {is : List Nat} {ds : List D} {vs : List V} {r r' : St} {σ : L2.St} {H F : Hp} {Q : L2.St → Hp → Prop}, setAll is ds r = some r' → Rp K r σ H F → Reps K F ds vs →
    (∀ σ', Pt K r r' σ σ' H F H F → But is σ σ' → Q σ' H) → gAll is vs σ H Q
  | [], [], _, r, r', σ, H, F, Q, h, p, q, k => by
    simp only [setAll, Option.some.injEq] at h
    subst h
    simp only [Reps] at q
    exact ⟨q, k σ (Pt.refl p) (But.refl _ _)⟩
  | i :: is, d :: ds, _, r, r', σ, H, F, Q, h, p, q, k => by
    simp only [Reps] at q
    obtain ⟨v, w, rfl, qv, qw⟩ := q
    simp only [setAll] at h
    obtain ⟨r1, h1, h2⟩ := Option.bind_eq_some_iff.mp h
    obtain ⟨e, hi⟩ := setv_some h1
    subst e
    have p1 := p.put hi qv
    refine ⟨v, w, rfl, gAll_ok h2 p1.rp qw fun σ' p2 b => k σ' (p1.trans p2) ⟨by rw [b.1, List.length_set], fun j hj => ?_⟩⟩
    rw [b.2 j fun z => hj (List.mem_cons_of_mem _ z), List.getElem?_set_ne (fun z => hj (by rw [z]; exact List.mem_cons_self))]
  | [], _ :: _, _, _, _, _, _, _, _, h, _, _, _ => by simp [setAll] at h
  | _ :: _, [], _, _, _, _, _, _, _, h, _, _, _ => by simp [setAll] at h
theorem setAll_len : ∀ {is : List Nat} {ds : List D} {r r' : St}, setAll is ds r = some r' → is.length = ds.length
  | [], [], _, _, _ => rfl
  | i :: is, d :: ds, r, r', h => by
    simp only [setAll] at h
    obtain ⟨r1, h1, h2⟩ := Option.bind_eq_some_iff.mp h
    simp [setAll_len h2]
  | [], _ :: _, _, _, h => by simp [setAll] at h
  | _ :: _, [], _, _, h => by simp [setAll] at h
def Tg.is : Tg → List Nat
  | .one i => [i]
  | .many is => is
theorem gTg_okB {K : PySem.W.Frag} {t : Tg} {d : D} {v : V} {r r' : St} {σ : L2.St} {H F : Hp} {Q : L2.St → Hp → Prop} (h : setTg t d r = some r') (p : Rp K r σ H F) (q : Rep K F d v)
    (k : ∀ σ', Pt K r r' σ σ' H F H F → But t.is σ σ' → Q σ' H) : gTg K t v σ H Q := by
  cases t with
  | one i =>
    obtain ⟨e, hi⟩ := setv_some (show setv i (.val d) r = some r' from h)
    subst e
    exact k _ (p.put hi q) ⟨by rw [List.length_set], fun j hj => by rw [List.getElem?_set_ne (fun z => hj (by rw [z]; exact List.mem_singleton_self _))]⟩
  | many is =>
    cases d with
    | tup ds =>
      have h : setAll is ds r = some r' := h
      obtain ⟨a, vs, e, s, z⟩ := Rep.tup_iff.mp q
      exact .inl ⟨a, vs, e, SqT.up p.sub s, by rw [← z.length]; exact (setAll_len h).symm, gAll_ok h p z k⟩
    | lst ds =>
      have h : setAll is ds r = some r' := h
      obtain ⟨a, vs, e, s, z⟩ := Rep.lst_iff.mp q
      exact .inr ⟨a, vs, e, SqL.up p.sub s, by rw [← z.length]; exact (setAll_len h).symm, gAll_ok h p z k⟩
    | _ => cases h
theorem gTg_ok {K : PySem.W.Frag} {t : Tg} {d : D} {v : V} {r r' : St} {σ : L2.St} {H F : Hp} {Q : L2.St → Hp → Prop} (h : setTg t d r = some r') (p : Rp K r σ H F) (q : Rep K F d v)
    (k : ∀ σ', Pt K r r' σ σ' H F H F → Q σ' H) : gTg K t v σ H Q := gTg_okB h p q fun σ' p _ => k σ' p
theorem setAll_but : ∀ {is : List Nat} {ds : List D} {r r' : St}, setAll is ds r = some r' → r'.length = r.length ∧ ∀ j, j ∉ is → r'[j]? = r[j]?
  | [], [], r, r', h => by
    simp only [setAll, Option.some.injEq] at h
    subst h
    exact ⟨rfl, fun _ _ => rfl⟩
  | i :: is, d :: ds, r, r', h => by
    simp only [setAll] at h
    obtain ⟨r1, h1, h2⟩ := Option.bind_eq_some_iff.mp h
    obtain ⟨e, hi⟩ := setv_some h1
    subst e
    obtain ⟨a, b⟩ := setAll_but h2
    refine ⟨by rw [a, List.length_set], fun j hj => ?_⟩
    rw [b j fun z => hj (List.mem_cons_of_mem _ z), List.getElem?_set_ne (fun z => hj (by rw [z]; exact List.mem_cons_self))]
  | [], _ :: _, _, _, h => by simp [setAll] at h
  | _ :: _, [], _, _, h => by simp [setAll] at h
theorem setTg_but {t : Tg} {d : D} {r r' : St} (h : setTg t d r = some r') : r'.length = r.length ∧ ∀ j, j ∉ t.is → r'[j]? = r[j]? := by
  cases t with
  | one i =>
    obtain ⟨e, hi⟩ := setv_some (show setv i (.val d) r = some r' from h)
    subst e
    exact ⟨by rw [List.length_set], fun j hj => by rw [List.getElem?_set_ne (fun z => hj (by rw [z]; exact List.mem_singleton_self _))]⟩
  | many is =>
    cases d with
    | tup ds => exact setAll_but (show setAll is ds r = some r' from h)
    | lst ds => exact setAll_but (show setAll is ds r = some r' from h)
    | _ => cases h
/-! ### what is walked -/
structure Wk (K : PySem.W.Frag) (F : Hp) (xs : List D) (J : It) : Prop where
  go : ∀ {i r σ H F'}, i < xs.length → Rp K r σ H F' → Same F F' → J.go i H
  stop : ∀ {i r σ H F'}, xs.length ≤ i → Rp K r σ H F' → Same F F' → J.stop i H
  yld : ∀ {i r σ H F' x H'}, i < xs.length → Rp K r σ H F' → Same F F' → J.yld i H x H' → ∃ d F'', xs[i]? = some d ∧ Ps K r r σ H F' H' F'' ∧ Rep K F'' d x
def relW (K : PySem.W.Frag) : Rl (List D) It := fun F xs J => Wk K F xs J
def tI (K : PySem.W.Frag) (ca : Nat → Addr) (W : WX) (f : St → R (List D)) : TI := fun σ H Q => ∃ r F, Rp K r σ H F ∧ Fi K ca W (relW K) (f r) r σ H F Q
abbrev QI (X : Cx) (ca : Nat → Addr) (W : WX) (tg it : Expr) (f : St → R (List D)) : Prop := PI X tg it (tI X.K ca W f)
theorem PI.weak {X : Cx} {tg e : Expr} {t t' : TI} (h : PI X tg e t) (w : ∀ σ H Q, t' σ H Q → t σ H Q) : PI X tg e t' := ⟨fun pins s σ H Q I q => h.run pins s σ H Q I (w σ H Q q)⟩
section
variable {K : PySem.W.Frag} {F : Hp}
theorem wk_list {a : Addr} {vs : List V} {xs : List D} (s : SqL K F a vs) (q : Reps K F xs vs) : Wk K F xs (Itl K a) where
  go := fun {i r σ H F'} hi p sm => by
    obtain ⟨d, hd⟩ : ∃ d, xs[i]? = some d := ⟨xs[i], by simp [hi]⟩
    obtain ⟨v, hv, _⟩ := q.get hd
    exact ⟨vs, v, SqL.up (sm.trans p.sub) s, hv⟩
  stop := fun {i r σ H F'} hi p sm => ⟨vs, SqL.up (sm.trans p.sub) s, by rw [← q.length]; exact hi⟩
  yld := fun {i r σ H F' x H'} hi p sm y => by
    obtain ⟨e, y⟩ := y
    subst e
    have hv := y vs (SqL.up (sm.trans p.sub) s)
    obtain ⟨d, hd⟩ : ∃ d, xs[i]? = some d := ⟨xs[i], by simp [hi]⟩
    obtain ⟨v, hv', z⟩ := q.get hd
    rw [hv] at hv'
    cases hv'
    exact ⟨d, F', hd, Ps.refl p, z.mono sm⟩
theorem wk_tup {a : Addr} {vs : List V} {xs : List D} (s : SqT K F a vs) (q : Reps K F xs vs) : Wk K F xs (Itt K a) where
  go := fun {i r σ H F'} hi p sm => by
    obtain ⟨d, hd⟩ : ∃ d, xs[i]? = some d := ⟨xs[i], by simp [hi]⟩
    obtain ⟨v, hv, _⟩ := q.get hd
    exact ⟨vs, v, SqT.up (sm.trans p.sub) s, hv⟩
  stop := fun {i r σ H F'} hi p sm => ⟨vs, SqT.up (sm.trans p.sub) s, by rw [← q.length]; exact hi⟩
  yld := fun {i r σ H F' x H'} hi p sm y => by
    obtain ⟨e, y⟩ := y
    subst e
    have hv := y vs (SqT.up (sm.trans p.sub) s)
    obtain ⟨d, hd⟩ : ∃ d, xs[i]? = some d := ⟨xs[i], by simp [hi]⟩
    obtain ⟨v, hv', z⟩ := q.get hd
    rw [hv] at hv'
    cases hv'
    exact ⟨d, F', hd, Ps.refl p, z.mono sm⟩
theorem rngL_get {lo hi : Int} {i : Nat} (h : i < (hi - lo).toNat) : (rngL lo hi)[i]? = some (.int (lo + i)) := by
  unfold rngL
  rw [List.getElem?_map, List.getElem?_range h]
  rfl
theorem rngL_len {lo hi : Int} : (rngL lo hi).length = (hi - lo).toNat := by unfold rngL; simp
theorem wk_rng {lo hi : Int} : Wk K F (rngL lo hi) (Itr lo (hi - lo).toNat) where
  go := fun {i r σ H F'} h p sm => by rw [rngL_len] at h; exact h
  stop := fun {i r σ H F'} h p sm => by rw [rngL_len] at h; exact h
  yld := fun {i r σ H F' x H'} hi p sm y => by
    obtain ⟨e, y⟩ := y
    subst e y
    rw [rngL_len] at hi
    exact ⟨_, F', rngL_get hi, Ps.refl p, Rep.int_iff.mpr rfl⟩
theorem rngB_get {lo hi : Int} {i : Nat} (h : i < (lo - hi).toNat) : (rngB lo hi)[i]? = some (.int (lo - i)) := by
  unfold rngB
  rw [List.getElem?_map, List.getElem?_range h]
  rfl
theorem rngB_len {lo hi : Int} : (rngB lo hi).length = (lo - hi).toNat := by unfold rngB; simp
theorem wk_rngB {lo hi : Int} : Wk K F (rngB lo hi) (Itc lo (-1) (lo - hi).toNat) where
  go := fun {i r σ H F'} h p sm => by rw [rngB_len] at h; exact h
  stop := fun {i r σ H F'} h p sm => by rw [rngB_len] at h; exact h
  yld := fun {i r σ H F' x H'} hi p sm y => by
    obtain ⟨e, y⟩ := y
    subst e y
    rw [rngB_len] at hi
    exact ⟨_, F', rngB_get hi, Ps.refl p, Rep.int_iff.mpr (by congr 1; omega)⟩
theorem wk_str {s : List Nat} (o : SOk s) : Wk K F (s.map fun c => .str [c]) (Its ⟨s.toArray⟩) where
  go := fun {i r σ H F'} h p sm => by rw [List.length_map] at h; exact (show i < (⟨s.toArray⟩ : Str).length by rw [len_mk]; exact h)
  stop := fun {i r σ H F'} h p sm => by rw [List.length_map] at h; exact (show (⟨s.toArray⟩ : Str).length ≤ i by rw [len_mk]; exact h)
  yld := fun {i r σ H F' x H'} hi p sm y => by
    obtain ⟨e, c, hc, ex⟩ := y
    subst e ex
    have hc : s[i]? = some c := by simpa using hc
    exact ⟨.str [c], F', by rw [List.getElem?_map, hc]; rfl, Ps.refl p, Rep.str_iff.mpr ⟨rfl, o.one (List.mem_of_getElem? hc)⟩⟩
end
section
variable {X : Cx} {ca : Nat → Addr} {W : WX} {pos p : Pos} {tg e : Expr} {f : St → R D} {fs : St → R (List D)}
theorem qi_e (h : QE X ca W e f) : QI X ca W tg e (fun r => (f r).bind fun d r => .of (itemsD d) r) := by
  refine ⟨fun pins s σ H R I ⟨r, F, p, q⟩ => ?_⟩
  dsimp only at q
  have any : (∀ d r1, f r = .ok d r1 → False) → wpAny (model X.prog X.w) X.A (eval e X.env) (fun v s1 => wpAny (model X.prog X.w) X.A (pyIter v) (PIE X pins σ tg R) X.xe s1) X.xe s := fun no => by
    refine (pi_list h).run pins s σ H R I ⟨r, F, p, ?_⟩
    cases e : f r with
    | ok d r1 => exact (no d r1 e).elim
    | exc y r1 => rw [e] at q; exact q
    | bad => rw [e] at q; exact q.elim
  cases e1 : f r with
  | exc y r1 => exact any fun d r1 z => by rw [e1] at z; cases z
  | bad => exact any fun d r1 z => by rw [e1] at z; cases z
  | ok d r1 =>
    rw [e1] at q
    cases d with
    | lst xs =>
      refine (pi_list h).run pins s σ H R I ⟨r, F, p, ?_⟩
      rw [e1]
      intro v H1 F1 p1 q1
      obtain ⟨a, vs, ev, s1, z1⟩ := Rep.lst_iff.mp q1
      exact ⟨a, ev, ⟨vs, SqL.up p1.rp.sub s1⟩, q _ _ _ p1 (wk_list s1 z1)⟩
    | tup xs =>
      refine (pi_tup h).run pins s σ H R I ⟨r, F, p, ?_⟩
      rw [e1]
      intro v H1 F1 p1 q1
      obtain ⟨a, vs, ev, s1, z1⟩ := Rep.tup_iff.mp q1
      exact ⟨a, ev, ⟨vs, SqT.up p1.rp.sub s1⟩, q _ _ _ p1 (wk_tup s1 z1)⟩
    | str xs =>
      refine (pi_str h).run pins s σ H R I ⟨r, F, p, ?_⟩
      rw [e1]
      intro v H1 F1 p1 q1
      obtain ⟨ev, o⟩ := Rep.str_iff.mp q1
      exact ⟨_, ev, q _ _ _ p1 (wk_str o)⟩
    | _ => exact q.elim
theorem small2 {a : Int} (h : small a = true) : -(2 ^ 62) ≤ a ∧ a < 2 ^ 62 := by
  have := small_le h
  omega
theorem qi_rng1 {a : Expr} (hg : Gl X "range") (hm : X.mg "range" = none) (ha : QE X ca W a f) (hn : noStar a = true) : QI X ca W tg (.Call (.Name "range" p) [a] [] pos) (fun r => (f r).bind fun x r => .of (rng1 x) r) := by
  refine PI.weak (pi_range1 hg hm (pa_cons ha pa_nil (star_cons hn)) (star_cons hn)) fun σ H Q ⟨r, F, p, h⟩ => ⟨r, F, p, Fi.step h fun x r1 v H1 F1 p1 q1 h => ?_⟩
  cases x <;> try exact h.elim
  rename_i b
  dsimp only [rng1] at h
  split at h
  · rename_i hb
    refine ⟨b, by rw [Rep.int_iff.mp q1], (small2 hb).1, (small2 hb).2, ?_⟩
    have w := wk_rng (K := X.K) (F := F1) (lo := 0) (hi := b)
    rw [show b - 0 = b by omega] at w
    exact h _ _ _ (Ps.refl p1.rp) w
  · exact h.elim
theorem qi_rng2 {a b : Expr} {f2 : St → R D} (hg : Gl X "range") (hm : X.mg "range" = none) (ha : QE X ca W a f) (hb : QE X ca W b f2) (hn : noStar a = true) (hn2 : noStar b = true) :
    QI X ca W tg (.Call (.Name "range" p) [a, b] [] pos) (fun r => (f r).bind fun x r => (f2 r).bind fun y r => .of (rng2 x y) r) := by
  refine PI.weak (pi_range2 hg hm (pa_cons ha (pa_cons hb pa_nil (star_cons hn2)) (star_cons hn)) ((star_cons hn).trans (by rw [star_cons hn2]; rfl)) (star_cons hn2)) fun σ H Q ⟨r, F, p, h⟩ => ⟨r, F, p, Fi.step h fun x r1 v H1 F1 p1 q1 h => ⟨r1, F1, p1.rp, Fi.step h fun y r2 w H2 F2 p2 q2 h => ?_⟩⟩
  cases x <;> cases y <;> try exact h.elim
  rename_i i _ j
  dsimp only [rng2] at h
  split at h
  · rename_i hb
    rw [Bool.and_eq_true] at hb
    refine ⟨i, j, by rw [Rep.int_iff.mp q1, Rep.int_iff.mp q2], ⟨(small2 hb.1).1, (small2 hb.1).2, (small2 hb.2).1, (small2 hb.2).2⟩, ?_⟩
    exact h _ _ _ (Ps.refl p2.rp) wk_rng
  · exact h.elim
/-- range(a, b, -1) -/
theorem qi_rng3 {a b c : Expr} {f2 : St → R D} (hg : Gl X "range") (hm : X.mg "range" = none) (ha : QE X ca W a f) (hb : QE X ca W b f2) (hc : PE X c (fun _ H Q => Q (.int (-1)) H)) (hn : noStar a = true) (hn2 : noStar b = true) (hn3 : noStar c = true) :
    QI X ca W tg (.Call (.Name "range" p) [a, b, c] [] pos) (fun r => (f r).bind fun x r => (f2 r).bind fun y r => .of (rng3 x y) r) := by
  refine PI.weak (pi_range3 hg hm (pa_cons ha (pa_cons hb (pa_cons hc pa_nil (star_cons hn3)) (star_cons hn2)) (star_cons hn)) (star_cons hn) (star_any (by simp [hn2, hn3]))) fun σ H Q ⟨r, F, p, h⟩ => ⟨r, F, p, Fi.step h fun x r1 v H1 F1 p1 q1 h => ⟨r1, F1, p1.rp, Fi.step h fun y r2 w H2 F2 p2 q2 h => ?_⟩⟩
  cases x <;> cases y <;> try exact h.elim
  rename_i i _ j
  dsimp only [rng3] at h
  split at h
  · rename_i hb
    rw [Bool.and_eq_true] at hb
    refine ⟨i, j, -1, (i - j).toNat, by rw [Rep.int_iff.mp q1, Rep.int_iff.mp q2], RgC.neg (small2 hb.1).1 (small2 hb.1).2 (small2 hb.2).1 (small2 hb.2).2, ?_⟩
    exact h _ _ _ (Ps.refl p2.rp) wk_rngB
  · exact h.elim
end
end Z

/-! Z9: statements -/
namespace Z
open PySem PySem.Spec PyProof.Rows L2 TL

def FiS (K : PySem.W.Frag) (ca : Nat → Addr) (W : WX) (x : Z.F) (r : St) (σ : L2.St) (H F : Hp) (D : Ends) : Prop := match x with
  | .nx r' => ∀ σ' H' F', Pt K r r' σ σ' H F H' F' → D.nx σ' H'
  | .rt d r' => ∀ v σ' H' F', Pt K r r' σ σ' H F H' F' → Rep K F' d v → D.rt v H'
  | .bk r' => ∀ σ' H' F', Pt K r r' σ σ' H F H' F' → D.bk σ' H'
  | .ct r' => ∀ σ' H' F', Pt K r r' σ σ' H F H' F' → D.ct σ' H'
  | .exc e r' => ∀ cls dd σ' H' F', Pt K r r' σ σ' H F H' F' → RepX K ca H' F' e cls dd → W cls dd σ' H'
  | .bad => False
def tS (K : PySem.W.Frag) (ca : Nat → Addr) (W : WX) (f : St → Z.F) : TS := fun D σ H => ∃ r F, Rp K r σ H F ∧ FiS K ca W (f r) r σ H F D
abbrev QS (X : Cx) (ca : Nat → Addr) (W : WX) (st : Stmt) (f : St → Z.F) : Prop := PS X st (tS X.K ca W f)
abbrev QSs (X : Cx) (ca : Nat → Addr) (W : WX) (st : List Stmt) (f : St → Z.F) : Prop := PSs X st (tS X.K ca W f)
theorem PS.weak {X : Cx} {e : Stmt} {t t' : TS} (h : PS X e t) (w : ∀ D σ H, t' D σ H → t D σ H) : PS X e t' := ⟨fun pins s σ H D I q => h.run pins s σ H D I (w D σ H q)⟩
theorem PSs.weak {X : Cx} {e : List Stmt} {t t' : TS} (h : PSs X e t) (w : ∀ D σ H, t' D σ H → t D σ H) : PSs X e t' := ⟨fun pins s σ H D I q => h.run pins s σ H D I (w D σ H q)⟩
section
variable {K : PySem.W.Frag} {ca : Nat → Addr} {W : WX} {r r1 : St} {σ σ1 : L2.St} {H F H1 F1 : Hp} {D : Ends} {α β : Type} {ra : Rl α β}
theorem FiS.shift (p : Pt K r r1 σ σ1 H F H1 F1) {y : Z.F} (h : FiS K ca W y r σ H F D) : FiS K ca W y r1 σ1 H1 F1 D := by
  cases y with
  | nx r2 => exact fun σ' H' F' q => h σ' H' F' (p.trans q)
  | rt d r2 => exact fun v σ' H' F' q z => h v σ' H' F' (p.trans q) z
  | bk r2 => exact fun σ' H' F' q => h σ' H' F' (p.trans q)
  | ct r2 => exact fun σ' H' F' q => h σ' H' F' (p.trans q)
  | exc e r2 => exact fun c dd σ' H' F' q z => h c dd σ' H' F' (p.trans q) z
  | bad => exact h
/-- an expression within a statement -/
theorem FiS.step {x : R α} {g : α → St → Z.F} {Q : β → Hp → Prop} (h : FiS K ca W (x.fl g) r σ H F D) (k : ∀ d r1 v H1 F1, Ps K r r1 σ H F H1 F1 → ra F1 d v → FiS K ca W (g d r1) r1 σ H1 F1 D → Q v H1) : Fi K ca W ra x r σ H F Q := by
  cases x with
  | ok d r1 => exact fun v H1 F1 p e => k d r1 v H1 F1 p e (FiS.shift p.pt h)
  | exc e r1 => exact fun c dd H1 F1 p z => h c dd σ H1 F1 p.pt z
  | bad => exact h
/-- a statement, then more -/
theorem FiS.then {x : Z.F} {g : St → Z.F} {D' : Ends} (h : FiS K ca W (x.then g) r σ H F D) (k : ∀ r1 σ1 H1 F1, Pt K r r1 σ σ1 H F H1 F1 → FiS K ca W (g r1) r1 σ1 H1 F1 D → D'.nx σ1 H1) (e1 : D'.rt = D.rt) (e2 : D'.bk = D.bk) (e3 : D'.ct = D.ct) : FiS K ca W x r σ H F D' := by
  cases x with
  | nx r1 => exact fun σ1 H1 F1 p => k r1 σ1 H1 F1 p (FiS.shift p h)
  | rt d r1 => exact fun v σ' H' F' p z => by rw [e1]; exact h v σ' H' F' p z
  | bk r1 => exact fun σ' H' F' p => by rw [e2]; exact h σ' H' F' p
  | ct r1 => exact fun σ' H' F' p => by rw [e3]; exact h σ' H' F' p
  | exc e r1 => exact h
  | bad => exact h
end
section
variable {X : Cx} {ca : Nat → Addr} {W : WX} {pos : Pos} {e : Expr} {f : St → R D} {st : Stmt} {sts : List Stmt} {g g2 : St → Z.F}
theorem ss_nil : QSs X ca W [] (fun r => .nx r) := PSs.weak pss_nil fun D σ H ⟨r, F, p, h⟩ => h σ H F (Pt.refl p)
theorem ss_cons (h1 : QS X ca W st g) (h2 : QSs X ca W sts g2) : QSs X ca W (st :: sts) (fun r => (g r).then g2) := by
  refine PSs.weak (pss_cons h1 h2) fun D σ H ⟨r, F, p, h⟩ => ⟨r, F, p, FiS.then h (fun r1 σ1 H1 F1 p1 h => ?_) rfl rfl rfl⟩
  exact ⟨r1, F1, p1.rp, h⟩
theorem s_pass : QS X ca W (.Pass pos) (fun r => .nx r) := PS.weak ps_pass fun D σ H ⟨r, F, p, h⟩ => h σ H F (Pt.refl p)
theorem s_brk : QS X ca W (.Break pos) (fun r => .bk r) := PS.weak ps_break fun D σ H ⟨r, F, p, h⟩ => h σ H F (Pt.refl p)
theorem s_cont : QS X ca W (.Continue pos) (fun r => .ct r) := PS.weak ps_continue fun D σ H ⟨r, F, p, h⟩ => h σ H F (Pt.refl p)
theorem s_retN : QS X ca W (.Return none pos) (fun r => .rt .non r) := PS.weak ps_retN fun D σ H ⟨r, F, p, h⟩ => h _ σ H F (Pt.refl p) (Rep.non_iff.mpr rfl)
theorem s_ret (he : QE X ca W e f) : QS X ca W (.Return (some e) pos) (fun r => (f r).fl fun d r => .rt d r) :=
  PS.weak (ps_ret he) fun D σ H ⟨r, F, p, h⟩ => ⟨r, F, p, FiS.step h fun d r1 v H1 F1 p1 q1 h => h v σ H1 F1 (Pt.refl p1.rp) q1⟩
def noComp : Expr → Bool
  | .ListComp _ _ _ _ => false
  | .SetComp _ _ _ _ => false
  | .DictComp _ _ _ _ _ => false
  | _ => true
theorem no_swap {t : Option Expr} {l : Nat} {env : Env} (h : noComp e = true) : swapsWith e t l env = pure false := by
  cases e <;> first | rfl | cases h
theorem s_exp (he : QE X ca W e f) (hn : noComp e = true) : QS X ca W (.Expr e pos) (fun r => (f r).fl fun _ r => .nx r) :=
  PS.weak (ps_expr he (no_swap hn)) fun D σ H ⟨r, F, p, h⟩ => ⟨r, F, p, FiS.step h fun d r1 v H1 F1 p1 q1 h => h σ H1 F1 (Pt.refl p1.rp)⟩
theorem s_set {i : Nat} {x : Str} {px : Pos} (nd : X.N.Nodup) (hN : X.N[i]? = some x) (hl : Loc X.env.scope x) (hf : X.fn x = true ∨ X.env.scope.names.lookup x = some .local) (he : QE X ca W e f) (hn : noComp e = true) :
    QS X ca W (.Assign [.Name x px] e pos) (fun r => (f r).fl fun d r => match setv i (.val d) r with | some r => .nx r | none => .bad) := by
  refine PS.weak (ps_set nd hN hl he (no_swap hn) hf) fun D σ H ⟨r, F, p, h⟩ => ⟨r, F, p, FiS.step h fun d r1 v H1 F1 p1 q1 h => ?_⟩
  cases z : setv i (.val d) r1 with
  | none => simp only [z] at h; exact h.elim
  | some r2 =>
    simp only [z] at h
    obtain ⟨e2, hi⟩ := setv_some z
    subst e2
    exact h _ _ _ (p1.rp.put hi q1)
theorem s_if {c : Expr} {fc : St → R D} {a b : List Stmt} (hc : QT X ca W c fc) (ha : QSs X ca W a g) (hb : QSs X ca W b g2) :
    QS X ca W (.If c a b pos) (fun r => (fc r).fl fun d r => match d with | .bl true => g r | .bl false => g2 r | _ => .bad) := by
  refine PS.weak (ps_if hc ha hb) fun D σ H ⟨r, F, p, h⟩ => ⟨r, F, p, FiS.step h fun d r1 v H1 F1 p1 q1 h => ?_⟩
  cases q1
  cases v with
  | true => exact iteT ⟨r1, F1, p1.rp, h⟩
  | false => exact iteF ⟨r1, F1, p1.rp, h⟩
/-! ### loops -/
theorem s_while {c : Expr} {fc : St → R D} {b : List Stmt} (hp : PassesOwn (model X.prog X.w) X.A X.env X.xe) (hc : QT X ca W c fc) (hb : QSs X ca W b g) :
    QS X ca W (.While c b [] pos) (fun r => whileL fc g TURNS r) := by
  refine PS.weak (ps_while hp hc hb) fun D σ H ⟨r, F, p, h⟩ => ?_
  refine ⟨fun m σ H => ∃ r F, Rp X.K r σ H F ∧ FiS X.K ca W (whileL fc g m r) r σ H F D, ⟨TURNS, r, F, p, h⟩, ?_⟩
  rintro m σ H ⟨r, F, p, h⟩
  cases m with
  | zero => exact h.elim
  | succ m =>
    simp only [whileL] at h
    refine ⟨r, F, p, FiS.step h fun d r1 v H1 F1 p1 q1 h => ?_⟩
    cases q1
    cases v with
    | false => exact iteF (h _ _ _ (Pt.refl p1.rp))
    | true =>
      refine iteT ⟨fun σ' H' => ∃ r F, Rp X.K r σ' H' F ∧ FiS X.K ca W (whileL fc g m r) r σ' H' F D, fun σ' H' w => ⟨m, Nat.lt_succ_self m, w⟩, r1, F1, p1.rp, ?_⟩
      dsimp only at h
      cases e : g r1 with
      | nx r2 => simp only [e] at h; exact fun σ2 H2 F2 p2 => ⟨r2, F2, p2.rp, FiS.shift p2 h⟩
      | ct r2 => simp only [e] at h; exact fun σ2 H2 F2 p2 => ⟨r2, F2, p2.rp, FiS.shift p2 h⟩
      | bk r2 => simp only [e] at h; exact h
      | rt d r2 => simp only [e] at h; exact h
      | exc x r2 => simp only [e] at h; exact h
      | bad => simp only [e] at h; exact h.elim
theorem s_for {tg it : Expr} {t : Tg} {fi : St → R (List D)} {b : List Stmt} (hp : PassesOwn (model X.prog X.w) X.A X.env X.xe) (hc : X.calm = true) (hi : QI X ca W tg it fi) (hg : PG X tg (gTg X.K t)) (hb : QSs X ca W b g) (hs : ∀ x, foldedSetIterable it X.env x = pure x) :
    QS X ca W (.For tg it b [] pos) (fun r => (fi r).fl fun xs r => forL g t xs r) := by
  refine PS.weak (ps_for hp hc hi hg hb hs) fun D σ H ⟨r, F, p, h⟩ => ⟨r, F, p, FiS.step h fun xs r1 J H1 F1 p1 q1 h => ?_⟩
  have q1 : Wk X.K F1 xs J := q1
  refine ⟨fun i m σ H => m = xs.length - i ∧ i ≤ xs.length ∧ ∃ r F, Rp X.K r σ H F ∧ Same F1 F ∧ FiS X.K ca W (forL g t (xs.drop i) r) r σ H F D, ⟨xs.length, by simp, Nat.zero_le _, r1, F1, p1.rp, fun _ _ e => e, by simpa using h⟩, ?_⟩
  rintro i m σ2 H2 ⟨rfl, hi, r2, F2, p2, s2, h⟩
  by_cases hlt : i < xs.length
  · refine .inr ⟨q1.go hlt p2 s2, fun σ' H' => i + 1 ≤ xs.length ∧ ∃ r F, Rp X.K r σ' H' F ∧ Same F1 F ∧ FiS X.K ca W (forL g t (xs.drop (i + 1)) r) r σ' H' F D, fun σ' H' w => ⟨xs.length - (i + 1), by omega, rfl, w.1, w.2⟩, fun x H' y => ?_⟩
    obtain ⟨d, F3, hd, p3, q3⟩ := q1.yld hlt p2 s2 y
    have e : xs.drop i = d :: xs.drop (i + 1) := by
      rw [List.drop_eq_getElem_cons hlt]
      congr 1
      rw [List.getElem?_eq_getElem hlt] at hd
      exact Option.some.inj hd
    rw [e] at h
    simp only [forL] at h
    have h := FiS.shift p3.pt h
    cases z : setTg t d r2 with
    | none => simp only [z] at h; exact h.elim
    | some r3 =>
      simp only [z] at h
      refine gTg_ok z p3.rp q3 fun σ4 p4 => ⟨r3, F3, p4.rp, ?_⟩
      have h := FiS.shift p4 h
      have s3 : Same F1 F3 := s2.trans p3.f
      cases e : g r3 with
      | nx r5 => simp only [e] at h; exact fun σ5 H5 F5 p5 => ⟨hlt, r5, F5, p5.rp, s3.trans p5.f, FiS.shift p5 h⟩
      | ct r5 => simp only [e] at h; exact fun σ5 H5 F5 p5 => ⟨hlt, r5, F5, p5.rp, s3.trans p5.f, FiS.shift p5 h⟩
      | bk r5 => simp only [e] at h; exact h
      | rt d r5 => simp only [e] at h; exact h
      | exc x r5 => simp only [e] at h; exact h
      | bad => simp only [e] at h; exact h.elim
  · have e : xs.drop i = [] := List.drop_eq_nil_of_le (by omega)
    rw [e] at h
    exact .inl ⟨q1.stop (by omega) p2 s2, h _ _ _ (Pt.refl p2)⟩
/-! ### targets' rules -/
theorem pg_one {i : Nat} {x : Str} (nd : X.N.Nodup) (hN : X.N[i]? = some x) (hl : Loc X.env.scope x) (hf : X.fn x = true ∨ X.env.scope.names.lookup x = some .local) : PG X (.Name x pos) (gTg X.K (.one i)) := pg_name nd hN hl hf
/-! ### own lists -/
def FiO (K : PySem.W.Frag) (ca : Nat → Addr) (W : WX) (x : R D) (r : St) (σ : L2.St) (H F : Hp) (Q : VK) : Prop := match x with
  | .ok (.lst l) r' => ∀ a vs H1 F1, Ps K r r' σ H F H1 F1 → H1 a = none → Reps K F1 l vs → Q (.ref a) (upd H1 a (.lst vs))
  | .ok _ _ => False
  | .exc e r' => ∀ cls dd H' F', Ps K r r' σ H F H' F' → RepX K ca H' F' e cls dd → W cls dd σ H'
  | .bad => False
def tO' (K : PySem.W.Frag) (ca : Nat → Addr) (W : WX) (f : St → R D) : TE := fun σ H Q => ∃ r F, Rp K r σ H F ∧ FiO K ca W (f r) r σ H F Q
abbrev QO (X : Cx) (ca : Nat → Addr) (W : WX) (e : Expr) (f : St → R D) : Prop := PE X e (tO' X.K ca W f)
theorem o_lst {es : List Expr} {fs : St → R (List D)} (h : QA X ca W es fs) : QO X ca W (.List es pos) (fun r => (fs r).bind fun l r => if l.length ≤ LINE then .ok (.lst l) r else .bad) := by
  refine PE.weak (pe_lst h) fun σ H Q ⟨r, F, p, h⟩ => ⟨r, F, p, ?_⟩
  cases e : fs r with
  | bad => simp only [e] at h; exact h.elim
  | exc x r1 => simp only [e] at h; exact h
  | ok l r1 =>
    simp only [e] at h
    intro vs H1 F1 p1 q1
    dsimp only [R.bind] at h
    split at h
    · rename_i hl
      exact ⟨by rw [← q1.length, ← LINE_eq]; exact hl, fun a ha => h a vs H1 F1 p1 ha q1⟩
    · exact h.elim
theorem o_share (h : QO X ca W e f) : QE X ca W e (fun r => (f r).bind fun d r => match d with | .lst l => .ok (.lst l) r | _ => .bad) := by
  refine PE.weak h fun σ H Q ⟨r, F, p, h⟩ => ⟨r, F, p, ?_⟩
  cases e : f r with
  | bad => simp only [e] at h; exact h.elim
  | exc x r1 => simp only [e] at h; exact h
  | ok d r1 =>
    simp only [e] at h
    cases d with
    | lst l =>
      intro a vs H1 F1 p1 ha q1
      have hn := p1.rp.new (o := .lst vs) ha
      exact h (.ref a) _ _ (p1.trans hn) (Rep.lst_iff.mpr ⟨a, vs, rfl, SqL.of upd_same, q1.mono hn.f⟩)
    | _ => exact h.elim
theorem s_own {i : Nat} {x : Str} {px : Pos} (nd : X.N.Nodup) (hN : X.N[i]? = some x) (hl : Loc X.env.scope x) (hf : X.fn x = true ∨ X.env.scope.names.lookup x = some .local) (he : QO X ca W e f) (hn : noComp e = true) :
    QS X ca W (.Assign [.Name x px] e pos) (fun r => (f r).fl fun d r => match d with | .lst l => (match setv i (.own (.lst l)) r with | some r => .nx r | none => .bad) | _ => .bad) := by
  refine PS.weak (ps_set nd hN hl he (no_swap hn) hf) fun D σ H ⟨r, F, p, h⟩ => ⟨r, F, p, ?_⟩
  cases e : f r with
  | bad => simp only [e] at h; exact h.elim
  | exc x r1 => simp only [e] at h; exact fun c dd H1 F1 p z => h c dd σ H1 F1 p.pt z
  | ok d r1 =>
    simp only [e] at h
    cases d with
    | lst l =>
      intro a vs H1 F1 p1 ha q1
      have h := FiS.shift p1.pt h
      dsimp only [R.fl] at h
      cases z : setv i (.own (.lst l)) r1 with
      | none => simp only [z] at h; exact h.elim
      | some r2 =>
        simp only [z] at h
        obtain ⟨e2, hi⟩ := setv_some z
        subst e2
        exact h _ _ _ (p1.rp.putOwn hi ha ⟨vs, rfl, q1⟩)
    | _ => exact h.elim
theorem iol_own {v : Nat} {r : St} {x : List Z.D} (h : iol v r = some x) : ownL r[v]? = some (.lst x) := by
  unfold iol at h
  cases e : iov v r with
  | none => rw [e] at h; cases h
  | some d =>
    rw [e] at h
    cases d <;> cases h
    exact iov_own e
theorem s_app {i : Nat} {x : Str} {px apos cpos : Pos} (hN : X.N[i]? = some x) (hv : Vis X.env.scope x) (hd : (x == ("__debug__" : Str)) = false) (hcd : (x == ("__classdict__" : Str)) = false) (he : QE X ca W e f) (hn : noStar e = true) (hline : (apos.endLine == cpos.line) = true) :
    QS X ca W (.Expr (.Call (.Attribute (.Name x px) "append" apos) [e] [] cpos) pos) (fun r => if (iol i r).isSome then (f r).fl fun d r => (match r[i]? with
      | some (.own (.lst l)) => if l.length < LINE then .nx (r.set i (.own (.lst (l ++ [d])))) else .bad
      | some (.io (.lst l)) => if l.length < LINE then .nx (r.set i (.io (.lst (l ++ [d])))) else .bad
      | _ => .bad) else .bad) := by
  have hfew : ((backTo cpos (starEach [e] X.env)).all (fun x => !x.1) && (backToKw cpos (keywordEach [] X.env)).all (fun x => x.1.isSome)
      && decide ([e].length + ([] : List Keyword).length + (if ([] : List Keyword).isEmpty then 0 else 1) < 30)) = true := by rw [star_cons hn]; rfl
  refine PS.weak (ps_expr (pe_bm PySem.F.plainAttrs_list PySem.F.slot_list_append PySem.F.type_list_append mt_append (pe_var hN hv hd hcd) (pa_cons he pa_nil (star_cons hn)) rfl hfew hline (star_cons hn) rfl) (no_swap rfl)) fun D σ H ⟨r, F, p, h⟩ => ?_
  dsimp only at h
  split at h
  case isFalse => exact h.elim
  rename_i h0
  obtain ⟨x0, e0⟩ := Option.isSome_iff_exists.mp h0
  obtain ⟨a, _, ea, ha0, _, vs0, rfl, _⟩ := p.own i (.lst x0) (iol_own e0)
  refine ⟨_, ea, .inl ⟨rfl, _, SqL.of ha0⟩, r, F, p, FiS.step h fun d r1 v H1 F1 p1 q1 h => ?_⟩
  have fin : ∀ {l : List Z.D} {s : Slot}, ownL r1[i]? = some (.lst l) → ownL (some s) = some (.lst (l ++ [d])) → (∀ y, s = .io y → ∃ z, r1[i]? = some (Slot.io z)) → (∀ d, s ≠ .val d) → l.length < LINE → FiS X.K ca W (.nx (r1.set i s)) r1 σ H1 F1 D →
      rAppend (V.ref a) [v] H1 fun x H' => D.nx σ H' := fun {l s} h1 h2 h3 h4 h5 h => by
    obtain ⟨b, _, eb, hb, hF, ws, rfl, q⟩ := p1.rp.own i _ h1
    rw [ea] at eb
    cases eb
    exact ⟨a, ws, v, rfl, rfl, hb, by rw [← q.length, ← LINE_eq]; exact h5, h _ _ _ (p1.rp.chg h1 h2 h3 h4 ea ⟨_, rfl, q.append (Reps.cons q1 Reps.nil)⟩).pt⟩
  split at h
  · rename_i l e1
    split at h
    · rename_i hl
      exact fin (by rw [e1]; rfl) rfl (fun y z => by cases z) (fun d z => by cases z) hl h
    · exact h.elim
  · rename_i l e1
    split at h
    · rename_i hl
      exact fin (by rw [e1]; rfl) rfl (fun y z => ⟨_, e1⟩) (fun d z => by cases z) hl h
    · exact h.elim
  · exact h.elim
end
end Z

/-! ZH: defs that are called while an error is being handled (they raise nothing, they walk nothing) -/
namespace Z
open PySem PySem.Spec PyProof.Rows L2 TL
theorem RoomQ.deeper {k : Nat} {A : Around} (r : RoomQ (k + 1) A) (env : Env) : RoomQ k (A.deeper env) := by
  refine ⟨?_, ?_⟩
  · have := r.dp
    show A.depth + 1 + 3 * k + 5 < recursionLimit
    omega
  · have := r.un
    show A.units + 3 + 16 * k + 200 < cLine
    omega
/-- what such a def promises -/
structure FnQ (P : Program) (w : World) (K : PySem.W.Frag) (mg : Str → Option Value) (base : Heap) (k : Nat) (f : Addr) (fd : FuncData) (ps : List Str) (sp : Sp) : Prop where
  len : ∀ vs H Q E, sp vs H Q E → vs.length = ps.length
  run : ∀ (A : Around) (outer : List Env) (s : Shared) (H : Hp) (args : Args) (us : List Value) (vs : List V) (Q : VK) (E : XK), RoomQ k A → Env0 P w K mg base A outer s H → BindsTo s fd args (ps.zip us) → Vals vs us → sp vs H Q E →
    codeAny (model P w) A (.call (.ref f) args) (L2.CR (L2.CX P w) outer P w H s Q E) s
/-- the context of its body -/
def cxQ (P : Program) (w : World) (K : PySem.W.Frag) (mg : Str → Option Value) (base : Heap) (N : List Str) (qual : Str) (sc : Scope) (f : Addr) (cd : Value) (A : Around) (outer : List Env) (s : Shared) (H : Hp) (E : XK) : Cx :=
  { cxOf (L2.CX P w) P w K mg base N qual sc f cd A outer s H E with calm := false }
section
variable {P : Program} {w : World} {K : PySem.W.Frag} {mg : Str → Option Value} {base : Heap} {N ps : List Str} {qual : Str} {sc : Scope} {f : Addr} {cd : Value} {A : Around} {outer : List Env} {s s1 : Shared} {H : Hp} {E : XK} {us : List Value} {vs : List V}
theorem startQ (S : FnScope N ps sc) (e0 : Env0 P w K mg base A outer s H) (hl : vs.length = ps.length) (r : Vals vs us)
    (x : InCallC s s.heap.objs.size (bindL (envOfC qual sc s.heap.objs.size f cd).kindOf (ps.zip us) fun _ => none) (cellsFrom (s.heap.objs.size + 1) sc.names []) (bindC (envOfC qual sc s.heap.objs.size f cd).kindOf (ps.zip us) fun _ => none) s1) :
    L2.Inv (cxQ P w K mg base N qual sc f cd A outer s H E) [] (L2.start N vs) H s1 := by
  have hpl : ps.length ≤ N.length := by have := congrArg List.length S.pre; rw [List.length_take] at this; omega
  obtain ⟨h1, tk, rfl, hk⟩ := x.done
  have noA : ∀ b : Addr, b ∉ (cxQ P w K mg base N qual sc f cd A outer s H E).ex := fun b z => by cases (show b ∈ ([] : List Addr) from z)
  have okX : (cxQ P w K mg base N qual sc f cd A outer s H E).Ok := by
    refine ⟨e0.mod, S.kind, rfl, rfl, Nat.le_refl _, fun y z c h1 h2 => ?_, fun y hy => ?_, fun y c _ h => ?_, fun z => (by cases (show false = true from z)), Around.frames_deeper e0.frames, .inr ⟨rfl, rfl⟩, fun b z => absurd z (noA b), e0.bs, e0.bsz, fun b _ _ => noA b, fun b z => absurd z (noA b), e0.funs, e0.frf⟩
    · exact name_of_addr x.apart (PySem.mem_of_lookup h1) (PySem.mem_of_lookup h2)
    · rcases (show sc.names.lookup y = some .cell ∨ sc.names.lookup y = some .free from hy) with hy | hy
      · exact cell_has hy
      · exact absurd rfl (S.nofree _ (PySem.mem_of_lookup hy))
    · exact Nat.le_of_lt (x.above y c (PySem.mem_of_lookup h))
  refine ⟨okX, rfl, e0.bare, Un.kept hk, ⟨_, x.toInCall.ns, fun i y v h1 h2 h3 => ?_⟩, fun y c h => ⟨_, x.cell y c h⟩, e0.hok.fresh (Nat.le_refl _), fun y c h => e0.hok.fresh (Nat.le_of_lt (x.above y c (PySem.mem_of_lookup h))), fun q hq => ?_, e0.hok.kept hk, ?_⟩
  · have hi : i < vs.length := by
      unfold L2.start at h2
      refine Nat.lt_of_not_le fun hn => ?_
      rw [List.getElem?_append_right (by simpa using hn), List.getElem?_replicate] at h2
      split at h2 <;> cases h2
    have ha : vs[i]? = some v := by
      unfold L2.start at h2
      rw [List.getElem?_append_left (by simpa using hi), List.getElem?_map] at h2
      obtain ⟨a, e, z⟩ := Option.map_eq_some_iff.mp h2
      cases z
      exact e
    obtain ⟨u, hu, rv⟩ := r.get ha
    have hp : ps[i]? = some y := by
      rw [← S.pre, List.getElem?_take_of_lt (by omega)]
      exact h1
    have ndP : ps.Nodup := by rw [← S.pre]; exact S.nd.sublist (List.take_sublist _ _)
    refine ⟨u, rv, ?_⟩
    rcases S.par y (List.mem_of_getElem? hp) with k | k
    · exact .inl ⟨k, bindL_get ndP hp hu k⟩
    · obtain ⟨c, e⟩ := cell_has (n := s.heap.objs.size + 1) k
      have q := x.cell y c e
      rw [bindC_get ndP hp hu (by show sc.names.lookup y ≠ _; rw [k]; decide)] at q
      exact .inr ⟨.inl k, c, e, q⟩
  · have hq2 : q ∈ ([] : List (Addr × Obj)) ++ [] := hq
    cases (show q ∈ ([] : List (Addr × Obj)) from by simpa using hq2)
  · unfold L2.start
    show _ = N.length
    rw [List.length_append, List.length_map, List.length_replicate]
    omega
end
section
variable {P : Program} {w : World} {K : PySem.W.Frag} {mg : Str → Option Value} {base : Heap} {x qual : Str} {params : Arguments} {body : List Stmt} {sc : Scope} {dvs : List V} {kws : List (Str × V)} {f : Addr} {fd : FuncData}
theorem FunD.okQ {N ps : List Str} {k : Nat} {sp : Sp} (F : FunD K x qual params body sc dvs kws f fd) (S : FnScope N ps sc) (len : ∀ vs H Q E, sp vs H Q E → vs.length = ps.length)
    (hb : ∀ (cdv : Value) (A : Around) (outer : List Env) (s : Shared) (H : Hp) (vs : List V) (Q : VK) (E : XK), RoomQ k (A.deeper (envOfC qual sc s.heap.objs.size f cdv)) → sp vs H Q E →
      ∃ t, PSs (cxQ P w K mg base N qual sc f cdv A outer s H E) body t ∧ t { nx := fun _ H' => Q .non H', rt := Q } (L2.start N vs) H) : FnQ P w K mg base (k + 1) f fd ps sp := by
  obtain ⟨oc, od, dV, kV, doc, pm, an, cdv, ct, osl, rfl, lk, hcd, _, _⟩ := F.ex
  refine ⟨len, fun A outer s H args us vs Q E hr e0 ha r hsp => ?_⟩
  have hl := len _ _ _ _ hsp
  have KX : K.In s.heap := e0.mod.kin.keeps fun b o e => (e0.bs b o e).1
  have lim : s.heap.NoLimit := e0.mod.nolimit.keeps fun b o e => (e0.bs b o e).1
  refine codeAny_call_function (by have := hr.dp; omega) (KX _ _ lk) rfl S.co S.gen rfl (PySem.W.codeRec_of KX hcd) (ha _ _ _ _ (wpAny_newFunctionEnv_cells S.kind (fun ⟨n, v⟩ hy => ?_) fun env he s1 z => ?_))
  · rcases S.par n (List.of_mem_zip hy).1 with q | q
    · exact .inl q
    · exact .inr ⟨q, PySem.W.cellsFrom_some _ _ _ (.inl q)⟩
  · subst he
    refine ⟨lim.keeps z.toInCall.keep, codeAny_func ?_⟩
    obtain ⟨t, ht, hq⟩ := hb cdv A outer s H vs Q E (hr.deeper _) hsp
    refine wpAny_mono (ht.run [] s1 (L2.start N vs) H _ (startQ S e0 hl r z) hq) (fun fl s' hs => ?_) fun e s' hs => hs
    cases fl with
    | ret u =>
      obtain ⟨v, σ', H', J, rv, q⟩ := hs
      exact ⟨v, H', J.os, J.bare, J.base, J.hok, rv, q⟩
    | next =>
      obtain ⟨σ', H', J, q⟩ := hs
      exact ⟨V.non, H', J.os, J.bare, J.base, J.hok, rfl, q⟩
    | brk => exact hs.elim fun _ z => z.elim fun _ z => z.2.elim
    | cont => exact hs.elim fun _ z => z.elim fun _ z => z.2.elim
end
section
variable {X : Cx} {k : Nat} {f : Addr} {fd : FuncData} {ps : List Str} {sp : Sp} {E : L2.St → XK} {x : Str} {q pos : Pos} {e : Expr} {es : List Expr} {t : TA}
theorem pe_callQ (F : FnQ X.prog X.w X.K X.mg X.base k f fd ps sp) (hr : RoomQ k X.A) (hg : Gl X x) (hm : X.mg x = some (.ref f)) (hk : PySem.W.keepIn X.K (.ref f) = true) (hb : Binds X.K fd ps []) (hx : ∀ σ, PassesAt (L2.CX X.prog X.w) X σ (E σ))
    (ha : PA X (e :: es) t) (hdb : (x == ("__debug__" : Str)) = false) (he : starEach (e :: es) X.env = (false, eval e X.env) :: starEach es X.env) (hpl : (backTo pos (starEach es X.env)).any (·.1) = false) :
    PE X (.Call (.Name x q) (e :: es) [] pos) (tCallS sp E t) := by
  refine ⟨fun pins s σ H Q I h => wpAny_Call_Name_kw (ld_glob I hg hm ?_ hdb)⟩
  refine PySem.W.callWith_K (h₀ := X.base) I.ok.mod.kin hk (thn (ha.run pos pins s σ H _ I h) fun us s1 ⟨vs, H1, I1, r, z⟩ => ⟨I1.kIn, ?_⟩) he hpl
  have hl : us.length = ps.length := by rw [← r.length]; exact F.len _ _ _ _ z
  have b := hb s1 us I1.kIn (by rw [List.append_nil]; exact hl)
  rw [List.append_nil] at b
  refine wpAny_call (codeAny_mono (F.run X.A X.stack s1 H1 ⟨us, []⟩ us vs Q (E σ) hr I1.env0 b r z) fun r s' hq => ?_)
  cases r with
  | error e => exact hx σ pins H1 s1 e s' I1 hq
  | ok fl =>
    cases fl with
    | ret u => exact I1.after hq
    | next => exact False.elim hq
    | brk => exact False.elim hq
    | cont => exact False.elim hq
end
section
variable {X : Cx} {ca : Nat → Addr} {W : WX} {pos p : Pos} {k : Nat} {f : Addr} {fd : FuncData} {ps : List Str} {x : Str} {c : List Slot → CR} {e : Expr} {es : List Expr} {fs : St → R (List D)}
theorem q_callq (tk : Takes X W) (FO : FnQ X.prog X.w X.K X.mg X.base k f fd ps (SpOf X.K ca ps.length c)) (hr : RoomQ k X.A) (hg : Gl X x) (hm : X.mg x = some (.ref f)) (hk : PySem.W.keepIn X.K (.ref f) = true) (hb : Binds X.K fd ps [])
    (hd : (x == ("__debug__" : Str)) = false) (ha : QA X ca W (e :: es) fs) (hn : (e :: es).all noStar = true) (hlen : ∀ r l r', fs r = .ok l r' → l.length = ps.length) :
    QE X ca W (.Call (.Name x p) (e :: es) [] pos) (fun r => (fs r).bind fun l r => (c (l.map .val)).val r) := by
  have hn2 := hn
  rw [List.all_cons, Bool.and_eq_true] at hn2
  refine PE.weak (pe_callQ FO hr hg hm hk hb (E := WE W) (fun σ => passAt tk σ) ha hd (star_cons hn2.1) (star_any hn2.2)) fun σ H Q ⟨r, F, q, h⟩ => ⟨r, F, q, ?_⟩
  dsimp only at h
  cases e1 : fs r with
  | bad => rw [e1] at h; exact h.elim
  | exc y r1 => rw [e1] at h; exact h
  | ok l r1 =>
    rw [e1] at h
    intro vs H1 F1 p1 q1
    have h := Fi.shift p1 h
    dsimp only [R.bind] at h
    refine ⟨l.map .val, F1, by rw [← q1.length]; exact hlen r l r1 e1, vals_rp p1.rp.sub q1, fun i m z => ?_, fun i m z => ?_, ?_⟩
    · exact vals_noL (i := i) (m := m) (by rw [z]; rfl)
    · exact absurd (show ownL (l.map Slot.val)[i]? = some m by rw [z]; rfl) vals_noL
    · cases e2 : c (l.map .val) with
      | bad => rw [e2] at h; exact h.elim
      | ret d o =>
        rw [e2] at h
        exact fun v H' F' pc q => h v H' F' (Pc.ps p1.rp pc) q
      | exc y o =>
        rw [e2] at h
        exact fun cls dd H' F' pc q => h cls dd H' F' (Pc.ps p1.rp pc) q
end
end Z

/-! ZT: try .. except C as n: suite, the error tracked as a value -/
namespace Z
open PySem PySem.Spec PyProof.Rows L2 TL
theorem xo_ok {P : Program} {w : World} {H : Hp} {h : Heap} {a : Addr} {cls : Value} {oe : Obj} {vs : Array Value} {dd : Option Addr} (e : h.get? a = some oe) (z : Zc cls dd oe) (q : oe.data = .fields vs) : ObjOk P w H h a (XO cls dd a) :=
  ⟨⟨oe, vs, e, z.1, z.2, q⟩, ⟨oe, e⟩, fun h1 h2 ⟨o, us, e1, c1, d1, q1⟩ k => ⟨o, us, k o e1, c1, d1, q1⟩⟩
section
variable {X : Cx} {pins : List (Addr × Obj)} {σ : L2.St} {H : Hp} {sI s s' : Shared} {B : Heap}
/-- back on the ground, the error tracked -/
theorem landedX {a : Addr} {cls : Value} {dd : Option Addr} {oe : Obj} {vs : Array Value} (J : L2.Inv X pins σ H sI) (nb : ∀ b o, sI.heap.get? b = some o → b ∉ frs X.stack → B.get? b = some o) (st : B.StaysIn s'.heap) (up : sI.heap.UpToSlots s'.heap) (os : s'.os = sI.os) (ag : AllBare s'.gens)
    (ga : sI.heap.get? a = none) (na : H a = none) (he : s'.heap.get? a = some oe) (hz : Zc cls dd oe) (hd : oe.data = .fields vs) : L2.Inv X pins σ (upd H a (XO cls dd a)) s' := by
  have ne : ∀ b o, sI.heap.get? b = some o → b ≠ a := fun b o e z => by rw [z, ga] at e; cases e
  have fr : ∀ b ∈ frs X.stack, ∀ o, sI.heap.get? b = some o → ∃ sl, s'.heap.get? b = some { o with slots := sl } := fun b hb o e => by
    obtain ⟨_, o', e', q⟩ := J.stack.mem hb
    cases e.symm.trans e'
    exact up b o e q
  have gr := (J.inGround nb).kept st
  refine J.call' (ch := []) os ⟨fun b o e _ hb _ => st b o (nb b o e hb), fun b o e _ hb _ => fr b hb o e, fun b o e n _ => (upd_ne (ne b o e)).trans n, fun b o e _ => ?_, fun b xs e => (upd_ne (ne_of_none e na)).trans e, fun b o u e => (upd_ne (ne_of_none e na)).trans e, fun b ps e => ⟨#[], by rw [upd_ne (ne_of_none e na), e]; simp⟩⟩ (fun b u e => ?_) ag (fun _ z => nomatch z)
  · by_cases hb : b ∈ frs X.stack
    · exact (fr b hb o e).elim fun sl q => ⟨_, q⟩
    · exact ⟨o, st b o (nb b o e hb)⟩
  · by_cases hb : b = a
    · subst hb
      rw [upd_same] at e
      cases e
      exact xo_ok he hz hd
    · rw [upd_ne hb] at e
      exact (gr b u e).stay (fun _ _ _ q => q) (fun c q => (upd_ne (ne_of_none q na)).trans q) fun c xs q => (upd_ne (ne_of_none q na)).trans q
theorem inSuite (I : L2.Inv X pins σ H s) (a : Addr) : L2.Inv (X.suite a (X.pn ++ pins)) [] σ H s :=
  ⟨I.ok.suite _ _, I.os, I.bare, I.base, I.loc, I.cell, I.free, I.freeC, fun p hp => I.pin p (by rwa [List.append_nil] at hp), I.hok, I.len⟩
theorem outSuite {a : Addr} {pn' : List (Addr × Obj)} (I : L2.Inv (X.suite a (X.pn ++ pins)) pn' σ H s) (ok : X.Ok) : L2.Inv X pins σ H s :=
  ⟨ok, I.os, I.bare, I.base, I.loc, I.cell, I.free, I.freeC, fun p hp => I.pin p (List.mem_append_left _ hp), I.hok, I.len⟩
end
/-- behind the body of a try: an error of class cls, its own dict d, has landed -/
structure Land (X : Cx) (pins : List (Addr × Obj)) (σ : L2.St) (H : Hp) (sI s' : Shared) (a : Addr) (B : Heap) (cls : Value) (d : Option Addr) (h3 : Heap) : Prop where
  J : L2.Inv X pins σ H sI
  nb : ∀ b o, sI.heap.get? b = some o → b ∉ frs X.stack → B.get? b = some o
  up : sI.heap.UpToSlots h3
  f : HandSPX.FlyingZ B (X.env :: X.outer) a (Zc cls d) h3
  na : H a = none
  os : s'.os = sI.os
  ag : AllBare s'.gens
abbrev TH := Value → Option Addr → TS
/-- the clauses -/
def PHs (X : Cx) (hs : List ExceptHandler) (t : TH) : Prop := ∀ (pins : List (Addr × Obj)) (σ : L2.St) (H : Hp) (sI s' : Shared) (a : Addr) (B : Heap) (cls : Value) (d : Option Addr) (h3 : Heap) (D : Ends), Land X pins σ H sI s' a B cls d h3 → t cls d D σ H →
  wpAny (model X.prog X.w) X.A (handleBy (.ref a) X.env hs) (SP X pins D) X.xe { s' with heap := h3 }
theorem PHs.weak {X : Cx} {hs : List ExceptHandler} {t t' : TH} (h : PHs X hs t) (w : ∀ cls d D σ H, t' cls d D σ H → t cls d D σ H) : PHs X hs t' := fun pins σ H sI s' a B cls d h3 D L q => h pins σ H sI s' a B cls d h3 D L (w _ _ _ _ _ q)
section
variable {X : Cx} {x n : Str} {c : Value} {i : Nat} {suite : List Stmt} {b₀ : Stmt} {np pos pos' : Pos} {ts : TS} {rest : List ExceptHandler} {t : TH} {Wo : WX}
theorem ph_nil (hs : X.stack = X.env :: X.outer) (hf : X.env.frame = some X.env.locals) (tk : Takes X Wo) : PHs X [] (fun cls d _ σ H => Wo cls d σ H) := by
  intro pins σ H sI s' a B cls d h3 D L q
  refine wpAny_handleBy_nil ?_
  have f3 := L.f
  obtain ⟨k1, k2, k3, oe, vs, T, oT, ts', he, hz, hd, h1, hr⟩ := id f3
  unfold PySem.passOn
  refine wpAny_bind (wpAny_field he hd h1 ?_)
  rw [if_neg (fun z => by simp at z)]
  have fin : wpAny (model X.prog X.w) X.A (setFlight (.ref a) X.env.frame) (fun _ s4 => wpAny (model X.prog X.w) X.A (throw (.ref a) : Sem Flow) (SP X pins D) X.xe s4) X.xe { s' with heap := h3 } := by
    rw [hf]
    exact HandSPX.setFlight_upZ f3 fun h4 hh4 up4 => wpAny_throw (tk _ _ ⟨a, B, sI, pins, σ, H, cls, d, rfl, L.J, L.nb, L.up.trans up4, .inr (.inr (by rw [hs]; exact hh4)), L.na, L.os, L.ag, q⟩)
  first
    | exact wpAny_bind (wpAny_pure (wpAny_bind fin))
    | exact wpAny_bind fin
/-- what stands at the test of a clause -/
theorem Land.test {pins : List (Addr × Obj)} {σ : L2.St} {H : Hp} {sI s' : Shared} {a : Addr} {B : Heap} {cls : Value} {d : Option Addr} {h3 : Heap} {b : Bool} (hs : X.stack = X.env :: X.outer) (L : Land X pins σ H sI s' a B cls d h3) (hc : Names X x c) (hb : PySem.W.exmOne X.K cls c = some b)
    {Q : Bool → Shared → Prop} {E E2 : Value → Shared → Prop} (h : Q b { s' with heap := h3 }) :
    wpAny (model X.prog X.w) (X.A.mark (some (.ref a))) (eval (.Name x np) X.env) (fun v s1 => wpAny (model X.prog X.w) (X.A.mark (some (.ref a))) (excMatches (.ref a) v) Q E2 s1) E { s' with heap := h3 } := by
  have J3 : L2.Inv X pins σ H { s' with heap := h3 } := L.J.landed L.nb L.f.1 L.up L.os L.ag
  obtain ⟨o3, v3, g3, z3, q3⟩ := L.f.there
  have S3 := inSuite J3 a
  have lt : PySem.W.Looks (model X.prog X.w) h3 (typeOf (.ref a)) cls := fun A Q E s k q => wpAny_typeOf_ref (k _ _ g3) (by rw [z3.1]; exact q)
  have lm := PySem.W.exm_one (M := model X.prog X.w) J3.kIn lt hb
  have q := lm.here (A := X.A.mark (some (.ref a))) (E := E2) (s := { s' with heap := h3 }) h
  obtain ⟨hg, hdbg, hm | ⟨hm, hv, hnn⟩⟩ := hc
  · exact ld_glob (X := X.suite a (X.pn ++ pins)) S3 hg hm q hdbg
  · exact ld_blt (X := X.suite a (X.pn ++ pins)) S3 hg hm hv q hnn hdbg
theorem Land.ga {pins : List (Addr × Obj)} {σ : L2.St} {H : Hp} {sI s' : Shared} {a : Addr} {B : Heap} {cls : Value} {d : Option Addr} {h3 : Heap} (hs : X.stack = X.env :: X.outer) (L : Land X pins σ H sI s' a B cls d h3) : sI.heap.get? a = none := by
  obtain ⟨o3, v3, g3, z3, q3⟩ := L.f.there
  have nofr : a ∉ frs X.stack := fun hm => by
    rw [hs] at hm
    obtain ⟨_, o', e', hnf⟩ := L.f.2.2.1.mem hm
    cases g3.symm.trans e'
    exact hnf _ q3
  cases e : sI.heap.get? a with
  | none => rfl
  | some o => have := L.nb a o e nofr; rw [L.f.2.1] at this; cases this
theorem ph_as (hs : X.stack = X.env :: X.outer) (hN : X.N.Nodup) (hi : X.N[i]? = some n) (hln : X.env.kindOf n = some .local) (hc : Names X x c) (hsu : ∀ (a : Addr) (pn : List (Addr × Obj)), PSs (X.suite a pn) (b₀ :: suite) ts) (hr : PHs X rest t) :
    PHs X (.ExceptHandler (some (.Name x np)) (some n) (b₀ :: suite) pos' :: rest) (fun cls d D σ H => ∃ b, PySem.W.exmOne X.K cls c = some b ∧
      (b = true → ∀ a, H a = none → ts { nx := fun σ' H' => D.nx (σ'.set i none) H', rt := D.rt, bk := fun σ' H' => D.bk (σ'.set i none) H', ct := fun σ' H' => D.ct (σ'.set i none) H' } (σ.set i (some (.ref a))) (upd H a (XO cls d a))) ∧ (b = false → t cls d D σ H)) := by
  intro pins σ H sI s' a B cls d h3 D L ⟨b, hb1, hyes, hno⟩
  have ok := L.J.ok
  refine wpAny_handleBy_cons (codeAny_handlers_test (L.test hs hc hb1 ?_)) (by intro q; cases q)
  cases b with
  | true =>
    refine codeAny_handlers_suite_as (HandSPX.lands_againZ L.f fun h4 f4 up4 => ?_)
    obtain ⟨o4, v4, g4, z4, q4⟩ := f4.there
    have S4 := inSuite (landedX (s' := { s' with heap := h4 }) (cls := cls) L.J L.nb f4.1 (L.up.trans up4) L.os L.ag (L.ga hs) L.na g4 z4 q4) a
    refine store_ok (X := X.suite a (X.pn ++ pins)) (v := .ref a) S4 hN hi (.inl hln) rfl (fun s5 S5 => ?_) (.inr hln)
    refine wpAny_mono ((hsu a (X.pn ++ pins)).run [] s5 _ _ _ S5 (hyes rfl a L.na)) (fun f s6 hsp => ?_) (fun _ _ z => z.elim)
    have fin : ∀ {σ6 : L2.St} {H6 : Hp} {Q : Shared → Prop}, L2.Inv (X.suite a (X.pn ++ pins)) [] σ6 H6 s6 → (∀ s7, L2.Inv X pins (σ6.set i none) H6 s7 → Q s7) →
        wpAny (model X.prog X.w) X.A (do bindName X.env n .none; unbindBehindTheSuite X.env n pos') (fun _ s7 => Q s7) X.xe s6 := fun S6 hq => gone_ok (outSuite S6 ok) hN hi hln hq
    cases f with
    | next => obtain ⟨σ6, H6, S6, q6⟩ := hsp; exact fin S6 fun s7 J7 => ⟨_, _, J7, q6⟩
    | brk => obtain ⟨σ6, H6, S6, q6⟩ := hsp; exact fin S6 fun s7 J7 => ⟨_, _, J7, q6⟩
    | cont => obtain ⟨σ6, H6, S6, q6⟩ := hsp; exact fin S6 fun s7 J7 => ⟨_, _, J7, q6⟩
    | ret u => obtain ⟨v6, σ6, H6, S6, r6, q6⟩ := hsp; exact fin S6 fun s7 J7 => ⟨_, _, _, J7, r6, q6⟩
  | false => exact hr pins σ H sI s' a B cls d h3 D L (hno rfl)
theorem ph_no (hs : X.stack = X.env :: X.outer) (hc : Names X x c) (hsu : ∀ (a : Addr) (pn : List (Addr × Obj)), PSs (X.suite a pn) (b₀ :: suite) ts) (hr : PHs X rest t) :
    PHs X (.ExceptHandler (some (.Name x np)) none (b₀ :: suite) pos' :: rest) (fun cls d D σ H => ∃ b, PySem.W.exmOne X.K cls c = some b ∧ (b = true → ts D σ H) ∧ (b = false → t cls d D σ H)) := by
  intro pins σ H sI s' a B cls d h3 D L ⟨b, hb1, hyes, hno⟩
  have ok := L.J.ok
  refine wpAny_handleBy_cons (codeAny_handlers_test (L.test hs hc hb1 ?_)) (by intro q; cases q)
  cases b with
  | true =>
    refine codeAny_handlers_suite (HandSPX.lands_againZ L.f fun h4 f4 up4 => ?_)
    have S4 := inSuite (L.J.landed (s' := { s' with heap := h4 }) L.nb f4.1 (L.up.trans up4) L.os L.ag) a
    refine wpAny_mono ((hsu a (X.pn ++ pins)).run [] _ _ _ _ S4 (hyes rfl)) (fun f s6 hsp => ?_) (fun _ _ z => z.elim)
    cases f with
    | next => obtain ⟨σ6, H6, S6, q6⟩ := hsp; exact ⟨_, _, outSuite S6 ok, q6⟩
    | brk => obtain ⟨σ6, H6, S6, q6⟩ := hsp; exact ⟨_, _, outSuite S6 ok, q6⟩
    | cont => obtain ⟨σ6, H6, S6, q6⟩ := hsp; exact ⟨_, _, outSuite S6 ok, q6⟩
    | ret u => obtain ⟨v6, σ6, H6, S6, r6, q6⟩ := hsp; exact ⟨_, _, _, outSuite S6 ok, r6, q6⟩
  | false => exact hr pins σ H sI s' a B cls d h3 D L (hno rfl)
theorem ps_tryG {h₀ : ExceptHandler} {body : List Stmt} {tb : WX → TS} (hs : X.stack = X.env :: X.outer) (hf : X.env.frame = some X.env.locals) (hh : PHs X (h₀ :: rest) t)
    (hb : ∀ (W : WX) (pn : List (Addr × Obj)) (xe : Value → Shared → Prop), Takes (X.tr pn xe) W → PassesOwn (model X.prog X.w) X.A X.env xe → PSs (X.tr pn xe) body (tb W)) :
    PS X (.Try body (h₀ :: rest) [] [] pos) (fun D σ H => tb (fun cls d σ H => t cls d D σ H) D σ H) := by
  refine ⟨fun pins s σ H D I0 h => ?_⟩
  have ok := I0.ok
  have fe : X.A.frames = some (X.env :: X.outer) := by rw [ok.frames, hs]
  refine wpAny_Try_except (wpAny_mono ((hb (fun cls d σ H => t cls d D σ H) (X.pn ++ pins) (fun e s₁ => wpAny (model X.prog X.w) X.A (noteFrame e X.env) (fun _ s₂ => wpAny (model X.prog X.w) X.A (setFlight e none) (fun _ s₃ =>
    wpAny (model X.prog X.w) X.A (handleBy e X.env (h₀ :: rest)) (SP X pins D) X.xe s₃) X.xe s₂) X.xe s₁) (fun u s' xx => ?cat) PassesOwn.looking).run [] s σ H D (I0.toTry _) h) (fun f s1 hsp => ?thru) fun e s1 he => he)
  case thru =>
    cases f with
    | next => obtain ⟨σ', H', J, q⟩ := hsp; exact wpAny_execs_nil ⟨σ', H', J.ofTry ok, q⟩
    | brk => obtain ⟨σ', H', J, q⟩ := hsp; exact ⟨σ', H', J.ofTry ok, q⟩
    | cont => obtain ⟨σ', H', J, q⟩ := hsp; exact ⟨σ', H', J.ofTry ok, q⟩
    | ret u => obtain ⟨v, σ', H', J, r, q⟩ := hsp; exact ⟨v, σ', H', J.ofTry ok, r, q⟩
  case cat =>
    obtain ⟨a, B, sI, pins', σ', H', cls, d, rfl, J0, nb, up, sky, na, os, ag, q⟩ := xx
    have sk : Sky B (X.env :: X.outer) a (Zc cls d) X.env.locals s'.heap := by rw [← hs]; exact sky
    show wpAny (model X.prog X.w) X.A (noteFrame (.ref a) X.env) _ _ _
    exact Sky.land Zc.steady fe hf sk fun h3 f3 up3 => hh pins σ' H' sI s' a B cls d h3 D ⟨J0.ofTry ok, nb, up.trans up3, f3, na, os, ag⟩ q
end
end Z
namespace Z
open PySem PySem.Spec PyProof.Rows PySem.W
section
variable {P : Program} {w : World} {A : Around} {E : Value → Shared → Prop} {K : Frag} {x D : Addr} {ox : Obj} {od : Option Obj}
/-- e.__class__ of an error, whatever its own dict -/
theorem cls_got {Q : Option Value → Shared → Prop} {hp : Heap} {g : Array GenState} {dr : Drawn} {t : Nat} {os : OsState} (C : L2.ExcC K D) (X : K.In hp) (I : InstAt hp x ox D od) (h : Q (some (.ref D)) ⟨hp, g, dr, t + 1, os⟩) :
    wpAny (model P w) A (getAttr? (.ref x) "__class__") Q E ⟨hp, g, dr, t, os⟩ := by
  have hf : findObj K D od "__class__" = some (.bind (.builtin "getset_descriptor.__get__") (.builtin "object.__class__")) := by
    obtain ⟨cd, hc, _⟩ := any_some C.hd
    unfold findObj
    rw [hc, Option.bind_some, C.ha, Option.bind_some]
    simp [C.hn, C.ht]
  have T0 := I.type (M := model P w)
  have sub : Looks (model P w) hp (isInstance (.ref x) (.type "BaseException")) true := T0.andThen (looks_subIn X C.hs)
  have ob : (Value.builtin "BaseException.__getattribute__" == Value.builtin "object.__getattribute__") = false := by decide +kernel
  have step : wpAny (model P w) A (call (.builtin "BaseException.__getattribute__") [.ref x, .str "__class__" t]) (fun v s1 => v = .ref D ∧ s1 = ⟨hp, g, dr, t + 1, os⟩) (fun _ _ => False) ⟨hp, g, dr, t + 1, os⟩ := by
    refine wpAny_call (codeAny_call_builtin F.excAttr_ValueError.ga.plain F.entry_bexc_ga (@check_slot (model P w) _ _ ⟨hp, g, dr, t + 1, os⟩ "BaseException.__getattribute__" "BaseException" "__getattribute__" (.ref x) [.str "__class__" t] [] _ (by decide +kernel) (by decide +kernel) sub (F.args_bexc_ga (.ref x) (.str "__class__" t)) ?_))
    unfold Builtin.«object.__getattribute__»
    refine wpAny_bind (wpAny_of_eq (a := ((Value.ref x : Value), [Value.str "__class__" t])) (by first | rfl | (simp only [slotArgs]; rfl)) (wpAny_bind (wpAny_pure (wpAny_bind (T0.at (wpAny_bind ((looks_find (M := model P w) X I hf).at ?_)))))))
    show wpAny _ _ (holding [Value.builtin "object.__class__"] (call (.builtin "getset_descriptor.__get__") [.builtin "object.__class__", .ref x, .ref D]) >>= ret) _ _ _
    exact wpAny_bind (wpAny_holding (wpAny_call (class_get (s := ⟨hp, g, dr, t + 1, os⟩) (ox := ox) (od := od) X I C.hm (wpAny_pure ⟨rfl, rfl⟩))))
  have fin : wpAny (model P w) A (handedOut (.ref D)) (fun v s1 => v = .ref D ∧ s1 = ⟨hp, g, dr, t + 1, os⟩) (fun _ _ => False) ⟨hp, g, dr, t + 1, os⟩ := by
    rw [handedOut_of (v := .ref D) rfl]
    exact wpAny_pure ⟨rfl, rfl⟩
  unfold getAttr? getAttrBy? getAttrBy
  refine wpAny_bind (wpAny_mkText (wpAny_bind (wpAny_attempt (wpAny_holding (wpAny_bind (T0.at (wpAny_bind ((looks_findIn (M := model P w) X C.hg).at ?_))))))))
  show wpAny _ _ (if (onTheHeap (Value.ref D) && Value.builtin "BaseException.__getattribute__" == Value.builtin "object.__getattribute__") = true then _ else _) _ _ _
  rw [ob, Bool.and_false, if_neg (by decide)]
  unfold getAttrByItsOwn hookBefore
  refine wpAny_bind ?_
  have oh : onTheHeap (Value.ref D) = true := rfl
  rw [if_pos oh]
  refine (looks_findIn (M := model P w) X C.hk).at (wpAny_bind (wpAny_attempt (wpAny_holding ?_)))
  unfold callGetattribute
  rw [show (false && onTheHeap (Value.builtin "BaseException.__getattribute__")) = false from rfl, if_neg (by decide)]
  unfold boundAndCalled
  rw [F.excAttr_ValueError.ga.bind (.ref x)]
  refine wpAny_bind (wpAny_pure (wpAny_mono step ?_ fun _ _ z => z.elim))
  rintro v s1 ⟨rfl, rfl⟩
  refine wpAny_mono fin ?_ fun _ _ z => z.elim
  rintro v s1 ⟨rfl, rfl⟩
  first
    | exact wpAny_pure (wpAny_pure h)
    | exact wpAny_pure h
    | exact wpAny_pure (wpAny_bind (wpAny_pure (wpAny_pure h)))
theorem kitx_any (C : L2.ExcC K D) : KitX K (.ref x) (.ref D) (fun h => InstAt h x ox D od) where
  ty := fun _ _ _ I => I.type
  it := fun M h X _ => by
    obtain ⟨cd, hc, _⟩ := any_some C.hd
    unfold clsIn at hc
    split at hc
    · rename_i ho
      intro A2 Q2 E2 s2 k2 q2
      unfold isType loadHead
      exact wpAny_bind (wpAny_loadPart (k2 _ _ (X _ _ ho)) <| wpAny_pure q2)
    · cases hc
  ne := (handS_kitx_exc (ox := ox) (x := x) C.hg C.hk C.hs C.hd C.ha C.hn C.ht C.hm).ne
  ca := fun {prog w A E Q s} X I k => by
    obtain ⟨hp, g, dr, t, os⟩ := s
    exact cls_got C X I k
end
end Z
namespace Z
open PySem PySem.Spec PyProof.Rows L2 TL
/-- a place is emptied -/
theorem Rp.drop {K : PySem.W.Frag} {r : St} {σ : L2.St} {H F : Hp} (p : Rp K r σ H F) (i : Nat) : Pt K r (r.set i .no) σ (σ.set i none) H F H F := by
  have get : ∀ (j : Nat) s, s ≠ Slot.no → (r.set i .no)[j]? = some s → j ≠ i ∧ r[j]? = some s := fun j s hs e => by
    by_cases hj : j = i
    · subst hj
      by_cases hl : j < r.length
      · rw [List.getElem?_set_self hl] at e; cases e; exact absurd rfl hs
      · rw [List.getElem?_eq_none (by rw [List.length_set]; omega)] at e; cases e
    · rw [List.getElem?_set_ne (Ne.symm hj)] at e
      exact ⟨hj, e⟩
  have own1 : ∀ (j : Nat) m, ownL (r.set i .no)[j]? = some m → j ≠ i ∧ ownL r[j]? = some m := fun j m e => by
    cases q : (r.set i .no)[j]? with
    | none => rw [q] at e; cases e
    | some s =>
      obtain ⟨h1, h2⟩ := get j s (fun z => by subst z; rw [q] at e; cases e) q
      rw [q] at e
      exact ⟨h1, by rw [h2]; exact e⟩
  have sg : ∀ (j : Nat), j ≠ i → (σ.set i (none : Option V))[j]? = σ[j]? := fun j hj => by rw [List.getElem?_set_ne (Ne.symm hj)]
  refine ⟨⟨by rw [List.length_set, List.length_set]; exact p.len, p.sub, fun j x e => ?_, fun j m e => ?_, fun j k m m' b e1 e2 z1 z2 => ?_⟩, fun _ _ e => e, fun _ _ e _ => e, fun _ _ _ _ _ e => e, fun b ⟨j, m, e, z⟩ => ?_, fun j m e => ?_⟩
  · obtain ⟨hj, e⟩ := get j (.val x) (fun z => by cases z) e
    rw [sg j hj]
    exact p.val j x e
  · obtain ⟨hj, e⟩ := own1 j m e
    rw [sg j hj]
    exact p.own j m e
  · obtain ⟨hj, e1⟩ := own1 j m e1
    obtain ⟨hk, e2⟩ := own1 k m' e2
    rw [sg j hj] at z1
    rw [sg k hk] at z2
    exact p.apart j k m m' b e1 e2 z1 z2
  · obtain ⟨hj, e⟩ := own1 j m e
    rw [sg j hj] at z
    exact .inl ⟨j, m, e, z⟩
  · obtain ⟨hj, e⟩ := get j (.io m) (fun z => by cases z) e
    rw [sg j hj]
    exact ⟨⟨m, e⟩, rfl⟩
/-- what is told of an error class -/
structure XF (K : PySem.W.Frag) (mg : Str → Option Value) (ks : List Nat) (k : Nat) : Prop where
  g : mg (exn.getD k "") = some (.ref (xa K k))
  mkb : k < 17 → PySem.W.excIn K (xa K k) He.veBase "ValueError.__new__" = true
  kp : PySem.W.keepIn K (.ref (xa K k)) = true
  sb : PySem.W.subIn K (.ref (xa K k)) (.type "BaseException") = some true
  ty : PySem.W.typeIn K (.ref (xa K k)) = some (.type "type")
  ec : ExcC K (xa K k)
  no : 17 ≤ k → PySem.W.findIn K (.ref (xa K k)) (fldN k) = some none
  em : ∀ t ∈ ks, PySem.W.exmOne K (.ref (xa K k)) (.ref (xa K t)) = some (subX k t) ∧ PySem.W.kitOne K (.ref (xa K k)) (.ref (xa K t)) = some (subX k t)
  ev : PySem.W.kitOne K (.ref (xa K k)) (.type "ValueError") = some true
section
variable {X : Cx} {ca : Nat → Addr} {W : WX} {pos : Pos} {ks : List Nat} {k : Nat}
theorem s_rais {x m : Str} {j : Nat} {p p2 p3 : Pos} (hc : X.calm = true) (tk : Takes X W) (f : XF X.K X.mg ks k) (h17 : k < 17) (hx : x = exn.getD k "") (hg : Gl X x) (hd : (x == ("__debug__" : Str)) = false) :
    QS X ca W (.Raise (some (.Call (.Name x p) [.Constant (.str m) j p2] [] p3)) none pos) (fun r => .exc (.exc k []) r) := by
  subst hx
  refine PS.weak (ps_raise hc tk (pmk_own PySem.F.excBase_ValueError (f.mkb h17) f.g f.kp (raises_own f.sb f.ty) hg hd)) fun D σ H ⟨r, F, p, h⟩ => ?_
  exact h _ _ σ H F (Pt.refl p) ⟨rfl, [], Reps.nil, .inl ⟨rfl, rfl⟩⟩
/-- isinstance(e, c) of a caught error -/
def rIsX (K : PySem.W.Frag) : List V → Hp → VK → Prop := fun xs H Q => ∃ (a D : Addr) (dd : Option Addr) (c : V) (cv : Value) (b : Bool), xs = [.ref a, c] ∧ H a = some (XO (.ref D) dd a) ∧ (dd = none ∨ ∃ d fs, dd = some d ∧ H d = some (.xd fs)) ∧ ExcC K D ∧ (∀ u, RelV c u → u = cv) ∧ PySem.W.kitOne K (.ref D) cv = some b ∧ Q (.bl b) H
theorem call_isX : CallR X (.builtin "isinstance") (rIsX X.K) := by
  intro pins s σ H xs us Q I r h
  obtain ⟨a, D, dd, c, cv, b, rfl, ha, hdd, C, hcv, e, q⟩ := h
  cases r with
  | cons rx rr =>
    cases rr with
    | cons rt rr =>
      cases rr
      cases rx
      have ec := hcv _ rt
      subst ec
      obtain ⟨⟨oe, vs, g1, g2, g3, g4⟩, _⟩ := I.hok a _ ha
      have J : ∃ od, PySem.W.InstAt s.heap a oe D od := by
        obtain ⟨oc, od, oda, osl⟩ := oe
        dsimp only at g2 g3 g4
        subst g2 g3 g4
        rcases hdd with rfl | ⟨d, fs, rfl, hd⟩
        · exact ⟨none, g1, rfl, rfl, trivial⟩
        · have hx : ObjOk X.prog X.w H s.heap d (.xd fs) := I.hok d _ hd
          obtain ⟨mA, hns, _⟩ := hx
          obtain ⟨o2, ho, _⟩ := lookIn_ns hns
          exact ⟨some o2, g1, rfl, rfl, ho⟩
      obtain ⟨od, J⟩ := J
      exact PySem.W.kia_one (kitx_any C) I.kIn J e (fun z => nomatch z) fun tk => ⟨.bl b, H, I.kept (t' := tk) fun _ _ z => z, rfl, q⟩
/-- the clauses' readings -/
def tH (K : PySem.W.Frag) (ca : Nat → Addr) (W : WX) (ks : List Nat) (hf : Nat → List D → St → Z.F) : TH := fun cls d D σ H => ∃ (r : St) (F : Hp) (k : Nat) (fs : List Z.D) (ws : List V), Rp K r σ H F ∧ k ∈ ks ∧ cls = .ref (xa K k) ∧ Reps K F fs ws ∧ XD F k d ws ∧ FiS K ca W (hf k fs r) r σ H F D
theorem q_isx {a : Expr} {fa : St → R D} {t : Nat} {y : Str} {p p2 : Pos} (hf : ∀ k ∈ ks, XF X.K X.mg ks k) (ht : (t ∈ ks ∧ y = exn.getD t "" ∧ X.mg y = some (.ref (xa X.K t))) ∨ (t = 100 ∧ y = "ValueError" ∧ X.mg y = none)) (hg : Gl X "isinstance") (hm : X.mg "isinstance" = none) (hg2 : Gl X y) (hd : (y == ("__debug__" : Str)) = false) (ha : QE X ca W a fa) (hn : noStar a = true) :
    QE X ca W (.Call (.Name "isinstance" p) [a, .Name y p2] [] pos) (fun r => (fa r).bind fun x r => .of (isxD ks t x) r) := by
  obtain ⟨cV, cv, hT, hcv, hk⟩ : ∃ (cV : V) (cv : Value), PE X (.Name y p2) (tC cV) ∧ (∀ u, RelV cV u → u = cv) ∧ ∀ k ∈ ks, PySem.W.kitOne X.K (.ref (xa X.K k)) cv = some (subX k t) := by
    rcases ht with ⟨h1, rfl, h3⟩ | ⟨rfl, rfl, h3⟩
    · exact ⟨.ref _, .ref _, pe_glob hg2 h3 (v := .ref (xa X.K t)) rfl hd, fun u r => r, fun k hk => ((hf k hk).em t h1).2⟩
    · refine ⟨.ty "ValueError", .type "ValueError", pe_bltn hg2 h3 (by decide +kernel) rfl (by decide +kernel) (by decide +kernel), fun u r => r, fun k hk => ?_⟩
      rw [(hf k hk).ev]
      unfold subX
      simp
  refine PE.weak (pe_callB call_isX hg hm PyProof.Rows.boot_isinstance (pa_cons ha (pa_cons hT pa_nil) (star_cons hn)) (by decide) (by decide) (star_cons hn) rfl) fun σ H Q ⟨r, F, q, h⟩ => ⟨r, F, q, Fi.step h fun x r1 v H1 F1 p1 q1 h => ?_⟩
  unfold isxD at h
  split at h
  · rename_i k fs
    split at h
    · rename_i hc
      have hk' : k ∈ ks := by simpa using hc
      simp only [Rep] at q1
      obtain ⟨b, dd, ws, rfl, e, _, xd⟩ := q1
      refine ⟨b, xa X.K k, dd, cV, cv, _, rfl, p1.rp.sub _ _ e, ?_, (hf k hk').ec, hcv, hk k hk', h _ _ _ (Ps.refl p1.rp) (Rep.bl_iff.mpr rfl)⟩
      rcases xd with xd | ⟨d, w, _, xd, xe⟩
      · exact .inl xd.2
      · exact .inr ⟨d, _, xd, p1.rp.sub _ _ xe⟩
    · exact h.elim
  · exact h.elim
end
end Z

/-! Z10: list comprehensions -/
namespace Z
open PySem PySem.Spec PyProof.Rows L2 TL

theorem wipeS_len (ow : List Nat) (r : St) : (wipeS ow r).length = r.length := by
  induction ow with
  | nil => rfl
  | cons v ow ih => simp [wipeS, ih]
theorem wipeS_out {ow : List Nat} {r : St} {i : Nat} (h : i ∉ ow) : (wipeS ow r)[i]? = r[i]? := by
  induction ow with
  | nil => rfl
  | cons v ow ih =>
    simp only [List.mem_cons, not_or] at h
    simp only [wipeS]
    rw [List.getElem?_set_ne (Ne.symm h.1), ih h.2]
theorem wipeS_in {ow : List Nat} {r : St} {i : Nat} (h : i ∈ ow) : (wipeS ow r)[i]? = none ∨ (wipeS ow r)[i]? = some .no := by
  induction ow with
  | nil => cases h
  | cons v ow ih =>
    simp only [wipeS]
    by_cases hv : v = i
    · subst hv
      by_cases hl : v < (wipeS ow r).length
      · exact .inr (List.getElem?_set_self hl)
      · exact .inl (List.getElem?_eq_none (by simpa using hl))
    · rw [List.getElem?_set_ne hv]
      rcases List.mem_cons.mp h with e | h
      · exact absurd e.symm hv
      · exact ih h
theorem wipeS_own {ow : List Nat} {r : St} {i : Nat} {l : D} (h : ownL (wipeS ow r)[i]? = some l) : i ∉ ow ∧ ownL r[i]? = some l := by
  by_cases hi : i ∈ ow
  · rcases wipeS_in (r := r) hi with e | e <;> rw [e] at h <;> cases h
  · rw [wipeS_out hi] at h
    exact ⟨hi, h⟩
theorem backS_len (ow : List Nat) (r0 r : St) : (backS ow r0 r).length = r.length := by
  induction ow with
  | nil => rfl
  | cons v ow ih => simp [backS, ih]
theorem backS_out {ow : List Nat} {r0 r : St} {i : Nat} (h : i ∉ ow) : (backS ow r0 r)[i]? = r[i]? := by
  induction ow with
  | nil => rfl
  | cons v ow ih =>
    simp only [List.mem_cons, not_or] at h
    simp only [backS]
    rw [List.getElem?_set_ne (Ne.symm h.1), ih h.2]
theorem backS_in {ow : List Nat} {r0 r : St} {i : Nat} (h : i ∈ ow) (hl : r.length = r0.length) : (backS ow r0 r)[i]? = r0[i]? := by
  induction ow with
  | nil => cases h
  | cons v ow ih =>
    simp only [backS]
    by_cases hv : v = i
    · subst hv
      by_cases hlt : v < r0.length
      · rw [List.getElem?_set_self (by rw [backS_len, hl]; exact hlt)]
        simp [List.getD, hlt]
      · rw [List.getElem?_eq_none (by rw [List.length_set, backS_len, hl]; omega), List.getElem?_eq_none (by omega)]
    · rw [List.getElem?_set_ne hv]
      rcases List.mem_cons.mp h with e | h
      · exact absurd e.symm hv
      · exact ih h
theorem wipe_in {ow : List Nat} {σ : L2.St} {i : Nat} (h : i ∈ ow) : (wipe σ ow)[i]? = none ∨ (wipe σ ow)[i]? = some none := by
  induction ow with
  | nil => cases h
  | cons v ow ih =>
    simp only [wipe]
    by_cases hv : v = i
    · subst hv
      by_cases hl : v < (wipe σ ow).length
      · exact .inr (List.getElem?_set_self hl)
      · exact .inl (List.getElem?_eq_none (by simpa using hl))
    · rw [List.getElem?_set_ne hv]
      rcases List.mem_cons.mp h with e | h
      · exact absurd e.symm hv
      · exact ih h
theorem wipe_in2 {ow : List Nat} {σ τ : L2.St} {i : Nat} (h : i ∈ ow) (hl : σ.length = τ.length) : (wipe σ ow)[i]? = (wipe τ ow)[i]? := by
  by_cases hi : i < τ.length
  · have a : (wipe σ ow)[i]? = some none := by
      rcases wipe_in (σ := σ) h with e | e
      · exact absurd (List.getElem?_eq_none_iff.mp e) (by rw [wipe_length]; omega)
      · exact e
    have b : (wipe τ ow)[i]? = some none := by
      rcases wipe_in (σ := τ) h with e | e
      · exact absurd (List.getElem?_eq_none_iff.mp e) (by rw [wipe_length]; omega)
      · exact e
    rw [a, b]
  · rw [List.getElem?_eq_none (by rw [wipe_length]; omega), List.getElem?_eq_none (by rw [wipe_length]; omega)]
theorem wipe_eq {ow : List Nat} {σ τ : L2.St} (h : But ow (wipe σ ow) τ) : wipe τ ow = wipe σ ow := by
  refine List.ext_getElem? fun i => ?_
  have hl : τ.length = σ.length := by rw [h.1, wipe_length]
  by_cases hi : i ∈ ow
  · exact wipe_in2 hi hl
  · rw [wipe_out hi, h.2 i hi]
section
variable {K : PySem.W.Frag} {r r' r1 r2 : St} {σ τ : L2.St} {H F H1 F1 H2 F2 : Hp} {ow : List Nat}
theorem Rp.wipe (p : Rp K r σ H F) (ow : List Nat) : Rp K (wipeS ow r) (L2.wipe σ ow) H F := by
  refine ⟨by rw [wipeS_len, wipe_length]; exact p.len, p.sub, fun i d e => ?_, fun i l e => ?_, fun i j l m a e1 e2 z1 z2 => ?_⟩
  · by_cases hi : i ∈ ow
    · rcases wipeS_in (r := r) hi with z | z <;> rw [z] at e <;> cases e
    · rw [wipeS_out hi] at e
      rw [wipe_out hi]
      exact p.val i d e
  · obtain ⟨hi, e⟩ := wipeS_own e
    rw [wipe_out hi]
    exact p.own i l e
  · obtain ⟨hi, e1⟩ := wipeS_own e1
    obtain ⟨hj, e2⟩ := wipeS_own e2
    rw [wipe_out hi] at z1
    rw [wipe_out hj] at z2
    exact p.apart i j l m a e1 e2 z1 z2
theorem own_wipe {b : Addr} (h : Own (wipeS ow r) (L2.wipe σ ow) b) : Own r σ b := by
  obtain ⟨i, l, e, z⟩ := h
  obtain ⟨hi, e⟩ := wipeS_own e
  rw [wipe_out hi] at z
  exact ⟨i, l, e, z⟩
/-- an object outside of the frame is changed -/
theorem Rp.other (p : Rp K r σ H F) {a : Addr} {o : HO} (hf : F a = none) (no : ¬ Own r σ a) : Rp K r σ (upd H a o) F :=
  ⟨p.len, fun b u e => by rw [upd_ne (fun z => by subst z; rw [hf] at e; cases e)]; exact p.sub b u e, p.val, fun i l e => by
    obtain ⟨b, vs, e1, e2, e3, q⟩ := p.own i l e
    exact ⟨b, vs, e1, by rw [upd_ne (fun z => no (by subst z; exact ⟨i, l, e, e1⟩))]; exact e2, e3, q⟩, p.apart⟩
/-- one turn of a comprehension's block, as an expression over the wiped frame -/
theorem turn_ps {t : Tg} {d : D} {r3 r4 : St} {σ2 : L2.St} (hw : ∀ i ∈ ow, ownL r[i]? = none) (hsub : ∀ i ∈ t.is, i ∈ ow) (hs : setTg t d r = some r3) (ht : Pt K r r3 (L2.wipe σ ow) σ2 H F H F) (hb : But t.is (L2.wipe σ ow) σ2) (p : Ps K r3 r4 σ2 H F H2 F2) :
    Ps K r (wipeS ow r4) (L2.wipe σ ow) H F H2 F2 := by
  have e2 : L2.wipe σ2 ow = L2.wipe σ ow := wipe_eq ⟨hb.1, fun j hj => hb.2 j fun z => hj (hsub j z)⟩
  obtain ⟨hl3, hb3⟩ := setTg_but hs
  have q := ht.trans p.pt
  have out : ∀ (i : Nat), i ∉ ow → r3[i]? = r[i]? := fun i hi => hb3 i fun z => hi (hsub i z)
  refine ⟨?_, q.f, q.h, q.n, fun i l e => ?_, fun i l e => ?_⟩
  · rw [← e2]
    exact p.rp.wipe ow
  · obtain ⟨hi, e⟩ := wipeS_own e
    obtain ⟨l', e'⟩ := p.sub i l e
    rw [out i hi] at e'
    exact ⟨l', e'⟩
  · have hi : i ∉ ow := fun z => by rcases wipeS_in (r := r4) z with y | y <;> rw [y] at e <;> cases e
    rw [wipeS_out hi] at e
    rw [← out i hi]
    exact p.io i l e
end
def WF : WX := fun _ _ _ _ => False
def delH (H : Hp) (a : Addr) : Hp := fun b => if b = a then none else H b
theorem upd_del {H : Hp} {a : Addr} {o : HO} (h : H a = some o) : upd (delH H a) a o = H := by
  funext b
  unfold upd delH
  split
  · rename_i e; rw [e, h]
  · rfl
section
variable {X : Cx} {ca : Nat → Addr} {W : WX} {pos : Pos}
/-- the loop of a comprehension -/
theorem comp_loopA {acc0 : List D} {acc0V : List V} {K : PySem.W.Frag} {J : It} {xs : List D} {t : Tg} {fc fe : St → R D} {tt : TT} {te : TE} {ow : List Nat} {σ : L2.St} {H1 F1 : Hp} {r1 : St} {A : Addr} {Qd : Hp → Prop} (hsub : ∀ i ∈ t.is, i ∈ ow)
    (hc : ∀ σ H Q, tT K ca WF fc σ H Q → tt σ H Q) (he : ∀ σ H Q, tE K ca WF fe σ H Q → te σ H Q)
    (p1 : Rp K r1 σ H1 F1) (w : Wk K F1 xs J) (hA : H1 A = none) (q0 : Reps K F1 acc0 acc0V) (ne : ∃ l r', compL (compB t fc fe ow) xs acc0 (wipeS ow r1) = .ok l r')
    (k : ∀ l r' H F accV, compL (compB t fc fe ow) xs acc0 (wipeS ow r1) = .ok l r' → Ps K (wipeS ow r1) r' (wipe σ ow) H1 F1 H F → H A = some (.lst accV) → F A = none → Reps K F l accV → Qd H) :
    ∃ W : Nat → Nat → Hp → Prop, (∃ m, W 0 m (upd H1 A (.lst acc0V))) ∧ ∀ i m H, W i m H → (J.stop i H ∧ Qd H) ∨ (J.go i H ∧ ∃ Nx : Hp → Prop, (∀ H', Nx H' → ∃ m', m' < m ∧ W (i + 1) m' H') ∧ ∀ x H', J.yld i H x H' → gTg K t x (wipe σ ow) H' fun σ2 H2 => wipe σ2 ow = wipe σ ow ∧ tt σ2 H2 fun b H3 =>
      if b = true then te σ2 H3 fun y H4 => ∃ acc, H4 A = some (.lst acc) ∧ acc.length < sizeLine ∧ Nx (upd H4 A (.lst (acc ++ [y]))) else Nx H3) := by
  obtain ⟨lE, rE, hE⟩ := ne
  have nA : ∀ {r H F}, Ps K (wipeS ow r1) r (wipe σ ow) H1 F1 H F → ¬ Own r (wipe σ ow) A := fun {r H F} p z => by
    obtain ⟨i, l, e, z⟩ := p.ownSub z
    obtain ⟨a, vs, e1, e2, _⟩ := (p1.wipe ow).own i l e
    rw [z] at e1
    cases e1
    rw [hA] at e2
    cases e2
  have hF1 : F1 A = none := p1.sub.free hA
  -- the invariant
  let V : Nat → Hp → Prop := fun i H => ∃ r F acc accV, Ps K (wipeS ow r1) r (wipe σ ow) H1 F1 H F ∧ H A = some (.lst accV) ∧ F A = none ∧ Reps K F acc accV ∧ compL (compB t fc fe ow) (xs.drop i) acc r = .ok lE rE
  have wiped : ∀ {r H F}, Ps K (wipeS ow r1) r (wipe σ ow) H1 F1 H F → ∀ i ∈ ow, ownL r[i]? = none := fun {r H F} p i hi => by
    cases e : ownL r[i]? with
    | none => rfl
    | some l =>
      obtain ⟨l', e'⟩ := p.sub i l e
      exact absurd hi (wipeS_own e').1
  -- the list changes
  have chg : ∀ {r H F o}, Ps K (wipeS ow r1) r (wipe σ ow) H1 F1 H F → F A = none → Ps K (wipeS ow r1) r (wipe σ ow) H1 F1 (upd H A o) F := fun {r H F o} p hf =>
    ⟨p.rp.other hf (nA p), p.f, fun b u e n => by rw [upd_ne (ne_of_none e hA)]; exact p.h b u e n, p.n, p.sub, p.io⟩
  refine ⟨fun i m H => m = xs.length - i ∧ i ≤ xs.length ∧ V i H, ⟨xs.length, by simp, Nat.zero_le _, wipeS ow r1, F1, acc0, acc0V, chg (Ps.refl (p1.wipe ow)) hF1, upd_same, hF1, q0, by simpa using hE⟩, ?_⟩
  rintro i m H ⟨rfl, hi, r, F, acc, accV, p, hL, hF, ql, h⟩
  by_cases hlt : i < xs.length
  · refine .inr ⟨w.go hlt p.rp p.f, fun H' => i + 1 ≤ xs.length ∧ V (i + 1) H', fun H' w => ⟨xs.length - (i + 1), by omega, rfl, w.1, w.2⟩, fun x H' y => ?_⟩
    obtain ⟨d, F3, hd, p3, q3⟩ := w.yld hlt p.rp p.f y
    have e : xs.drop i = d :: xs.drop (i + 1) := by
      rw [List.drop_eq_getElem_cons hlt]
      congr 1
      rw [List.getElem?_eq_getElem hlt] at hd
      exact Option.some.inj hd
    rw [e] at h
    simp only [compL] at h
    unfold compB at h
    have p13 := p.trans p3
    have hL3 : H' A = some (.lst accV) := p3.h A _ hL (nA p)
    have hF3 : F3 A = none := p3.n A _ hL (.inl ⟨_, rfl⟩) (nA p) hF
    cases z : setTg t d r with
    | none => simp only [z] at h; cases h
    | some r3 =>
      simp only [z] at h
      refine gTg_okB z p3.rp q3 fun σ4 p4 b4 => ⟨wipe_eq ⟨b4.1, fun j hj => b4.2 j fun z => hj (hsub j z)⟩, hc _ _ _ ⟨r3, F3, p4.rp, ?_⟩⟩
      cases e5 : fc r3 with
      | bad => simp only [e5] at h; cases h
      | exc x r5 => simp only [e5] at h; cases h
      | ok b r5 =>
        simp only [e5, R.bind] at h
        intro b' H5 F5 p5 q5
        cases q5
        have nA4 : ¬ Own r3 σ4 A := fun z => by
          rcases p4.sub A z with z | z
          · exact nA p13 z
          · rw [hL3] at z; cases z
        have hL5 : H5 A = some (.lst accV) := p5.h A _ hL3 nA4
        have hF5 : F5 A = none := p5.n A _ hL3 (.inl ⟨_, rfl⟩) nA4 hF3
        cases b' with
        | false =>
          simp only at h
          refine iteF ⟨hlt, wipeS ow r5, F5, acc, accV, p13.trans (turn_ps (wiped p13) hsub z p4 b4 p5), hL5, hF5, ql.mono (p3.f.trans p5.f), h⟩
        | true =>
          simp only at h
          refine iteT (he _ _ _ ⟨r5, F5, p5.rp, ?_⟩)
          cases e6 : fe r5 with
          | bad => simp only [e6] at h; cases h
          | exc x r6 => simp only [e6] at h; cases h
          | ok yd r6 =>
            simp only [e6] at h
            intro yv H6 F6 p6 q6
            have nA5 : ¬ Own r5 σ4 A := fun z => nA4 (p5.ownSub z)
            have hL6 : H6 A = some (.lst accV) := p6.h A _ hL5 nA5
            have hF6 : F6 A = none := p6.n A _ hL5 (.inl ⟨_, rfl⟩) nA5 hF5
            split at h
            · rename_i hlen
              refine ⟨accV, hL6, by rw [← ql.length, ← LINE_eq]; exact hlen, hlt, wipeS ow r6, F6, acc ++ [yd], accV ++ [yv], chg (p13.trans (turn_ps (wiped p13) hsub z p4 b4 (p5.trans p6))) hF6, upd_same, hF6, ?_, h⟩
              exact (ql.mono (p3.f.trans (p5.f.trans p6.f))).append (Reps.cons q6 Reps.nil)
            · cases h
  · have e : xs.drop i = [] := List.drop_eq_nil_of_le (by omega)
    rw [e] at h
    simp only [compL, R.ok.injEq] at h
    obtain ⟨rfl, rfl⟩ := h
    exact .inl ⟨w.stop (by omega) p.rp p.f, k _ _ H F accV hE p hL hF ql⟩
theorem o_compT {elt tg iter : Expr} {ifs : List Expr} {scope : Scope} {own : List (Str × Nat)} {t : Tg} {fi : St → R (List D)} {fc fe : St → R D} (hsub : ∀ i ∈ t.is, i ∈ own.map (·.2)) :
    ∀ σ H Q, tO' X.K ca W (compR fi t fc fe (own.map (·.2))) σ H Q → tLc (tI X.K ca W fi) (gTg X.K t) (tT X.K ca WF fc) (tE X.K ca WF fe) (own.map (·.2)) σ H Q := by
  intro σ H Q ⟨r, F, p, h⟩
  unfold compR at h
  refine ⟨r, F, p, ?_⟩
  cases e : fi r with
  | bad => rw [e] at h; exact h.elim
  | exc x r1 => rw [e] at h; exact h
  | ok xs r1 =>
    rw [e] at h
    intro J H1 F1 p1 w A hA
    simp only [R.bind] at h
    have ne : ∃ l r', compL (compB t fc fe (own.map (·.2))) xs [] (wipeS (own.map (·.2)) r1) = .ok l r' := by
      cases z : compL (compB t fc fe (own.map (·.2))) xs [] (wipeS (own.map (·.2)) r1) with
      | ok l r' => exact ⟨l, r', rfl⟩
      | bad => rw [z] at h; exact h.elim
      | exc x r' =>
        exfalso
        have : ∀ (xs : List D) (acc : List D) (r : St), compL (compB t fc fe (own.map (·.2))) xs acc r ≠ .exc x r' := by
          intro xs
          induction xs with
          | nil => intro acc r; simp [compL]
          | cons y ys ih =>
            intro acc r
            simp only [compL]
            split
            · split
              · exact ih _ _
              · simp
            · exact ih _ _
            · simp
        exact this _ _ _ z
    refine comp_loopA hsub (fun _ _ _ z => z) (fun _ _ _ z => z) p1.rp w hA Reps.nil ne fun l r' H2 F2 accV hl p2 hL hF ql => ?_
    rw [hl] at h
    have nb : ∀ b, b ∈ [A] → True := fun _ _ => trivial
    -- the frame as it was
    have hlen : r'.length = r1.length := by rw [p2.rp.len, wipe_length, p1.rp.len]
    have inner : ∀ (i : Nat), i ∉ own.map (·.2) → (backS (own.map (·.2)) r1 r')[i]? = r'[i]? := fun i hi => backS_out hi
    have outer : ∀ (i : Nat), i ∈ own.map (·.2) → (backS (own.map (·.2)) r1 r')[i]? = r1[i]? := fun i hi => backS_in hi hlen
    have f2 : Same F1 F2 := p2.f
    have noIn : ∀ (i : Nat) l b, i ∈ own.map (·.2) → ownL r1[i]? = some l → σ[i]? = some (some (V.ref b)) → ¬ Own (wipeS (own.map (·.2)) r1) (wipe σ (own.map (·.2))) b := fun i l b hi e z ⟨j, m, e', z'⟩ => by
      obtain ⟨hj, e'⟩ := wipeS_own e'
      rw [wipe_out hj] at z'
      have := p1.rp.apart i j l m b e e' z z'
      subst this
      exact hj hi
    have ownB : ∀ (i : Nat) l, ownL (backS (own.map (·.2)) r1 r')[i]? = some l → ∃ l', ownL r1[i]? = some l' := fun i l e => by
      by_cases hi : i ∈ own.map (·.2)
      · rw [outer i hi] at e; exact ⟨l, e⟩
      · rw [inner i hi] at e
        obtain ⟨l', e'⟩ := p2.sub i l e
        exact ⟨l', (wipeS_own e').2⟩
    have hAne : ∀ b u, H1 b = some u → b ≠ A := fun b u e => ne_of_none e hA
    have rp : Rp X.K (backS (own.map (·.2)) r1 r') σ (delH H2 A) F2 := by
      refine ⟨by rw [backS_len, hlen]; exact p1.rp.len, fun b u e => ?_, fun i d e => ?_, fun i l e => ?_, fun i j l m a e1 e2 z1 z2 => ?_⟩
      · have hb : b ≠ A := fun z => by subst z; rw [hF] at e; cases e
        unfold delH
        rw [if_neg hb]
        exact p2.rp.sub b u e
      · by_cases hi : i ∈ own.map (·.2)
        · rw [outer i hi] at e
          obtain ⟨v, e1, q⟩ := p1.rp.val i d e
          exact ⟨v, e1, q.mono f2⟩
        · rw [inner i hi] at e
          obtain ⟨v, e1, q⟩ := p2.rp.val i d e
          rw [wipe_out hi] at e1
          exact ⟨v, e1, q⟩
      · by_cases hi : i ∈ own.map (·.2)
        · rw [outer i hi] at e
          obtain ⟨b, vs, e1, e2, e3, q⟩ := p1.rp.own i l e
          have hn := noIn i l b hi e e1
          refine ⟨b, vs, e1, ?_, p2.n b _ e2 q.mtb hn e3, q.mono f2⟩
          unfold delH
          rw [if_neg (hAne b _ e2)]
          exact p2.h b _ e2 hn
        · rw [inner i hi] at e
          obtain ⟨b, vs, e1, e2, e3, q⟩ := p2.rp.own i l e
          rw [wipe_out hi] at e1
          obtain ⟨l', e'⟩ := p2.sub i l e
          obtain ⟨b', vs', z1, z2, _⟩ := p1.rp.own i l' (wipeS_own e').2
          rw [e1] at z1
          cases z1
          refine ⟨b, vs, e1, ?_, e3, q⟩
          unfold delH
          rw [if_neg (hAne b _ z2)]
          exact e2
      · obtain ⟨l1, y1⟩ := ownB i l e1
        obtain ⟨l2, y2⟩ := ownB j m e2
        exact p1.rp.apart i j l1 l2 a y1 y2 z1 z2
    have ps : Ps X.K r1 (backS (own.map (·.2)) r1 r') σ H1 F1 (delH H2 A) F2 := by
      refine ⟨rp, f2, fun b u e n => ?_, fun b u e m n z => p2.n b u e m (fun z => n (own_wipe z)) z, fun i l e => ownB i l e, fun i l e => ?_⟩
      · unfold delH
        rw [if_neg (hAne b u e)]
        exact p2.h b u e fun z => n (own_wipe z)
      · by_cases hi : i ∈ own.map (·.2)
        · rw [outer i hi] at e; exact ⟨l, e⟩
        · rw [inner i hi] at e
          obtain ⟨l', e'⟩ := p2.io i l e
          rw [wipeS_out hi] at e'
          exact ⟨l', e'⟩
    have fin := h A accV (delH H2 A) F2 (p1.trans ps) (by unfold delH; rw [if_pos rfl]) ql
    rw [upd_del hL] at fin
    exact fin
end
end Z

/-! Z11: comprehensions as values and stored; methods; more statements -/
namespace Z
open PySem PySem.Spec PyProof.Rows L2 TL

section
variable {X : Cx} {ca : Nat → Addr} {W : WX} {pos : Pos} {e a b : Expr} {f fa fb : St → R D}
theorem PTs.weak {es : List Expr} {t t' : TT} (h : PTs X es t) (w : ∀ σ H Q, t' σ H Q → t σ H Q) : PTs X es t' := ⟨fun pins s σ H Q I q => h.run pins s σ H Q I (w σ H Q q)⟩
theorem pts_no : PTs X [] (tT X.K ca W fun r => .ok (.bl true) r) := PTs.weak pts_nil fun σ H Q ⟨r, F, p, h⟩ => h true H F (Ps.refl p) rfl
theorem o_comp {elt tg iter : Expr} {ifs : List Expr} {scope : Scope} {own : List (Str × Nat)} {t : Tg} {fi : St → R (List D)} {fc fe : St → R D} (hc : X.calm = true) (nd : X.N.Nodup) (hi : QI X ca W tg iter fi) (ok : BlkOk X.N X.env.scope scope own)
    (hg : ∀ (s : Shared) (H : Hp) (C : Addr) (cl : List (Str × Addr)) (fp : List Addr), PG (X.blk s H scope (compEnvC scope cl C X.env) fp) tg (gTg X.K t))
    (ht : ∀ (s : Shared) (H : Hp) (C : Addr) (cl : List (Str × Addr)) (fp : List Addr), PTs (X.blk s H scope (compEnvC scope cl C X.env) fp) ifs (tT X.K ca WF fc))
    (he : ∀ (s : Shared) (H : Hp) (C : Addr) (cl : List (Str × Addr)) (fp : List Addr), PE (X.blk s H scope (compEnvC scope cl C X.env) fp) elt (tE X.K ca WF fe))
    (hs : ∀ x, foldedSetIterable iter X.env x = pure x) (hsub : ∀ i ∈ t.is, i ∈ own.map (·.2)) :
    QO X ca W (.ListComp elt [⟨tg, iter, ifs, 0⟩] scope pos) (compR fi t fc fe (own.map (·.2))) :=
  PE.weak (pe_lc hc nd hi ok hg ht he hs) (o_compT (elt := elt) (tg := tg) (iter := iter) (ifs := ifs) (scope := scope) hsub)
/-- name = [..], the name a local: the block's own store -/
theorem s_comp {i : Nat} {y : Str} {py spos : Pos} {elt tg iter : Expr} {ifs : List Expr} {scope : Scope} {own : List (Str × Nat)} {t : Tg} {fi : St → R (List D)} {fc fe : St → R D} (hc : X.calm = true) (nd : X.N.Nodup) (hy : X.N[i]? = some y) (hyl : X.env.scope.names.lookup y = some .local)
    (hsw : swapsWith (.ListComp elt [⟨tg, iter, ifs, 0⟩] scope pos) (some (.Name y py)) spos.line X.env = pure true) (hi : QI X ca W tg iter fi) (ok : BlkOk X.N X.env.scope scope own)
    (hg : ∀ (s : Shared) (H : Hp) (C : Addr) (cl : List (Str × Addr)) (fp : List Addr), PG (X.blk s H scope (compEnvC scope cl C X.env) fp) tg (gTg X.K t))
    (ht : ∀ (s : Shared) (H : Hp) (C : Addr) (cl : List (Str × Addr)) (fp : List Addr), PTs (X.blk s H scope (compEnvC scope cl C X.env) fp) ifs (tT X.K ca WF fc))
    (he : ∀ (s : Shared) (H : Hp) (C : Addr) (cl : List (Str × Addr)) (fp : List Addr), PE (X.blk s H scope (compEnvC scope cl C X.env) fp) elt (tE X.K ca WF fe))
    (hs : ∀ x, foldedSetIterable iter X.env x = pure x) (hsub : ∀ i ∈ t.is, i ∈ own.map (·.2)) :
    PS X (.Assign [.Name y py] (.ListComp elt [⟨tg, iter, ifs, 0⟩] scope pos) spos) (tAsg (tO' X.K ca W (compR fi t fc fe (own.map (·.2)))) (gName i)) :=
  PS.weak (ps_setLc hc nd hy hyl hsw hi ok hg ht he hs) fun D σ H h => o_compT (elt := elt) (tg := tg) (iter := iter) (ifs := ifs) (scope := scope) hsub σ H _ h
/-- an own list's expression, stored: as the frame's own, or shared -/
theorem s_ownT {st : Stmt} {i : Nat} (h : PS X st (tAsg (tO' X.K ca W f) (gName i))) : QS X ca W st (fun r => (f r).fl fun d r => match d with | .lst l => (match setv i (.own (.lst l)) r with | some r => .nx r | none => .bad) | _ => .bad) := by
  refine PS.weak h fun D σ H ⟨r, F, p, h⟩ => ⟨r, F, p, ?_⟩
  cases e : f r with
  | bad => simp only [e] at h; exact h.elim
  | exc x r1 => simp only [e] at h; exact fun c dd H1 F1 p z => h c dd σ H1 F1 p.pt z
  | ok d r1 =>
    simp only [e] at h
    cases d with
    | lst l =>
      intro a vs H1 F1 p1 ha q1
      have h := FiS.shift p1.pt h
      dsimp only [R.fl] at h
      cases z : setv i (.own (.lst l)) r1 with
      | none => simp only [z] at h; exact h.elim
      | some r2 =>
        simp only [z] at h
        obtain ⟨e2, hi⟩ := setv_some z
        subst e2
        exact h _ _ _ (p1.rp.putOwn hi ha ⟨vs, rfl, q1⟩)
    | _ => exact h.elim
theorem compR_lst {fi : St → R (List D)} {t : Tg} {fc fe : St → R D} {ow : List Nat} {r r' : St} {d : D} (h : compR fi t fc fe ow r = .ok d r') : ∃ l, d = .lst l := by
  unfold compR at h
  cases e : fi r with
  | ok xs r1 =>
    simp only [e, R.bind] at h
    split at h
    · cases h; exact ⟨_, rfl⟩
    · cases h
    · cases h
  | exc x r1 => simp only [e, R.bind] at h; cases h
  | bad => simp only [e, R.bind] at h; cases h
theorem s_setT {st : Stmt} {i : Nat} (h : PS X st (tAsg (tO' X.K ca W f) (gName i))) (hl : ∀ r d r', f r = .ok d r' → ∃ l, d = .lst l) : QS X ca W st (fun r => (f r).fl fun d r => match setv i (.val d) r with | some r => .nx r | none => .bad) := by
  refine PS.weak h fun D σ H ⟨r, F, p, h⟩ => ⟨r, F, p, ?_⟩
  cases e : f r with
  | bad => simp only [e] at h; exact h.elim
  | exc x r1 => simp only [e] at h; exact fun c dd H1 F1 p z => h c dd σ H1 F1 p.pt z
  | ok d r1 =>
    simp only [e] at h
    cases d with
    | lst l =>
      intro a vs H1 F1 p1 ha q1
      have hn := p1.rp.new (o := .lst vs) ha
      have h := FiS.shift (p1.trans hn).pt h
      dsimp only [R.fl] at h
      cases z : setv i (.val (.lst l)) r1 with
      | none => simp only [z] at h; exact h.elim
      | some r2 =>
        simp only [z] at h
        obtain ⟨e2, hi⟩ := setv_some z
        subst e2
        exact h _ _ _ (hn.rp.put hi (Rep.lst_iff.mpr ⟨a, vs, rfl, SqL.of upd_same, q1.mono hn.f⟩))
    | _ => obtain ⟨l, z⟩ := hl _ _ _ e; cases z

/-! ### xs[i] = e -/
theorem s_put {i : Nat} {x : Str} {px p2 : Pos} {ix : Expr} {fx : St → R D} (hN : X.N[i]? = some x) (hv : Vis X.env.scope x) (hd : (x == ("__debug__" : Str)) = false) (hcd : (x == ("__classdict__" : Str)) = false) (he : QE X ca W e f) (hi : QE X ca W ix fx) (hn : noComp e = true) (hx : noSlice ix = true) :
    QS X ca W (.Assign [.Subscript (.Name x px) ix p2] e pos) (fun r => (f r).fl fun d r => if (iov i r).isSome then (fx r).fl fun k r => (match k with
      | .int k => (match r[i]? with
        | some (.own (.lst l)) => if 0 ≤ k ∧ k < l.length then .nx (r.set i (.own (.lst (l.set k.toNat d)))) else .bad
        | some (.io (.lst l)) => if 0 ≤ k ∧ k < l.length then .nx (r.set i (.io (.lst (l.set k.toNat d)))) else .bad
        | _ => .bad)
      | _ => .bad) else .bad) := by
  have ha : ∀ v, assign (.Subscript (.Name x px) ix p2) X.env v = (do
      let ov ← holding [v] (eval (.Name x px) X.env)
      let iv ← holding [v, ov] (eval ix X.env)
      standAt p2
      holding [v, ov, iv] (setItem ov iv v)
      release [v, ov, iv] []) := by
    intro v
    cases ix <;> first | rfl | cases hx
  have hw : swapsWithSole [.Subscript (.Name x px) ix p2] e pos.line X.env = pure false := by
    show swapsWith e (some (.Subscript (.Name x px) ix p2)) pos.line X.env = pure false
    exact no_swap hn
  refine PS.weak (ps_asg he (pg_sub (pe_var hN hv hd hcd) hi set_list ha) hw (by cases e <;> rfl) rfl) fun D σ H ⟨r, F, p, h⟩ => ⟨r, F, p, FiS.step h fun d r1 v H1 F1 p1 q1 h => ?_⟩
  split at h
  case isFalse => exact h.elim
  rename_i h0
  obtain ⟨x0, e0⟩ := Option.isSome_iff_exists.mp h0
  obtain ⟨a, vs0, ea, ha0, _, _⟩ := p1.rp.own i x0 (iov_own e0)
  refine ⟨_, ea, r1, F1, p1.rp, FiS.step h fun k r2 w H2 F2 p2 q2 h => ?_⟩
  cases k with
  | int k =>
    dsimp only at h
    have q1 := q1.mono p2.f
    have fin : ∀ {l : List Z.D} {s : Slot}, ownL r2[i]? = some (.lst l) → ownL (some s) = some (.lst (l.set k.toNat d)) → (∀ y, s = .io y → ∃ z, r2[i]? = some (Slot.io z)) → (∀ d, s ≠ .val d) → 0 ≤ k ∧ k < l.length → FiS X.K ca W (.nx (r2.set i s)) r2 σ H2 F2 D →
        rSetL (V.ref a) w v H2 fun H' => D.nx σ H' := fun {l s} h1 h2 h3 h4 h5 h => by
      obtain ⟨b, _, eb, hb, hF, ws, rfl, q⟩ := p2.rp.own i _ h1
      rw [ea] at eb
      cases eb
      refine ⟨a, ws, k, k.toNat, rfl, Rep.int_iff.mp q2, hb, ?_, h _ _ _ (p2.rp.chg h1 h2 h3 h4 ea ⟨_, rfl, q.set q1⟩).pt⟩
      unfold ixN
      rw [if_pos h5.1, if_pos (by rw [← q.length]; exact h5.2)]
    split at h
    · rename_i l e1
      split at h
      · rename_i hl
        exact fin (by rw [e1]; rfl) rfl (fun y z => by cases z) (fun d z => by cases z) hl h
      · exact h.elim
    · rename_i l e1
      split at h
      · rename_i hl
        exact fin (by rw [e1]; rfl) rfl (fun y z => ⟨_, e1⟩) (fun d z => by cases z) hl h
      · exact h.elim
    · exact h.elim
  | _ => exact h.elim
/-! ### x += e -/
structure AuS (X : Cx) (op : Operator) (g : D → D → Option D) (rd : R2) : Prop where
  op : PIp X op rd
  ok : ∀ {x y d : D} {v w : V} {H F : Hp} {Q : VK}, g x y = some d → Rep X.K F x v → Rep X.K F y w → Same F H → (∀ z, Rep X.K F d z → Q z H) → rd v w H Q
theorem auS_add : AuS X .Add (augD .add) (fun x y H Q => rI0 (fun i j => .int (i + j)) x y H Q ∨ ∃ i j, x = V.str i ∧ y = V.str j ∧ i.length + j.length ≤ sizeLine ∧ Q (.str (i ++ j)) H) := by
  refine ⟨iop_add.or iop_add_str, ?_⟩
  intro x y d v w H F Q hg hx hy p h
  unfold augD at hg
  split at hg <;> try contradiction
  · cases hg
    exact .inl ⟨_, _, Rep.int_iff.mp hx, Rep.int_iff.mp hy, h _ (Rep.int_iff.mpr rfl)⟩
  · split at hg
    · rename_i hl
      cases hg
      obtain ⟨e1, o1⟩ := Rep.str_iff.mp hx
      obtain ⟨e2, o2⟩ := Rep.str_iff.mp hy
      refine .inr ⟨_, _, e1, e2, by rw [len_mk, len_mk, ← LINE_eq]; exact hl, ?_⟩
      rw [mk_app]
      exact h _ (Rep.str_iff.mpr ⟨rfl, o1.app o2 hl⟩)
    · cases hg
theorem auS_sub : AuS X .Sub (augD .sub) (rI0 (fun i j => .int (i - j))) := by
  refine ⟨iop_sub, ?_⟩
  intro x y d v w H F Q hg hx hy p h
  unfold augD at hg
  split at hg <;> try contradiction
  cases hg
  exact ⟨_, _, Rep.int_iff.mp hx, Rep.int_iff.mp hy, h _ (Rep.int_iff.mpr rfl)⟩
theorem s_aug {i : Nat} {x : Str} {px : Pos} {op : Operator} {g : D → D → Option D} {rd : R2} (o : AuS X op g rd) (nd : X.N.Nodup) (hN : X.N[i]? = some x) (hl : Loc X.env.scope x) (hf : X.fn x = true ∨ X.env.scope.names.lookup x = some .local) (he : QE X ca W e f) :
    QS X ca W (.AugAssign (.Name x px) op e pos) (fun r => match r[i]? with
      | some (.val x) => (f r).fl fun y r => (match (g x y).bind fun d => setv i (.val d) r with
        | some r => .nx r
        | none => .bad)
      | _ => .bad) := by
  refine PS.weak (ps_aug nd hN hl he o.op hf) fun D σ H ⟨r, F, p, h⟩ => ?_
  dsimp only at h
  split at h
  · rename_i xd ex
    obtain ⟨v, ev, qv⟩ := p.val i xd ex
    refine ⟨v, ev, r, F, p, FiS.step h fun y r1 w H1 F1 p1 q1 h => ?_⟩
    cases z : g xd y with
    | none => simp only [z] at h; exact h.elim
    | some d =>
      simp only [z, Option.bind] at h
      refine o.ok z (qv.mono p1.f) q1 p1.rp.sub fun u qu => ?_
      cases z2 : setv i (.val d) r1 with
      | none => simp only [z2] at h; exact h.elim
      | some r2 =>
        simp only [z2] at h
        obtain ⟨e2, hi⟩ := setv_some z2
        subst e2
        exact h _ _ _ (p1.rp.put hi qu)
  · exact h.elim
end
end Z

/-! ZC: comprehensions of two clauses -/
namespace Z
open PySem PySem.Spec PyProof.Rows L2 TL
theorem wipe_wipe {ow ow1 : List Nat} (hv : ∀ i ∈ ow1, i ∈ ow) (σ : L2.St) : wipe (wipe σ ow1) ow = wipe σ ow := by
  refine List.ext_getElem? fun i => ?_
  by_cases hi : i ∈ ow
  · exact wipe_in2 hi (by rw [wipe_length])
  · rw [wipe_out hi, wipe_out hi, wipe_out fun z => hi (hv i z)]
section
variable {K : PySem.W.Frag} {r0 r r3 r4 r' : St} {σ0 σ2 : L2.St} {H1 F1 Hi Fi H' F3 H4 F4 H F : Hp} {ow ow1 : List Nat} {A : Addr}
/-- the heap without the list that grows -/
theorem Rp.del (p : Rp K r σ2 H F) (hf : F A = none) (no : ¬ Own r σ2 A) : Rp K r σ2 (delH H A) F :=
  ⟨p.len, fun b u e => by
    unfold delH
    rw [if_neg (fun z => by subst z; rw [hf] at e; cases e)]
    exact p.sub b u e, p.val, fun i l e => by
    obtain ⟨b, vs, e1, e2, e3, q⟩ := p.own i l e
    refine ⟨b, vs, e1, ?_, e3, q⟩
    unfold delH
    rw [if_neg (fun z => no (by subst z; exact ⟨i, l, e, e1⟩))]
    exact e2, p.apart⟩
theorem turn2_ps {t : Tg} {d : D} (hsub : ∀ i ∈ t.is, i ∈ ow) (hv : ∀ i ∈ ow1, i ∈ ow) (p : Ps K r0 r (wipe σ0 ow) H1 F1 H' F3) (hA : H1 A = none) (hs : setTg t d r = some r3) (ht : Pt K r r3 (wipe σ0 ow) σ2 H' F3 H' F3) (hb : But t.is (wipe σ0 ow) σ2)
    (p5 : Ps K r3 r4 σ2 H' F3 H4 F4) (q : Ps K (wipeS ow1 r4) r' (wipe σ2 ow1) (delH H4 A) F4 H F) : Ps K r0 (wipeS ow r') (wipe σ0 ow) H1 F1 H F := by
  have e2 : wipe σ2 ow = wipe σ0 ow := wipe_eq ⟨hb.1, fun j hj => hb.2 j fun z => hj (hsub j z)⟩
  obtain ⟨hl3, hb3⟩ := setTg_but hs
  have out : ∀ (i : Nat), i ∉ ow → r3[i]? = r[i]? := fun i hi => hb3 i fun z => hi (hsub i z)
  have no3 : ∀ b o, H1 b = some o → ¬ Own r0 (wipe σ0 ow) b → ¬ Own r3 σ2 b := fun b o e n z => by
    rcases ht.sub b z with z | z
    · exact n (p.ownSub z)
    · rw [p.h b o e n] at z; cases z
  have no4 : ∀ b o, H1 b = some o → ¬ Own r0 (wipe σ0 ow) b → ¬ Own (wipeS ow1 r4) (wipe σ2 ow1) b := fun b o e n z => no3 b o e n (p5.ownSub (own_wipe z))
  have h4 : ∀ b o, H1 b = some o → ¬ Own r0 (wipe σ0 ow) b → H4 b = some o := fun b o e n => p5.h b o (p.h b o e n) (no3 b o e n)
  have hd : ∀ b o, H1 b = some o → ¬ Own r0 (wipe σ0 ow) b → delH H4 A b = some o := fun b o e n => by
    unfold delH
    rw [if_neg (ne_of_none e hA)]
    exact h4 b o e n
  have slot : ∀ (i : Nat), i ∉ ow → (wipeS ow1 r4)[i]? = r4[i]? := fun i hi => wipeS_out fun z => hi (hv i z)
  refine ⟨?_, p.f.trans (p5.f.trans q.f), fun b o e n => q.h b o (hd b o e n) (no4 b o e n), fun b o e m n z => q.n b o (hd b o e n) m (no4 b o e n) (p5.n b o (p.h b o e n) m (no3 b o e n) (p.n b o e m n z)), fun i l e => ?_, fun i l e => ?_⟩
  · have w := q.rp.wipe ow
    rw [wipe_wipe hv, e2] at w
    exact w
  · obtain ⟨hi, e⟩ := wipeS_own e
    obtain ⟨l1, e⟩ := q.sub i l e
    rw [slot i hi] at e
    obtain ⟨l2, e⟩ := p5.sub i l1 e
    rw [out i hi] at e
    exact p.sub i l2 e
  · have hi : i ∉ ow := fun z => by rcases wipeS_in (r := r') z with y | y <;> rw [y] at e <;> cases e
    rw [wipeS_out hi] at e
    obtain ⟨l1, e⟩ := q.io i l e
    rw [slot i hi] at e
    obtain ⟨l2, e⟩ := p5.io i l1 e
    rw [out i hi] at e
    exact p.io i l2 e
end
section
variable {X : Cx} {ca : Nat → Addr} {W : WX} {pos : Pos}
def cT : St → R D := fun r => .ok (.bl true) r
theorem comp2_loop {K : PySem.W.Frag} {J : It} {xs : List D} {t t1 : Tg} {fi1 : St → R (List D)} {fe : St → R D} {ow ow1 : List Nat} {σ : L2.St} {H1 F1 : Hp} {r1 : St} {A : Addr} {Qd : Hp → Prop} (hsub : ∀ i ∈ t.is, i ∈ ow) (hsub1 : ∀ i ∈ t1.is, i ∈ ow1) (hv : ∀ i ∈ ow1, i ∈ ow)
    (p1 : Rp K r1 σ H1 F1) (w : Wk K F1 xs J) (hA : H1 A = none) (ne : ∃ l r', compL2 t fi1 t1 fe ow ow1 xs [] (wipeS ow r1) = .ok l r')
    (k : ∀ l r' H F accV, compL2 t fi1 t1 fe ow ow1 xs [] (wipeS ow r1) = .ok l r' → Ps K (wipeS ow r1) r' (wipe σ ow) H1 F1 H F → H A = some (.lst accV) → F A = none → Reps K F l accV → Qd H) :
    ∃ W : Nat → Nat → Hp → Prop, (∃ m, W 0 m (upd H1 A (.lst []))) ∧ ∀ i m H, W i m H → (J.stop i H ∧ Qd H) ∨ (J.go i H ∧ ∃ Nx : Hp → Prop, (∀ H', Nx H' → ∃ m', m' < m ∧ W (i + 1) m' H') ∧ ∀ x H', J.yld i H x H' → gTg K t x (wipe σ ow) H' fun σ2 H2 => wipe σ2 ow = wipe σ ow ∧ tT K ca WF cT σ2 H2 fun b H3 =>
      if b = true then tI K ca WF fi1 σ2 H3 fun J1 H4 => ∃ W1 : Nat → Nat → Hp → Prop, (∃ m, W1 0 m H4) ∧ ∀ j k H, W1 j k H →
        (J1.stop j H ∧ Nx H) ∨ (J1.go j H ∧ ∃ Nx1 : Hp → Prop, (∀ H', Nx1 H' → ∃ k', k' < k ∧ W1 (j + 1) k' H') ∧ ∀ x H', J1.yld j H x H' → gTg K t1 x (wipe σ2 ow1) H' fun σ3 H5 => wipe σ3 ow1 = wipe σ2 ow1 ∧ tT K ca WF cT σ3 H5 fun b H6 =>
          if b = true then tE K ca WF fe σ3 H6 fun y H7 => ∃ acc, H7 A = some (.lst acc) ∧ acc.length < sizeLine ∧ Nx1 (upd H7 A (.lst (acc ++ [y]))) else Nx1 H6)
      else Nx H3) := by
  obtain ⟨lE, rE, hE⟩ := ne
  have nA : ∀ {r H F}, Ps K (wipeS ow r1) r (wipe σ ow) H1 F1 H F → ¬ Own r (wipe σ ow) A := fun {r H F} p z => by
    obtain ⟨i, l, e, z⟩ := p.ownSub z
    obtain ⟨a, vs, e1, e2, _⟩ := (p1.wipe ow).own i l e
    rw [z] at e1
    cases e1
    rw [hA] at e2
    cases e2
  have hF1 : F1 A = none := p1.sub.free hA
  let V : Nat → Hp → Prop := fun i H => ∃ r F acc accV, Ps K (wipeS ow r1) r (wipe σ ow) H1 F1 H F ∧ H A = some (.lst accV) ∧ F A = none ∧ Reps K F acc accV ∧ compL2 t fi1 t1 fe ow ow1 (xs.drop i) acc r = .ok lE rE
  have chg : ∀ {r H F o}, Ps K (wipeS ow r1) r (wipe σ ow) H1 F1 H F → F A = none → Ps K (wipeS ow r1) r (wipe σ ow) H1 F1 (upd H A o) F := fun {r H F o} p hf =>
    ⟨p.rp.other hf (nA p), p.f, fun b u e n => by rw [upd_ne (ne_of_none e hA)]; exact p.h b u e n, p.n, p.sub, p.io⟩
  refine ⟨fun i m H => m = xs.length - i ∧ i ≤ xs.length ∧ V i H, ⟨xs.length, by simp, Nat.zero_le _, wipeS ow r1, F1, [], [], chg (Ps.refl (p1.wipe ow)) hF1, upd_same, hF1, Reps.nil, by simpa using hE⟩, ?_⟩
  rintro i m H ⟨rfl, hi, r, F, acc, accV, p, hL, hF, ql, h⟩
  by_cases hlt : i < xs.length
  · refine .inr ⟨w.go hlt p.rp p.f, fun H' => i + 1 ≤ xs.length ∧ V (i + 1) H', fun H' w => ⟨xs.length - (i + 1), by omega, rfl, w.1, w.2⟩, fun x H' y => ?_⟩
    obtain ⟨d, F3, hd, p3, q3⟩ := w.yld hlt p.rp p.f y
    have e : xs.drop i = d :: xs.drop (i + 1) := by
      rw [List.drop_eq_getElem_cons hlt]
      congr 1
      rw [List.getElem?_eq_getElem hlt] at hd
      exact Option.some.inj hd
    rw [e] at h
    simp only [compL2] at h
    have p13 := p.trans p3
    have hL3 : H' A = some (.lst accV) := p3.h A _ hL (nA p)
    have hF3 : F3 A = none := p3.n A _ hL (.inl ⟨_, rfl⟩) (nA p) hF
    cases z : setTg t d r with
    | none => simp only [z] at h; cases h
    | some r3 =>
      simp only [z] at h
      refine gTg_okB z p3.rp q3 fun σ4 p4 b4 => ⟨wipe_eq ⟨b4.1, fun j hj => b4.2 j fun z => hj (hsub j z)⟩, ⟨r3, F3, p4.rp, ?_⟩⟩
      intro b' H5 F5 p5 q5
      cases q5
      refine iteT ⟨r3, F5, p5.rp, ?_⟩
      have nA4 : ¬ Own r3 σ4 A := fun z => by
        rcases p4.sub A z with z | z
        · exact nA p13 z
        · rw [hL3] at z; cases z
      cases e6 : fi1 r3 with
      | bad => simp only [e6] at h; cases h
      | exc x r6 => simp only [e6] at h; cases h
      | ok ys r4 =>
        simp only [e6] at h
        intro J1 H4 F4 p6 w4
        have p56 : Ps K r3 r4 σ4 H' F3 H4 F4 := p5.trans p6
        have hL4 : H4 A = some (.lst accV) := p56.h A _ hL3 nA4
        have hF4 : F4 A = none := p56.n A _ hL3 (.inl ⟨_, rfl⟩) nA4 hF3
        have nA6 : ¬ Own r4 σ4 A := fun z => nA4 (p56.ownSub z)
        cases e7 : compL (compB t1 cT fe ow1) ys acc (wipeS ow1 r4) with
        | bad => unfold cT at e7; simp only [e7] at h; cases h
        | exc x r7 => unfold cT at e7; simp only [e7] at h; cases h
        | ok acc7 r7 =>
          have e8 := e7
          unfold cT at e8
          simp only [e8] at h
          have := comp_loopA (ca := ca) (tt := tT K ca WF cT) (te := tE K ca WF fe) (Qd := fun H' => i + 1 ≤ xs.length ∧ V (i + 1) H') (σ := σ4) (H1 := delH H4 A) (F1 := F4) (A := A) (acc0V := accV) hsub1 (fun _ _ _ z => z) (fun _ _ _ z => z) (p6.rp.del hF4 nA6) w4 (by unfold delH; rw [if_pos rfl]) (ql.mono (p3.f.trans p56.f)) ⟨_, _, e7⟩
            fun l r' H F accV' hl p2 hL2 hF2 ql2 => by
              rw [hl] at e7
              cases e7
              exact ⟨hlt, wipeS ow r7, F, acc7, accV', turn2_ps hsub hv p13 hA z p4 b4 p56 p2, hL2, hF2, ql2, h⟩
          rw [upd_del hL4] at this
          exact this
  · have e : xs.drop i = [] := List.drop_eq_nil_of_le (by omega)
    rw [e] at h
    simp only [compL2, R.ok.injEq] at h
    obtain ⟨rfl, rfl⟩ := h
    exact .inl ⟨w.stop (by omega) p.rp p.f, k _ _ H F accV hE p hL hF ql⟩
theorem compL2_exc {t t1 : Tg} {fi1 : St → R (List D)} {fe : St → R D} {ow ow1 : List Nat} {x : D} {r' : St} : ∀ (xs acc : List D) (r : St), compL2 t fi1 t1 fe ow ow1 xs acc r ≠ .exc x r'
  | [], acc, r => by simp [compL2]
  | y :: ys, acc, r => by
    simp only [compL2]
    split
    · split
      · split
        · exact compL2_exc ys _ _
        · simp
      · simp
    · simp
theorem o_comp2T {fi fi1 : St → R (List D)} {t t1 : Tg} {fe : St → R D} {ow ow1 : List Nat} (hsub : ∀ i ∈ t.is, i ∈ ow) (hsub1 : ∀ i ∈ t1.is, i ∈ ow1) (hv : ∀ i ∈ ow1, i ∈ ow) :
    ∀ σ H Q, tO' X.K ca W (compR2 fi t fi1 t1 fe ow ow1) σ H Q → tLc2 (tI X.K ca W fi) (gTg X.K t) (tT X.K ca WF cT) (tI X.K ca WF fi1) (gTg X.K t1) (tT X.K ca WF cT) (tE X.K ca WF fe) ow ow1 σ H Q := by
  intro σ H Q ⟨r, F, p, h⟩
  unfold compR2 at h
  refine ⟨r, F, p, ?_⟩
  cases e : fi r with
  | bad => rw [e] at h; exact h.elim
  | exc x r1 => rw [e] at h; exact h
  | ok xs r1 =>
    rw [e] at h
    intro J H1 F1 p1 w A hA
    simp only [R.bind] at h
    have ne : ∃ l r', compL2 t fi1 t1 fe ow ow1 xs [] (wipeS ow r1) = .ok l r' := by
      cases z : compL2 t fi1 t1 fe ow ow1 xs [] (wipeS ow r1) with
      | ok l r' => exact ⟨l, r', rfl⟩
      | bad => rw [z] at h; exact h.elim
      | exc x r' => exact absurd z (compL2_exc _ _ _)
    refine comp2_loop hsub hsub1 hv p1.rp w hA ne fun l r' H2 F2 accV hl p2 hL hF ql => ?_
    rw [hl] at h
    have nb : ∀ b, b ∈ [A] → True := fun _ _ => trivial
    -- the frame as it was
    have hlen : r'.length = r1.length := by rw [p2.rp.len, wipe_length, p1.rp.len]
    have inner : ∀ (i : Nat), i ∉ ow → (backS (ow) r1 r')[i]? = r'[i]? := fun i hi => backS_out hi
    have outer : ∀ (i : Nat), i ∈ ow → (backS (ow) r1 r')[i]? = r1[i]? := fun i hi => backS_in hi hlen
    have f2 : Same F1 F2 := p2.f
    have noIn : ∀ (i : Nat) l b, i ∈ ow → ownL r1[i]? = some l → σ[i]? = some (some (V.ref b)) → ¬ Own (wipeS (ow) r1) (wipe σ (ow)) b := fun i l b hi e z ⟨j, m, e', z'⟩ => by
      obtain ⟨hj, e'⟩ := wipeS_own e'
      rw [wipe_out hj] at z'
      have := p1.rp.apart i j l m b e e' z z'
      subst this
      exact hj hi
    have ownB : ∀ (i : Nat) l, ownL (backS (ow) r1 r')[i]? = some l → ∃ l', ownL r1[i]? = some l' := fun i l e => by
      by_cases hi : i ∈ ow
      · rw [outer i hi] at e; exact ⟨l, e⟩
      · rw [inner i hi] at e
        obtain ⟨l', e'⟩ := p2.sub i l e
        exact ⟨l', (wipeS_own e').2⟩
    have hAne : ∀ b u, H1 b = some u → b ≠ A := fun b u e => ne_of_none e hA
    have rp : Rp X.K (backS (ow) r1 r') σ (delH H2 A) F2 := by
      refine ⟨by rw [backS_len, hlen]; exact p1.rp.len, fun b u e => ?_, fun i d e => ?_, fun i l e => ?_, fun i j l m a e1 e2 z1 z2 => ?_⟩
      · have hb : b ≠ A := fun z => by subst z; rw [hF] at e; cases e
        unfold delH
        rw [if_neg hb]
        exact p2.rp.sub b u e
      · by_cases hi : i ∈ ow
        · rw [outer i hi] at e
          obtain ⟨v, e1, q⟩ := p1.rp.val i d e
          exact ⟨v, e1, q.mono f2⟩
        · rw [inner i hi] at e
          obtain ⟨v, e1, q⟩ := p2.rp.val i d e
          rw [wipe_out hi] at e1
          exact ⟨v, e1, q⟩
      · by_cases hi : i ∈ ow
        · rw [outer i hi] at e
          obtain ⟨b, vs, e1, e2, e3, q⟩ := p1.rp.own i l e
          have hn := noIn i l b hi e e1
          refine ⟨b, vs, e1, ?_, p2.n b _ e2 q.mtb hn e3, q.mono f2⟩
          unfold delH
          rw [if_neg (hAne b _ e2)]
          exact p2.h b _ e2 hn
        · rw [inner i hi] at e
          obtain ⟨b, vs, e1, e2, e3, q⟩ := p2.rp.own i l e
          rw [wipe_out hi] at e1
          obtain ⟨l', e'⟩ := p2.sub i l e
          obtain ⟨b', vs', z1, z2, _⟩ := p1.rp.own i l' (wipeS_own e').2
          rw [e1] at z1
          cases z1
          refine ⟨b, vs, e1, ?_, e3, q⟩
          unfold delH
          rw [if_neg (hAne b _ z2)]
          exact e2
      · obtain ⟨l1, y1⟩ := ownB i l e1
        obtain ⟨l2, y2⟩ := ownB j m e2
        exact p1.rp.apart i j l1 l2 a y1 y2 z1 z2
    have ps : Ps X.K r1 (backS (ow) r1 r') σ H1 F1 (delH H2 A) F2 := by
      refine ⟨rp, f2, fun b u e n => ?_, fun b u e m n z => p2.n b u e m (fun z => n (own_wipe z)) z, fun i l e => ownB i l e, fun i l e => ?_⟩
      · unfold delH
        rw [if_neg (hAne b u e)]
        exact p2.h b u e fun z => n (own_wipe z)
      · by_cases hi : i ∈ ow
        · rw [outer i hi] at e; exact ⟨l, e⟩
        · rw [inner i hi] at e
          obtain ⟨l', e'⟩ := p2.io i l e
          rw [wipeS_out hi] at e'
          exact ⟨l', e'⟩
    have fin := h A accV (delH H2 A) F2 (p1.trans ps) (by unfold delH; rw [if_pos rfl]) ql
    rw [upd_del hL] at fin
    exact fin
theorem o_comp2 {elt tg iter tg1 iter1 : Expr} {scope : Scope} {own : List (Str × Nat)} {ow1 : List Nat} {t t1 : Tg} {fi fi1 : St → R (List D)} {fe : St → R D} (hc : X.calm = true) (nd : X.N.Nodup) (hi : QI X ca W tg iter fi) (ok : BlkOk X.N X.env.scope scope own) (hv : ∀ i ∈ ow1, i ∈ own.map (·.2))
    (hg : ∀ (s : Shared) (H : Hp) (C : Addr) (cl : List (Str × Addr)) (fp : List Addr), PG (X.blk s H scope (compEnvC scope cl C X.env) fp) tg (gTg X.K t))
    (hi1 : ∀ (s : Shared) (H : Hp) (C : Addr) (cl : List (Str × Addr)) (fp : List Addr), PI (X.blk s H scope (compEnvC scope cl C X.env) fp) tg1 iter1 (tI X.K ca WF fi1))
    (hg1 : ∀ (s : Shared) (H : Hp) (C : Addr) (cl : List (Str × Addr)) (fp : List Addr), PG (X.blk s H scope (compEnvC scope cl C X.env) fp) tg1 (gTg X.K t1))
    (he : ∀ (s : Shared) (H : Hp) (C : Addr) (cl : List (Str × Addr)) (fp : List Addr), PE (X.blk s H scope (compEnvC scope cl C X.env) fp) elt (tE X.K ca WF fe))
    (hs : ∀ x, foldedSetIterable iter X.env x = pure x) (hs1 : ∀ env x, foldedSetIterable iter1 env x = pure x) (hsub : ∀ i ∈ t.is, i ∈ own.map (·.2)) (hsub1 : ∀ i ∈ t1.is, i ∈ ow1) :
    QO X ca W (.ListComp elt [⟨tg, iter, [], 0⟩, ⟨tg1, iter1, [], 0⟩] scope pos) (compR2 fi t fi1 t1 fe (own.map (·.2)) ow1) :=
  PE.weak (pe_lc2 hc nd hi ok hv hg (fun s H C cl fp => pts_no) hi1 hg1 (fun s H C cl fp => pts_no) he hs hs1) (o_comp2T hsub hsub1 hv)
end
end Z

/-! Z12: more expressions -/
namespace Z
open PySem PySem.Spec PyProof.Rows L2 TL

section
variable {X : Cx} {ca : Nat → Addr} {W : WX} {pos : Pos} {e a b : Expr} {f fa fb : St → R D}
theorem q_glo {x : Str} {v : V} {u : Value} {d : D} (hg : Gl X x) (hm : X.mg x = some u) (r : RelV v u) (hr : ∀ F, Rep X.K F d v) (hd : (x == ("__debug__" : Str)) = false) : QE X ca W (.Name x pos) (fun r => .ok d r) := q_con (pe_glob hg hm r hd) hr
/-! is True -/
theorem op_isB : OpR X (compareOp .Is) (fun x y H Q => ∃ i j, x = .bl i ∧ y = .bl j ∧ Q (.bl (i == j)) H) := by
  intro pins s σ H x y v u Q I rx ry h
  obtain ⟨i, j, rfl, rfl, q⟩ := h
  cases rx
  cases ry
  show wpAny _ _ ((isSame (.bool i) (.bool j)) >>= fun z => pure (Value.bool z)) _ _ s
  refine wpAny_bind (wpAny_isSame_plain rfl (wpAny_pure (fin_bl I ?_ rfl)))
  rw [show (Value.bool i == Value.bool j) = (i == j) by cases i <;> cases j <;> rfl]
  exact q
theorem q_isT {j : Nat} {p2 : Pos} (ha : QE X ca W a fa) : QE X ca W (.Compare a [.Is] [.Constant (.bool true) j p2] pos) (fun r => (fa r).bind fun x r => match x with | .bl b => .ok (.bl b) r | _ => .bad) := by
  refine PE.weak (pe_cmpR op_isB ha pe_bl rfl) fun σ H Q ⟨r, F, p, h⟩ => ⟨r, F, p, h.step fun x r1 v H1 F1 p1 q1 h => ?_⟩
  cases x with
  | bl b =>
    refine ⟨b, true, Rep.bl_iff.mp q1, rfl, h _ _ _ (Ps.refl p1.rp) (Rep.bl_iff.mpr ?_)⟩
    cases b <;> rfl
  | _ => exact h.elim
/-! text.index, text.join -/
theorem noBase {o : Expr} {name : Str} {env : Env} (h : (match o with | .Call _ _ _ _ => false | _ => true) = true) : attributeBase o name env (eval o env) = eval o env := by
  cases o <;> first | rfl | cases h
theorem six_occ {c k : Nat} {s : List Nat} (e0 : six c s = some k) : ∃ rest, Builtin.Str.occurrences (⟨s.toArray⟩ : Str) (⟨[c].toArray⟩ : Str) 0 (⟨s.toArray⟩ : Str).length 1 = k :: rest := by
  unfold six at e0
  split at e0
  · split at e0
    · rename_i hc; subst hc; cases e0; exact ⟨[], by decide +kernel⟩
    · split at e0
      · rename_i hc; subst hc; cases e0; exact ⟨[], by decide +kernel⟩
      · split at e0
        · rename_i hc; subst hc; cases e0; exact ⟨[], by decide +kernel⟩
        · cases e0
  · split at e0
    · rename_i hc; subst hc; cases e0; exact ⟨[], by decide +kernel⟩
    · split at e0
      · rename_i hc; subst hc; cases e0; exact ⟨[], by decide +kernel⟩
      · split at e0
        · rename_i hc; subst hc; cases e0; exact ⟨[], by decide +kernel⟩
        · cases e0
  · split at e0
    · rename_i hc; subst hc; cases e0; exact ⟨[], by decide +kernel⟩
    · split at e0
      · rename_i hc; subst hc; cases e0; exact ⟨[], by decide +kernel⟩
      · cases e0
  · cases e0
theorem mt_ix {s : List Nat} {y d : D} (e : Mt.f .index s y = some d) : ∃ c k, y = .str [c] ∧ six c s = some k ∧ d = .int (k : Nat) := by
  unfold Mt.f at e
  split at e <;> try contradiction
  rename_i c _
  obtain ⟨k, e1, e2⟩ := Option.map_eq_some_iff.mp e
  exact ⟨c, k, rfl, e1, e2.symm⟩
theorem mt_jn {s : List Nat} {y d : D} (e : Mt.f .join s y = some d) : ∃ l ss, y = .lst l ∧ strsOf l = some ss ∧ ((joinL s ss).length ≤ LINE ∧ (ss.map (·.length)).sum + ss.length * s.length ≤ LINE) ∧ d = .str (joinL s ss) := by
  unfold Mt.f at e
  split at e <;> try contradiction
  rename_i l _
  obtain ⟨ss, e1, e2⟩ := Option.bind_eq_some_iff.mp e
  split at e2
  · rename_i hl
    cases e2
    exact ⟨l, ss, rfl, e1, hl, rfl⟩
  · cases e2
theorem q_sindex {apos : Pos} (ha : QE X ca W a fa) (hb : QE X ca W b fb) (hs : noStar b = true) (hbase : attributeBase a "index" X.env (eval a X.env) = eval a X.env) (hline : (apos.endLine == pos.line) = true) :
    QE X ca W (.Call (.Attribute a "index" apos) [b] [] pos) (fun r => (fa r).bind fun x r => match x with
      | .str s => (fb r).bind fun y r => .of (Mt.f .index s y) r
      | _ => .bad) := by
  refine PE.weak (pe_m1 F.slot_str_index F.type_str_index mt_sindex ha hb (star_cons hs) hbase hline) fun σ H Q ⟨r, F, p, h⟩ => ⟨r, F, p, h.step fun x r1 v H1 F1 p1 q1 h => ?_⟩
  cases x with
  | str s =>
    obtain ⟨ev, o⟩ := Rep.str_iff.mp q1
    refine ⟨⟨_, ev⟩, r1, F1, p1.rp, h.step fun y r2 w H2 F2 p2 q2 h => ?_⟩
    cases e : Mt.f .index s y with
    | none => rw [e] at h; exact h.elim
    | some d =>
      rw [e] at h
      obtain ⟨c, k, rfl, e0, rfl⟩ := mt_ix e
      obtain ⟨ew, ow⟩ := Rep.str_iff.mp q2
      subst ev ew
      obtain ⟨rest, ho⟩ := six_occ e0
      exact ⟨_, _, k, rest, rfl, rfl, ho, h _ _ _ (Ps.refl p2.rp) (Rep.int_iff.mpr rfl)⟩
  | _ => exact h.elim
theorem joinS_eq (sep : List Nat) : ∀ ss : List (List Nat), Str.join (⟨sep.toArray⟩ : Str) (ss.map fun s => (⟨s.toArray⟩ : Str)) = ⟨(joinL sep ss).toArray⟩
  | [] => rfl
  | [s] => rfl
  | s :: t :: l => by
    show (⟨s.toArray⟩ : Str) ++ (⟨sep.toArray⟩ : Str) ++ Str.join (⟨sep.toArray⟩ : Str) ((t :: l).map fun s => (⟨s.toArray⟩ : Str)) = _
    rw [joinS_eq sep (t :: l), mk_app, mk_app]
    rfl
theorem joinL_eq (sep : List Nat) (ss : List (List Nat)) : Txt.join (⟨sep.toArray⟩ : Str) (ss.map fun s => (⟨s.toArray⟩ : Str)) = ⟨(joinL sep ss).toArray⟩ := by
  rw [join_eq, joinS_eq]
theorem joinL_ok {sep : List Nat} (h : ∀ c ∈ sep, c < 0x110000) : ∀ {ss : List (List Nat)}, (∀ s ∈ ss, ∀ c ∈ s, c < 0x110000) → ∀ c ∈ joinL sep ss, c < 0x110000
  | [], _, c, hc => by simp [joinL] at hc
  | [s], hs, c, hc => hs s (by simp) c (by simpa [joinL] using hc)
  | s :: t :: l, hs, c, hc => by
    simp only [joinL, List.mem_append] at hc
    rcases hc with (hc | hc) | hc
    · exact hs s (by simp) c hc
    · exact h c hc
    · exact joinL_ok h (fun u hu => hs u (List.mem_cons_of_mem _ hu)) c hc
theorem q_join {apos : Pos} (ha : QE X ca W a fa) (hb : QE X ca W b fb) (hs : noStar b = true) (hbase : attributeBase a "join" X.env (eval a X.env) = eval a X.env) (hline : (apos.endLine == pos.line) = true) :
    QE X ca W (.Call (.Attribute a "join" apos) [b] [] pos) (fun r => (fa r).bind fun x r => match x with
      | .str s => (fb r).bind fun y r => .of (Mt.f .join s y) r
      | _ => .bad) := by
  refine PE.weak (pe_join ha hb (star_cons hs) hbase hline) fun σ H Q ⟨r, F, p, h⟩ => ⟨r, F, p, h.step fun x r1 v H1 F1 p1 q1 h => ?_⟩
  cases x with
  | str s =>
    obtain ⟨ev, o⟩ := Rep.str_iff.mp q1
    refine ⟨⟨_, ev⟩, r1, F1, p1.rp, h.step fun y r2 w H2 F2 p2 q2 h => ?_⟩
    cases e : Mt.f .join s y with
    | none => rw [e] at h; exact h.elim
    | some d =>
      rw [e] at h
      obtain ⟨l, ss, rfl, e1, hl, rfl⟩ := mt_jn e
      obtain ⟨q, vs, ew, s1, z1⟩ := Rep.lst_iff.mp q2
      obtain ⟨e3, e4⟩ := strs_vals e1 z1
      subst ev ew e3
      refine ⟨_, q, ss.map fun s => (⟨s.toArray⟩ : Str), rfl, rfl, .inl (SqL.up p2.rp.sub s1), ?_, ?_⟩
      · have : (((ss.map fun s => (⟨s.toArray⟩ : Str)).map (·.length)).sum + (ss.map fun s => (⟨s.toArray⟩ : Str)).length * (⟨s.toArray⟩ : Str).length) = (ss.map (·.length)).sum + ss.length * s.length := by
          rw [List.map_map, List.length_map, len_mk]
          congr 2
        rw [this]
        exact hl.2
      · rw [joinL_eq]
        refine h _ _ _ (Ps.refl p2.rp) (Rep.str_iff.mpr ⟨rfl, ?_, hl.1⟩)
        simp only [List.all_eq_true, decide_eq_true_eq]
        exact joinL_ok (by simpa using o.1) fun t ht => by simpa using (e4 t ht).1
  | _ => exact h.elim
/-! a written dict, looked into -/
theorem noSl (h : noSlice a = true) : NoSl a := by
  intro o i
  cases a <;> first | rfl | cases h
/-- f(k = v, ..), all parameters by name -/
def gK (n : Nat) (ks : List Nat) {α : Type} (z : α) (us ws : List α) : List α := if us.length = 0 ∧ ws.length = n then ks.map fun k => ws.getD k z else []
theorem vals_getD : ∀ {zs : List V} {ws : List Value} {k : Nat}, Vals zs ws → RelV (zs.getD k .non) (ws.getD k .none)
  | _, _, _, .nil => by simp; rfl
  | _, _, 0, .cons r _ => by simpa using r
  | _, _, k + 1, .cons _ t => by simpa using vals_getD (k := k) t
theorem gK_rel {n : Nat} {ks : List Nat} {vs zs : List V} {us ws : List Value} (h1 : Vals vs us) (h2 : Vals zs ws) : Vals (gK n ks .non vs zs) (gK n ks .none us ws) := by
  unfold gK
  rw [h1.length, h2.length]
  split
  · induction ks with
    | nil => exact .nil
    | cons k ks ih => exact .cons (vals_getD h2) ih
  · exact .nil

section
variable {n k0 : Nat} {ks : List Nat} {nms : List Str} {f0 : Addr} {fd : FuncData} {ps : List Str} {x : Str} {c : List Slot → CR} {kws : List Keyword} {fs : St → R (List D)} {p : Pos}
abbrev QK (X : Cx) (ca : Nat → Addr) (W : WX) (kws : List Keyword) (f : St → R (List D)) : Prop := PK X kws (tAs X.K ca W f)
theorem PK.weak {t t' : TA} (h : PK X kws t) (w : ∀ σ H Q, t' σ H Q → t σ H Q) : PK X kws t' := ⟨fun pos pins s σ H Q I q => h.run pos pins s σ H Q I (w σ H Q q)⟩
theorem qk_nil : QK X ca W [] (fun r => .ok [] r) := PK.weak pk_nil fun σ H Q ⟨r, F, p, h⟩ => h [] H F (Ps.refl p) Reps.nil
theorem qk_cons {nm : Option Str} {kpos : Pos} {e : Expr} {f : St → R D} {g : St → R (List D)} (h1 : QE X ca W e f) (h2 : QK X ca W kws g) : QK X ca W (⟨nm, e, kpos⟩ :: kws) (fun r => (f r).bind fun d r => (g r).bind fun l r => .ok (d :: l) r) := by
  refine PK.weak (pk_cons h1 h2) fun σ H Q ⟨r, F, p, h⟩ => ⟨r, F, p, h.step fun x r1 v H1 F1 p1 q1 h => ⟨r1, F1, p1.rp, h.step fun l r2 vs H2 F2 p2 q2 h => ?_⟩⟩
  exact h _ _ _ (Ps.refl p2.rp) (Reps.cons (q1.mono p2.f) q2)
theorem kw_all {env : Env} (h : kws.all (·.arg.isSome) = true) : (backToKw pos (keywordEach kws env)).all (·.1.isSome) = true ∧ (backToKw pos (keywordEach kws env)).filterMap (·.1) = kws.filterMap (·.arg) ∧ (backToKw pos (keywordEach kws env)).any (·.1.isNone) = false := by
  induction kws with
  | nil => exact ⟨rfl, rfl, rfl⟩
  | cons k kws ih =>
    simp only [List.all_cons, Bool.and_eq_true] at h
    obtain ⟨a, b, c⟩ := ih h.2
    obtain ⟨nm, e, kp⟩ := k
    cases nm with
    | none => cases h.1
    | some nm =>
      refine ⟨?_, ?_, ?_⟩
      · show ((some nm : Option Str).isSome && (backToKw pos (keywordEach kws env)).all (·.1.isSome)) = true
        rw [a]; rfl
      · show nm :: (backToKw pos (keywordEach kws env)).filterMap (·.1) = _
        rw [b]; rfl
      · show ((some nm : Option Str).isNone || (backToKw pos (keywordEach kws env)).any (·.1.isNone)) = false
        rw [c]; rfl
theorem reps_perm {K : PySem.W.Frag} {F : Hp} {l : List D} {vs : List V} (h : Reps K F l vs) (ks : List Nat) : Reps K F (ks.map fun k => l.getD k .non) (ks.map fun k => vs.getD k .non) := by
  induction ks with
  | nil => exact Reps.nil
  | cons k ks ih =>
    refine Reps.cons ?_ ih
    show Rep K F (l.getD k D.non) (vs.getD k V.non)
    cases e : l[k]? with
    | none =>
      have e2 : vs[k]? = none := by rw [List.getElem?_eq_none_iff] at e ⊢; rw [← h.length]; exact e
      rw [List.getD_eq_getElem?_getD, List.getD_eq_getElem?_getD, e, e2]
      exact Rep.non_iff.mpr rfl
    | some d =>
      obtain ⟨v, e2, q⟩ := h.get e
      rw [List.getD_eq_getElem?_getD, List.getD_eq_getElem?_getD, e, e2]
      exact q
theorem q_callk (FO : FnOk X.prog X.w X.K X.mg X.base (L2.CX X.prog X.w) k0 f0 fd ps (SpOf X.K ca ps.length c)) (hr : Room k0 X.A) (hg : Gl X x) (hm : X.mg x = some (.ref f0)) (hk : PySem.W.keepIn X.K (.ref f0) = true)
    (hb : KBinds X.K fd ps nms (gK n ks .none) (gK n ks .non)) (hd : (x == ("__debug__" : Str)) = false) (ha : QK X ca W kws fs) (hall : kws.all (·.arg.isSome) = true) (hnm : kws.filterMap (·.arg) = nms) (hlen : ∀ r l r', fs r = .ok l r' → l.length = n) (hks : ks.length = ps.length) :
    QE X ca W (.Call (.Name x p) [] kws pos) (fun r => (fs r).bind fun l r => (c (ks.map fun k => .val (l.getD k .non))).valK r) := by
  obtain ⟨k1, k2, k3⟩ := kw_all (pos := pos) (env := X.env) hall
  refine ⟨fun pins s σ H Q I ⟨r, F, q, h⟩ => ?_⟩
  refine wpAny_Call_Name_kw (ld_glob I hg hm ?_ hd)
  refine PySem.W.callWith_KW0 (h₀ := X.base) I.ok.mod.kin hk k1 (thn (ha.run pos pins s σ H (fun zs H2 => SpOf X.K ca ps.length c (gK n ks .non [] zs) H2 Q (fun _ _ _ => False)) I ⟨r, F, q, ?_⟩) fun ws s2 ⟨zs, H2, I2, rz, q2⟩ => ⟨I2.kIn, ?_⟩) (by rw [k3]; rfl)
  · dsimp only at h
    cases e1 : fs r with
    | bad => rw [e1] at h; exact h.elim
    | exc y r1 => rw [e1] at h; exact h
    | ok l r1 =>
      rw [e1] at h
      intro vs H1 F1 p1 q1
      have h := Fi.shift p1 h
      dsimp only [R.bind] at h
      have hl : l.length = n := hlen r l r1 e1
      have eg : gK n ks V.non [] vs = ks.map fun k => vs.getD k .non := by
        unfold gK
        rw [if_pos ⟨rfl, by rw [← q1.length]; exact hl⟩]
      rw [eg]
      have q2 := reps_perm q1 ks
      have es : (ks.map fun k => Slot.val (l.getD k .non)) = (ks.map fun k => l.getD k .non).map .val := by rw [List.map_map]; rfl
      rw [es] at h
      refine ⟨(ks.map fun k => l.getD k .non).map .val, F1, by rw [List.length_map]; exact hks, vals_rp p1.rp.sub q2, fun i m z => ?_, fun i m z => ?_, ?_⟩
      · exact vals_noL (i := i) (m := m) (by rw [z]; rfl)
      · exact absurd (show ownL ((ks.map fun k => l.getD k .non).map Slot.val)[i]? = some m by rw [z]; rfl) vals_noL
      · cases e2 : c ((ks.map fun k => l.getD k .non).map .val) with
        | bad => rw [e2] at h; exact h.elim
        | ret d o =>
          rw [e2] at h
          exact fun v H' F' pc q => h v H' F' (Pc.ps p1.rp pc) q
        | exc y o => rw [e2] at h; exact h.elim
  · rw [k2, hnm]
    exact run_fnk (us := []) (vs := []) FO hr hb (fun _ _ _ _ _ _ _ ⟨_, _, _, _, _, _, _, _, _, _, _, _, z⟩ => z.elim) I2 .nil rz q2
end
/-! a written dict, looked into -/
section
def cvD : D → V
  | .int i => .int i
  | .str s => SV s
  | _ => .non
def cOk : D → Bool
  | .int _ => true
  | .str s => s.all (· < 0x110000) && decide (s.length ≤ 100)
  | _ => false
theorem cvD_rep {K : PySem.W.Frag} {F : Hp} {d : D} (h : cOk d = true) : Rep K F d (cvD d) := by
  cases d <;> first | (simp [cOk] at h; done) | skip
  · exact Rep.int_iff.mpr rfl
  · simp only [cOk, Bool.and_eq_true, decide_eq_true_eq] at h
    exact Rep.str_iff.mpr ⟨rfl, h.1, by have := h.2; unfold LINE; omega⟩
def dV (ks : List (List Nat)) (ds : List D) : List (Key × V) := (ks.zip ds).map fun q => (.inr ⟨q.1.toArray⟩, cvD q.2)
theorem dlook_none : ∀ {ks : List (List Nat)} {ds : List D} {s : List Nat}, s ∉ ks → dlook ks ds s = none
  | [], _, _, _ => by unfold dlook; rfl
  | k :: ks, [], _, _ => by unfold dlook; rfl
  | k :: ks, v :: vs, s, h => by
    simp only [List.mem_cons, not_or] at h
    simp only [dlook, if_neg h.1]
    exact dlook_none h.2
theorem key_inj {s k : List Nat} (h : (Sum.inr (⟨s.toArray⟩ : Str) : Key) = Sum.inr ⟨k.toArray⟩) : s = k := by
  simp only [Sum.inr.injEq] at h
  have := congrArg Str.cps h
  simpa using this
theorem valV_dV : ∀ {ks : List (List Nat)} {ds : List D} {acc : List (Key × V)} {s : List Nat}, ks.Nodup → valV (mergeK acc (dV ks ds)) (.inr ⟨s.toArray⟩) = ((dlook ks ds s).map cvD).or (valV acc (.inr ⟨s.toArray⟩))
  | [], ds, acc, s, _ => by simp [dV, dlook, mergeK]
  | k :: ks, [], acc, s, _ => by simp [dV, dlook, mergeK]
  | k :: ks, v :: vs, acc, s, h => by
    have ih := valV_dV (ks := ks) (ds := vs) (acc := putK acc (.inr ⟨k.toArray⟩) (cvD v)) (s := s) (List.nodup_cons.mp h).2
    show valV (mergeK (putK acc (.inr ⟨k.toArray⟩) (cvD v)) (dV ks vs)) _ = _
    rw [ih, valV_put]
    by_cases hs : s = k
    · subst hs
      rw [dlook_none (List.nodup_cons.mp h).1, if_pos rfl]
      simp [dlook]
    · rw [if_neg fun z => hs (key_inj z)]
      simp only [dlook, if_neg hs]
/-- the display's text -/
def keyB : Option Expr → List Nat → Bool
  | some (.Constant (.str k) _ _), s => k == ⟨s.toArray⟩
  | _, _ => false
theorem keyB_ok {o : Option Expr} {s : List Nat} (h : keyB o s = true) : ∃ j p, o = some (.Constant (.str ⟨s.toArray⟩) j p) := by
  unfold keyB at h
  split at h
  · rw [eq_of_beq h]; exact ⟨_, _, rfl⟩
  · cases h
def valB : Expr → D → Bool
  | .Constant (.int i) _ _, .int j => i == j
  | .Constant (.str x) _ _, .str y => x == ⟨y.toArray⟩
  | _, _ => false
theorem valB_ok {v : Expr} {d : D} (h : valB v d = true) : PE X v (tC (cvD d)) := by
  unfold valB at h
  split at h
  · rw [eq_of_beq h]; exact pe_int
  · rw [eq_of_beq h]; exact pe_str
  · cases h
def dictB : List (Option Expr) → List Expr → List (List Nat) → List D → Bool
  | [], [], [], [] => true
  | o :: es, v :: vs, s :: ks, d :: ds => keyB o s && cOk d && valB v d && dictB es vs ks ds
  | _, _, _, _ => false
def dTr (ks : List (List Nat)) (ds : List D) : List (TE × TE) := (ks.zip ds).map fun q => (tC (.str ⟨q.1.toArray⟩), tC (cvD q.2))
theorem pps_dict {pos : Pos} : ∀ {es : List (Option Expr)} {vs : List Expr} {ks : List (List Nat)} {ds : List D}, dictB es vs ks ds = true → PPs X pos es vs (dTr ks ds) ∧ es.all (·.isSome) = true ∧ es.length = vs.length ∧ es.length = ks.length ∧ ks.length = ds.length ∧ ds.all cOk = true
  | [], [], [], [], _ => ⟨pps_nil, rfl, rfl, rfl, rfl, rfl⟩
  | o :: es, v :: vs, s :: ks, d :: ds, h => by
    simp only [dictB, Bool.and_eq_true] at h
    obtain ⟨⟨⟨h1, h2⟩, h3⟩, h4⟩ := h
    obtain ⟨a1, a2, a3, a4, a5, a6⟩ := pps_dict h4
    obtain ⟨j, p, rfl⟩ := keyB_ok h1
    exact ⟨pps_cons pe_str (valB_ok h3) a1, by simpa using a2, by simp [a3], by simp [a4], by simp [a5], by simp only [List.all_cons, h2, a6]; rfl⟩
  | [], [], [], _ :: _, h | [], [], _ :: _, _, h | [], _ :: _, _, _, h | _ :: _, [], _, _, h | _ :: _, _ :: _, [], _, h | _ :: _, _ :: _, _ :: _, [], h => by simp [dictB] at h
theorem tPairs_dict {σ : L2.St} {H : Hp} : ∀ {ks : List (List Nat)} {ds : List D} {Q : List (V × V) → Hp → Prop}, Q ((dV ks ds).map fun kv => (kV kv.1, kv.2)) H → tPairs (dTr ks ds) σ H Q
  | [], _, Q, h => h
  | _ :: _, [], Q, h => h
  | k :: ks, d :: ds, Q, h => tPairs_dict (ks := ks) (ds := ds) (Q := fun ps H => Q ((.str ⟨k.toArray⟩, cvD d) :: ps) H) h
/-- a new object that is none of the data -/
theorem Rp.newH {K : PySem.W.Frag} {r : St} {σ : L2.St} {H F : Hp} (p : Rp K r σ H F) {a : Addr} {o : HO} (h : H a = none) : Ps K r r σ H F (upd H a o) F := by
  have hF : F a = none := p.sub.free h
  refine ⟨⟨p.len, fun b u e => ?_, p.val, fun i l e => ?_, p.apart⟩, fun _ _ e => e, fun b u e _ => Same.upd h b u e, fun b u e _ _ n => n, fun i l e => ⟨l, e⟩, fun i l e => ⟨l, e⟩⟩
  · have hb : b ≠ a := fun z => by subst z; rw [hF] at e; cases e
    rw [upd_ne hb]
    exact p.sub b u e
  · obtain ⟨b, vs, e1, e2, e3, q⟩ := p.own i l e
    exact ⟨b, vs, e1, by rw [upd_ne (ne_of_none e2 h)]; exact e2, e3, q⟩
theorem disp_at {σ : L2.St} {H : Hp} {ks : List (List Nat)} {ds : List D} {Q : VK} (h15 : ks.length ≤ 15) (h : ∀ p, H p = none → Q (.ref p) (upd H p (.dK (mergeK [] (dV ks ds))))) : tDisp (dTr ks ds) σ H Q := by
  intro p hp
  refine tPairs_dict ⟨upd_same, dV ks ds, rfl, ?_, ?_⟩
  · unfold dV
    rw [List.length_map, List.length_zip]
    omega
  · have e : upd (upd H p (.dK [])) p (.dK (mergeK [] (dV ks ds))) = upd H p (.dK (mergeK [] (dV ks ds))) := by
      funext b
      by_cases hb : b = p
      · subst hb; rw [upd_same, upd_same]
      · rw [upd_ne hb, upd_ne hb, upd_ne hb]
    rw [e]
    exact h p hp
theorem look_rep {K : PySem.W.Frag} {F : Hp} {ks : List (List Nat)} {ds : List D} {s : List Nat} {d : D} (h : ds.all cOk = true) (e : dlook ks ds s = some d) : Rep K F d (cvD d) := by
  induction ks generalizing ds with
  | nil => simp [dlook] at e
  | cons k ks ih =>
    cases ds with
    | nil => simp [dlook] at e
    | cons v vs =>
      simp only [List.all_cons, Bool.and_eq_true] at h
      simp only [dlook] at e
      split at e
      · cases e; exact cvD_rep h.1
      · exact ih h.2 e
variable {es : List (Option Expr)} {vs : List Expr} {ks : List (List Nat)} {ds : List D} {p2 : Pos}
theorem q_dsub (hu : X.A.units + 1 < cLine) (hd : dictB es vs ks ds = true) (hne : es ≠ []) (h15 : ks.length ≤ 15) (nd : ks.Nodup) (ha : QE X ca W a fa) (hs : noSlice a = true) :
    QE X ca W (.Subscript (.Dict es vs p2) a pos) (fun r => (fa r).bind fun x r => match x with
      | .str s => .of (dlook ks ds s) r
      | _ => .bad) := by
  obtain ⟨a1, a2, a3, a4, a5, a6⟩ := pps_dict (X := X) (pos := p2) hd
  refine PE.weak (pe_dget hu (pe_disp a1 a2 a3 hne (by omega)) ha (noSl hs)) fun σ H Q ⟨r, F, p, h⟩ => disp_at h15 fun q hq => ⟨r, F, (p.newH hq).rp, Fi.step (Fi.shift (p.newH hq) h) fun x r1 v H1 F1 p1 q1 h => ?_⟩
  cases x with
  | str s =>
    dsimp only at h
    cases e : dlook ks ds s with
    | none => rw [e] at h; exact h.elim
    | some d =>
      rw [e] at h
      have no : ¬ Own r σ q := fun z => by obtain ⟨_, vs, z, _⟩ := p.ownNo z; rw [hq] at z; cases z
      refine ⟨q, cvD d, rfl, .inl ⟨_, .inr ⟨s.toArray⟩, Rd.of (p1.h q _ upd_same no), (Rep.str_iff.mp q1).1, ?_⟩, h _ _ _ (Ps.refl p1.rp) (look_rep a6 e)⟩
      rw [valV_dV nd, e]
      rfl
  | _ => exact h.elim
/-- a dict of the module, looked into -/
theorem q_dtab {y : Str} {py : Pos} {m : Addr} (hg : Gl X y) (hm : X.mg y = some (.ref m)) (hy : (y == ("__debug__" : Str)) = false) (ht : ∀ s d, dlook ks ds s = some d → KDct X.K X.w m ⟨s.toArray⟩ (cvD d) ∧ cOk d = true) (ha : QE X ca W a fa) (hs : noSlice a = true) :
    QE X ca W (.Subscript (.Name y py) a pos) (fun r => (fa r).bind fun x r => match x with
      | .str s => .of (dlook ks ds s) r
      | _ => .bad) := by
  refine PE.weak (pe_ix ix_kdict (pe_glob hg hm (v := .ref m) rfl hy) ha (plainIx hs)) fun σ H Q ⟨r, F, p, h⟩ => ?_
  refine ⟨r, F, p, Fi.step h fun x r1 v H1 F1 p1 q1 h => ?_⟩
  cases x with
  | str s =>
    dsimp only at h
    cases e : dlook ks ds s with
    | none => rw [e] at h; exact h.elim
    | some d =>
      rw [e] at h
      obtain ⟨k1, k2⟩ := ht s d e
      exact ⟨m, _, _, rfl, (Rep.str_iff.mp q1).1, k1, h _ _ _ (Ps.refl p1.rp) (cvD_rep k2)⟩
  | _ => exact h.elim
theorem q_dget {b : Expr} {fb : St → R D} {apos : Pos} (hu : X.A.units + 1 < cLine) (hd : dictB es vs ks ds = true) (hne : es ≠ []) (h15 : ks.length ≤ 15) (nd : ks.Nodup) (ha : QE X ca W a fa) (hb : QE X ca W b fb) (hs : noStar a = true) (hs2 : noStar b = true) (hline : (apos.endLine == pos.line) = true) :
    QE X ca W (.Call (.Attribute (.Dict es vs p2) "get" apos) [a, b] [] pos) (fun r => (fa r).bind fun x r => (fb r).bind fun y r => match x with
      | .str s => .ok ((dlook ks ds s).getD y) r
      | _ => .bad) := by
  obtain ⟨a1, a2, a3, a4, a5, a6⟩ := pps_dict (X := X) (pos := p2) hd
  have st : starEach [a, b] X.env = [(false, eval a X.env), (false, eval b X.env)] := by rw [star_cons hs, star_cons hs2]; rfl
  have m : M2 X (.Dict es vs p2) "get" apos a b pos := ⟨rfl, by rw [st]; rfl, hline, by rw [st]; rfl⟩
  refine PE.weak (pe_dget2 hu (pe_disp a1 a2 a3 hne (by omega)) ha hb m) fun σ H Q ⟨r, F, p, h⟩ => disp_at h15 fun q hq => ⟨q, rfl, .inl ⟨_, Rd.of upd_same⟩, r, F, (p.newH hq).rp, Fi.step (Fi.shift (p.newH hq) h) fun x r1 v H1 F1 p1 q1 h => ⟨r1, F1, p1.rp, Fi.step h fun y r2 w H2 F2 p2 q2 h => ?_⟩⟩
  cases x with
  | str s =>
    dsimp only at h
    have no : ¬ Own r σ q := fun z => by obtain ⟨_, vs, z, _⟩ := p.ownNo z; rw [hq] at z; cases z
    have no1 : ¬ Own r1 σ q := fun z => no (p1.ownSub z)
    refine ⟨valV (mergeK [] (dV ks ds)) (.inr ⟨s.toArray⟩), .inl ⟨_, .inr ⟨s.toArray⟩, Rd.of (p2.h q _ (p1.h q _ upd_same no) no1), (Rep.str_iff.mp q1).1, rfl⟩, ?_⟩
    rw [valV_dV nd]
    cases e : dlook ks ds s with
    | none => rw [e] at h; exact h _ _ _ (Ps.refl p2.rp) q2
    | some d => rw [e] at h; exact h _ _ _ (Ps.refl p2.rp) (look_rep a6 e)
  | _ => exact h.elim
end
end
end Z

/-! ZS: sorted(list, key = a def of one's own whose values are ints), any length -/
namespace Z
open PySem PySem.Spec PyProof.Rows L2 TL

/-- what the sort gives: the items in the order of their keys -/
def KOut (kz : List Int) (vs out : List Value) : Prop := ∃ zs : List (Int × Value), zs.Perm (kz.zip vs) ∧ out = zs.map Prod.snd ∧ zs.Pairwise (fun p q => p.1 ≤ q.1)
section
variable {prog : Program} {w : World} {A : Around} {E : Value → Shared → Prop} {s : Shared}
theorem kout_of {keys : Array Value} {kz : List Int} {vs : List Value} {xs : Array Keyed} (hk : IntsAre keys.toList kz) (hl : kz.length = vs.length) (hs : SrtO.Srtd (SrtO.lt2 SrtO.ltIv) xs.toList) (hp : xs.toList.Perm (keys.toList.zip vs)) :
    KOut kz vs (xs.map (·.2)).toList := by
  refine ⟨xs.toList.map fun p => (SrtO.iv p.1, p.2), ?_, by rw [Array.toList_map, List.map_map]; rfl, ?_⟩
  · have e : kz.zip vs = (keys.toList.zip vs).map fun p => (SrtO.iv p.1, p.2) := by
      rw [← SrtO.iv_ints hk, List.zip_map_left]
      rfl
    rw [e]
    exact hp.map _
  · exact List.pairwise_map.mpr (hs.imp fun {x y} h => Int.not_lt.mp (of_decide_eq_false (p := SrtO.iv y.1 < SrtO.iv x.1) h))
/-- the sort itself, behind the keys -/
theorem key_end {a kS : Addr} {vs : List Value} {kz : List Int} {keys : Array Value} {e e1 : Nat} {P : PySem.Fin → Shared → Prop} (hne : kS ≠ a) (hk : IntsAre keys.toList kz) (hl : kz.length = vs.length) (hz : vs.length ≤ sizeLine)
    (o1 : s.heap.get? kS = some (seqObj "list" keys e)) (o2 : s.heap.get? a = some (seqObj "list" #[] e1))
    (h : ∀ h' out c, (∀ b o, b ≠ kS → b ≠ a → s.heap.get? b = some o → h'.get? b = some o) → h'.get? a = some (seqObj "list" out c) → (∃ o, h'.get? kS = some o) → KOut kz vs out.toList → P (.done (.ret .none)) { s with heap := h' }) :
    wpAny (model prog w) A (ksk_end a false vs.toArray e1 (.ref kS) keys) P E s := by
  have hsz : keys.size = vs.length := by
    have h1 := hk.length
    rw [Array.length_toList] at h1
    omega
  have hzs : (keys.zip vs.toArray).size = vs.length := by rw [Array.size_zip, hsz, List.size_toArray, Nat.min_self]
  have hzl : (keys.zip vs.toArray).toList = keys.toList.zip vs := ksk_zip keys vs
  have fin : ∀ st : SortSt, SrtO.Srtd (SrtO.lt2 SrtO.ltIv) (arrOf st).toList → (arrOf st).toList.Perm (keys.toList.zip vs) → failedOf st = none → wpAny (model prog w) A (ksk_tail a false e1 (.ref kS) st) P E s := by
    intro st h1 h2 h3
    have hout : ((arrOf st).map (·.2)).size = vs.length := by
      rw [Array.size_map, ← Array.length_toList, h2.length_eq, List.length_zip, Array.length_toList, hsz, Nat.min_self]
    have s1 := Heap.SameBut.update s.heap kS (Obj.mapSeq fun _ => (#[] : Array Value))
    have na1 : (s.heap.update kS (Obj.mapSeq fun _ => (#[] : Array Value))).get? a = some (seqObj "list" #[] e1) := (s1.2 a (Ne.symm hne)).trans o2
    have s2 := Heap.SameBut.update (s.heap.update kS (Obj.mapSeq fun _ => (#[] : Array Value))) a (Obj.mapSeq fun _ => (arrOf st).map (·.2))
    obtain ⟨c1, hc1⟩ : ∃ c1, (s.heap.update kS (Obj.mapSeq fun _ => (#[] : Array Value))).get? kS = some (seqObj "list" #[] c1) := ⟨_, get?_update_seq o1 fun _ => #[]⟩
    obtain ⟨c2, hc2⟩ : ∃ c2, ((s.heap.update kS (Obj.mapSeq fun _ => (#[] : Array Value))).update a (Obj.mapSeq fun _ => (arrOf st).map (·.2))).get? a = some (seqObj "list" ((arrOf st).map (·.2)) c2) :=
      ⟨_, get?_update_seq na1 fun _ => (arrOf st).map (·.2)⟩
    unfold ksk_tail
    try dsimp only
    refine wpAny_bind (listUpdate_at o1 rfl ?_ (by rw [hsz]; omega) (Nat.zero_le _))
    refine wpAny_bind (wpAny_letGo ?_)
    refine wpAny_bind (seqEpoch_at na1 rfl ?_)
    refine wpAny_bind (listUpdate_at na1 rfl ?_ (Nat.zero_le _) (Nat.le_trans (Nat.le_of_eq hout) (by omega)))
    rw [h3]
    simp only [bne_self_eq_false, Bool.false_eq_true, if_false]
    exact wpAny_pure (h _ _ c2 (fun b o hb1 hb2 q => (s2.2 b hb2).trans ((s1.2 b hb1).trans q)) hc2 ⟨_, (s2.2 kS hne).trans hc1⟩ (kout_of hk hl h1 h2))
  unfold ksk_end
  try dsimp only
  rw [if_neg (by decide)]
  have ez : (if false = true then (keys.zip vs.toArray).reverse else keys.zip vs.toArray) = keys.zip vs.toArray := if_neg (by decide)
  by_cases h2 : vs.toArray.size < 2
  · rw [if_pos h2, if_pos h2]
    refine wpAny_bind (wpAny_pure ?_)
    rw [StateT.run_pure]
    refine wpAny_bind (wpAny_pure ?_)
    try dsimp only
    refine fin (SortSt.mk' general' (if false = true then (keys.zip vs.toArray).reverse else keys.zip vs.toArray) #[] 7 none) ?_ ?_ rfl
    · show SrtO.Srtd _ (if false = true then (keys.zip vs.toArray).reverse else keys.zip vs.toArray).toList
      rw [ez, hzl]
      rw [List.size_toArray] at h2
      have : (keys.toList.zip vs).length < 2 := by rw [List.length_zip, Array.length_toList, hsz, Nat.min_self]; exact h2
      match keys.toList.zip vs, this with
      | [], _ => exact List.Pairwise.nil
      | [v], _ => exact List.pairwise_singleton _ _
    · show (if false = true then (keys.zip vs.toArray).reverse else keys.zip vs.toArray).toList.Perm _
      rw [ez, hzl]
  · rw [if_neg h2, if_neg h2]
    rw [List.size_toArray] at h2
    rw [ksk_kind hk (by rw [hsz]; omega)]
    refine wpAny_bind (wpAny_pure ?_)
    have hall : SrtO.AllL (fun p : Keyed => p.1 ∈ keys.toList) (arrOf (SortSt.mk' oneType' (if false = true then (keys.zip vs.toArray).reverse else keys.zip vs.toArray) #[] 7 none)).toList := by
      intro p hm
      have hm : p ∈ (if false = true then (keys.zip vs.toArray).reverse else keys.zip vs.toArray).toList := hm
      rw [ez, hzl] at hm
      obtain ⟨x, y⟩ := p
      exact (List.of_mem_zip hm).1
    refine wpAny_bind (wpAny_mono (SrtO.wpS_sortO (st0 := SortSt.mk' oneType' (if false = true then (keys.zip vs.toArray).reverse else keys.zip vs.toArray) #[] 7 none)
      (Q := fun _ st' => SrtO.Srtd (SrtO.lt2 SrtO.ltIv) (arrOf st').toList ∧ (arrOf st').toList.Perm (keys.toList.zip vs) ∧ failedOf st' = none) (SrtO.swo2 SrtO.swo_int) (SrtO.int_cmp hk) rfl hall rfl rfl fun st' a1 a2 a3 => ⟨a1, ?_, a3⟩) ?_ fun _ _ e => e)
    · have p := a2.perm
      have e : (arrOf (SortSt.mk' oneType' (if false = true then (keys.zip vs.toArray).reverse else keys.zip vs.toArray) #[] 7 none)).toList = keys.toList.zip vs := by
        show (if false = true then (keys.zip vs.toArray).reverse else keys.zip vs.toArray).toList = _
        rw [ez, hzl]
      rw [e] at p
      exact p
    · rintro ⟨⟨⟩, st'⟩ s' ⟨rfl, h1, h2, h3⟩
      exact fin st' h1 h2 h3
end
end Z

/-! ZS2: the rule of sorted(list, key = a def of one's own) -/
namespace Z
open PySem PySem.Spec PyProof.Rows L2 TL

section
variable {X : Cx} {pins : List (Addr × Obj)} {σ : L2.St} {H : Hp} {A : Around} {E : Value → Shared → Prop}
theorem fp_to {H H' : Hp} {b : Addr} (f : FpOk X pins H b) (h : H' b = none) : FpOk X pins H' b := ⟨h, f.2⟩
theorem key_sort {s : Shared} {a f : Addr} {xs : List V} {vs : List Value} {kz : List Int} {n k : Nat} {fd : FuncData} {p : Str} {sp : Sp} {J : Nat → Hp → Prop} {P : PySem.Fin → Shared → Prop}
    (I : Inv X pins σ H s) (fa : FpOk X pins H a) (ho : s.heap.get? a = some (seqObj "list" vs.toArray n)) (rv : Vals xs vs) (hz : vs.length ≤ sizeLine) (hl : kz.length = vs.length)
    (hA : A.frames = some X.stack) (hr : Room k A) (FO : FnOk X.prog X.w X.K X.mg X.base (L2.CX X.prog X.w) k f fd [p] sp) (hb : Binds X.K fd [p] [])
    (h0 : J 0 H) (step : ∀ i v c H, xs[i]? = some v → kz[i]? = some c → J i H → sp [v] H (fun w H' => w = .int c ∧ J (i + 1) H') (fun _ _ _ => False))
    (q : ∀ H' s' out c, Inv X pins σ H' s' → FpOk X pins H' a → s'.heap.get? a = some (seqObj "list" out c) → J vs.length H' → KOut kz vs out.toList → P (.done (.ret .none)) s') :
    wpAny (model X.prog X.w) A (ksk_tree a (.ref f) false) P E s := by
  have ha : a < s.heap.objs.size := Heap.lt_size ho
  obtain ⟨e1, ho1⟩ : ∃ e1, (s.heap.update a (Obj.mapSeq fun _ => (#[] : Array Value))).get? a = some (seqObj "list" #[] e1) := ⟨_, get?_update_seq ho fun _ => #[]⟩
  have s1 := Heap.SameBut.update s.heap a (Obj.mapSeq fun _ => (#[] : Array Value))
  have hsz1 : ((s.heap.update a (Obj.mapSeq fun _ => (#[] : Array Value))).push (seqObj "tuple" vs.toArray 0)).objs.size = s.heap.objs.size + 1 := by rw [size_push', Heap.size_update]
  unfold ksk_tree
  refine wpAny_bind (listItems_at ho rfl ?_)
  refine wpAny_bind (listUpdate_at ho rfl ?_ (by rw [List.size_toArray]; exact hz) (Nat.zero_le _))
  refine wpAny_bind (seqEpoch_at ho1 rfl ?_)
  refine wpAny_bind (wpAny_newTuple ?_ (by show vs.length ≤ _; exact hz))
  refine wpAny_bind (wpAny_newList ?_ (Nat.zero_le _))
  refine wpAny_holding ?_
  generalize hkS : ((s.heap.update a (Obj.mapSeq fun _ => (#[] : Array Value))).push (seqObj "tuple" vs.toArray 0)).objs.size = kS
  have ekS : kS = s.heap.objs.size + 1 := by rw [← hkS, hsz1]
  have hka : kS ≠ a := by rw [ekS]; exact Nat.ne_of_gt (Nat.lt_succ_of_lt ha)
  generalize hh5 : ((s.heap.update a (Obj.mapSeq fun _ => (#[] : Array Value))).push (seqObj "tuple" vs.toArray 0)).push (seqObj "list" #[] 0) = h5
  have k5 : ∀ b o, b ≠ a → s.heap.get? b = some o → h5.get? b = some o := fun b o hb e => by
    rw [← hh5]
    exact Heap.get?_push_of_some _ (Heap.get?_push_of_some _ ((s1.2 b hb).trans e))
  have o5a : h5.get? a = some (seqObj "list" #[] e1) := by rw [← hh5]; exact Heap.get?_push_of_some _ (Heap.get?_push_of_some _ ho1)
  have o5k : h5.get? kS = some (seqObj "list" #[] 0) := by rw [← hh5, ← hkS]; exact Heap.get?_push_size _ rfl
  have I5 : Inv X pins σ H { s with heap := h5 } := I.turned (t' := s.toks) k5 fa.1 fa.2.1 fa.2.2.2.1 fa.2.2.2.2.1 fa.2.2.2.2.2
  have fk : FpOk X pins H kS := I.fpOk (by rw [ekS]; exact Nat.le_succ _) (I.hok.fresh (by rw [ekS]; exact Nat.le_succ _))
  -- the turn of the keys
  unfold ksk_rest
  refine wpAny_bind (wpAny_rule ?_)
  first
    | rw [List.forIn_toArray]
    | (rw [← Array.forIn_toList]; simp only [List.toList_toArray])
    | rw [← Array.forIn_toList]
  have pin_of : ∀ {H' : Hp} {s' : Shared} {kA : Array Value} {e : Nat}, Inv X pins σ H' s' → H' kS = none → H' a = none → s'.heap.get? kS = some (seqObj "list" kA e) → s'.heap.get? a = some (seqObj "list" #[] e1) →
      Inv X (pins ++ [(kS, seqObj "list" kA e), (a, seqObj "list" #[] e1)]) σ H' s' := fun I' z1 z2 z3 z4 => I'.pins_of fun b hb => by
    rcases List.mem_append.mp hb with hb | hb
    · exact I'.pin b (List.mem_append_right _ hb)
    · rcases List.mem_cons.mp hb with rfl | hb
      · exact ⟨z3, z1, fk.2.1, fk.2.2.1, fun v z => by cases z⟩
      · rw [List.mem_singleton.mp hb]
        exact ⟨z4, z2, fa.2.1, fa.2.2.1, fun v z => by cases z⟩
  refine wpAny_bind (ksk_fold (fun i s' => ∃ H' kA e, Inv X pins σ H' s' ∧ H' kS = none ∧ H' a = none ∧ s'.heap.get? kS = some (seqObj "list" kA e) ∧ s'.heap.get? a = some (seqObj "list" #[] e1) ∧ IntsAre kA.toList (kz.take i) ∧ J i H') vs 0 _
    ⟨H, #[], 0, I5, fk.1, fa.1, o5k, o5a, by simpa using IntsAre.nil, h0⟩ ?step ?done)
  case step =>
    rintro j x s' hx ⟨H', kA, e, I', z1, z2, z3, z4, hk, hJ⟩
    simp only [Nat.zero_add] at hk hJ ⊢
    have hj : j < vs.length := (List.getElem?_eq_some_iff.mp hx).1
    obtain ⟨c, hc⟩ : ∃ c, kz[j]? = some c := ⟨_, List.getElem?_eq_getElem (by omega)⟩
    obtain ⟨v, hv⟩ : ∃ v, xs[j]? = some v := ⟨_, List.getElem?_eq_getElem (by rw [rv.length]; exact hj)⟩
    obtain ⟨u, hu, ru⟩ := rv.get hv
    rw [hx] at hu
    cases hu
    have Ip := pin_of I' z1 z2 z3 z4
    have hkl : kA.size ≤ vs.length := by
      have h1 := hk.length
      rw [Array.length_toList, List.length_take] at h1
      omega
    have e0 : Env0 X.prog X.w X.K X.mg X.base A X.stack s' H' := by
      have e0 := I'.env0
      exact ⟨hA, e0.mod, e0.bs, e0.bsz, e0.funs, e0.frf, e0.hok, e0.bare⟩
    refine wpAny_bind (wpAny_attempt (wpAny_call (codeAny_mono (FO.run A X.stack s' H' ⟨[x], []⟩ [x] [v] _ _ hr e0 (hb s' [x] I'.kIn rfl) (.cons ru .nil) (step j v c H' hv hc hJ)) fun r s'' hq => ?_)))
    cases r with
    | error er => obtain ⟨_, _, _, _, _, _, _, _, _, _, _, _, z⟩ := hq; exact z.elim
    | ok fl =>
      cases fl with
      | ret w =>
        obtain ⟨v', H2, os, bare, un, hok, rw', ev, hJ2⟩ := hq
        subst ev
        obtain ⟨t2, rfl⟩ : ∃ t2, w = .int c t2 := rw'
        have Ic : Inv X (pins ++ [(kS, seqObj "list" kA e), (a, seqObj "list" #[] e1)]) σ H2 s'' := Ip.call' (ch := []) os un hok bare (fun b z => absurd z (by simp))
        have y1 := Ic.pin (kS, seqObj "list" kA e) (List.mem_append_right _ (List.mem_append_right _ (.head _)))
        have y2 := Ic.pin (a, seqObj "list" #[] e1) (List.mem_append_right _ (List.mem_append_right _ (.tail _ (.head _))))
        have Iu : Inv X pins σ H2 s'' := Ic.unpinned
        have sb := Heap.SameBut.update s''.heap kS (Obj.mapSeq (·.push (.int c t2)))
        obtain ⟨c2, hc2⟩ : ∃ c2, (s''.heap.update kS (Obj.mapSeq (·.push (.int c t2)))).get? kS = some (seqObj "list" (kA.push (.int c t2)) c2) := ⟨_, get?_update_seq y1.1 (·.push (.int c t2))⟩
        have ek : kz.take (j + 1) = kz.take j ++ [c] := by rw [List.take_add_one, hc]; simp
        have ea : (kA.push (Value.int c t2)).toList = kA.toList ++ [Value.int c t2] := by simp
        have fk2 : FpOk X pins H2 kS := fp_to fk y1.2.1
        try dsimp only
        refine wpAny_bind (listUpdate_at y1.1 rfl ?_ (by omega) (Nat.le_trans (Nat.le_of_eq (Array.size_push ..)) (by omega)))
        refine wpAny_pure ⟨rfl, H2, kA.push (.int c t2), c2, ?_, y1.2.1, y2.2.1, hc2, (sb.2 a (Ne.symm hka)).trans y2.1, by rw [ea, ek]; exact ksk_snoc hk, hJ2⟩
        exact Iu.turned (t' := s''.toks) (fun b o hb' q => (sb.2 b hb').trans q) fk2.1 fk2.2.1 fk2.2.2.2.1 fk2.2.2.2.2.1 fk2.2.2.2.2.2
      | next => exact False.elim hq
      | brk => exact False.elim hq
      | cont => exact False.elim hq
  case done =>
    rintro s' ⟨H', kA, e, I', z1, z2, z3, z4, hk, hJ⟩
    have hk' : IntsAre kA.toList kz := by
      have e3 : kz.take (0 + vs.length) = kz := List.take_of_length_le (by omega)
      rw [e3] at hk
      exact hk
    rw [Nat.zero_add] at hJ
    try dsimp only
    refine wpAny_bind (listItems_at z3 rfl ?_)
    refine key_end hka hk' hl hz z3 z4 fun h' out c kp oa okS ko => ?_
    have f1 : FpOk X pins H' kS := fp_to fk z1
    have f2 : FpOk X pins H' a := fp_to fa z2
    have Ie : Inv X pins σ H' { s' with heap := h' } := I'.turnedL (ch := [kS, a]) (t' := s'.toks) (fun b o hb' q => kp b o (fun z => hb' (by simp [z])) (fun z => hb' (by simp [z])) q) fun b hb' => by
      rcases List.mem_cons.mp hb' with rfl | hb'
      · exact f1
      · rw [List.mem_singleton.mp hb']; exact f2
    exact q H' _ out c Ie f2 oa hJ ko
/-- sorted(l, key=f) -/
theorem sorted_key {s : Shared} {l f : Addr} {xs : List V} {kz : List Int} {k : Nat} {fd : FuncData} {p : Str} {sp : Sp} {J : Nat → Hp → Prop} {Q : VK}
    (I : Inv X pins σ H s) (hs : SqL X.K H l xs) (hl : kz.length = xs.length) (hr : Room (k + 2) X.A) (FO : FnOk X.prog X.w X.K X.mg X.base (L2.CX X.prog X.w) k f fd [p] sp) (hb : Binds X.K fd [p] [])
    (h0 : J 0 H) (step : ∀ i v c H, xs[i]? = some v → kz[i]? = some c → J i H → sp [v] H (fun w H' => w = .int c ∧ J (i + 1) H') (fun _ _ _ => False))
    (q : ∀ H' d (zs : List (Int × V)), J xs.length H' → H' d = none → zs.Perm (kz.zip xs) → zs.Pairwise (fun p q => p.1 ≤ q.1) → Q (.ref d) (upd H' d (.lst (zs.map Prod.snd)))) :
    wpAny (model X.prog X.w) X.A (call (.builtin "sorted") [.ref l] [(Str.ofString "key", .ref f)]) (EP X pins σ Q) X.xe s := by
  obtain ⟨vs, rv, hpl, hz⟩ := I.list hs
  have hz : vs.length ≤ sizeLine := by rw [← rv.length]; exact hz
  refine call_function_entry_kw kind_sorted plain_sorted entry_sorted (ksk_s1 _ _) ?_
  unfold Builtin.«sorted»
  refine wpAny_bind (m := checkCount "sorted" 1 1 _) (wpAny_pure ?_)
  refine wpAny_bind (collect_list hpl.isList ?_ hz)
  refine wpAny_bind (wpAny_newList ?_ hz)
  have hsz : ((s.heap.push (seqObj "list" #[] 0)).update s.heap.objs.size (Obj.mapSeq (· ++ vs.toArray))).objs.size = s.heap.objs.size + 1 := by
    rw [Heap.size_update, size_push']
  have hoL : (((s.heap.push (seqObj "list" #[] 0)).update s.heap.objs.size (Obj.mapSeq (· ++ vs.toArray))).push (seqObj "list" vs.toArray 0)).get? (s.heap.objs.size + 1) = some (seqObj "list" vs.toArray 0) := by
    rw [← hsz]; exact Heap.get?_push_size _ rfl
  have keep : ∀ b o, s.heap.get? b = some o → (((s.heap.push (seqObj "list" #[] 0)).update s.heap.objs.size (Obj.mapSeq (· ++ vs.toArray))).push (seqObj "list" vs.toArray 0)).get? b = some o := fun b o q => by
    have hlt : b < s.heap.objs.size := Heap.lt_size q
    refine Heap.get?_push_of_some _ ?_
    rw [Heap.get?_update_ne _ _ _ _ (Nat.ne_of_lt hlt)]
    exact Heap.get?_push_of_some _ q
  show wpAny _ _ _ _ _ { s with heap := ((s.heap.push (seqObj "list" #[] 0)).update s.heap.objs.size (Obj.mapSeq (· ++ vs.toArray))).push (seqObj "list" vs.toArray 0) }
  rw [hsz]
  refine wpAny_bind (wpAny_holding (wpAny_call_entry_kw slot_list_sort ⟨_, hoL, rfl⟩ entry_list_sort ?_ (ksk_l1 _ _)))
  have I2 : Inv X pins σ H { s with heap := ((s.heap.push (seqObj "list" #[] 0)).update s.heap.objs.size (Obj.mapSeq (· ++ vs.toArray))).push (seqObj "list" vs.toArray 0) } := I.kept (t' := s.toks) keep
  have fa : FpOk X pins H (s.heap.objs.size + 1) := I.fpOk (Nat.le_succ _) (I.hok.fresh (Nat.le_succ _))
  show wpAny (model X.prog X.w) X.A.in1.in1 (Builtin.«list.sort» ⟨[.ref (s.heap.objs.size + 1)], [(Str.ofString "key", .ref f)]⟩) _ _ _
  rw [ksk_t1]
  refine key_sort (A := X.A.in1.in1) I2 fa hoL rv hz (by rw [hl, rv.length]) I.env0.in1.in1.frames hr.in1.in1 FO hb h0 step fun H' s' out c I' f' oa hJ ko => ⟨_, rfl, ?_⟩
  refine wpAny_pure ⟨_, rfl, ?_⟩
  obtain ⟨zs, zp, ze, zo⟩ := ko
  -- the values told
  obtain ⟨ys, yp, ye⟩ := perm_lift (fun p : Int × V × Value => (p.1, p.2.2)) zp (kz.zip (xs.zip vs)) (by
    have e : (kz.zip (xs.zip vs)).map (fun p : Int × V × Value => (p.1, p.2.2)) = kz.zip ((xs.zip vs).map Prod.snd) := by
      rw [List.zip_map_right]; rfl
    rw [e, List.map_snd_zip (by rw [rv.length]; exact Nat.le_refl _)])
  have rel : ∀ y ∈ ys, RelV y.2.1 y.2.2 := fun y hy => by
    obtain ⟨j, hj⟩ := List.mem_iff_getElem?.mp (yp.mem_iff.mp hy)
    obtain ⟨h1, h2⟩ := List.getElem?_zip_eq_some.mp hj
    obtain ⟨h3, h4⟩ := List.getElem?_zip_eq_some.mp h2
    obtain ⟨u, h5, h6⟩ := rv.get h3
    rw [h4] at h5
    cases h5
    exact h6
  have vls : Vals (ys.map fun y => y.2.1) (ys.map fun y => y.2.2) := by
    clear yp ye
    induction ys with
    | nil => exact .nil
    | cons y ys ih => exact .cons (rel y List.mem_cons_self) (ih fun z hz => rel z (List.mem_cons_of_mem _ hz))
  have eo : out.toList = ys.map fun y => y.2.2 := by
    rw [ze, ← ye, List.map_map]
    rfl
  have hlen : (ys.map fun y => y.2.1).length ≤ sizeLine := by
    rw [List.length_map, yp.length_eq, List.length_zip, List.length_zip, hl, rv.length]
    omega
  have yq : (ys.map fun y => (y.1, y.2.1)).Perm (kz.zip xs) := by
    have h1 := yp.map fun y : Int × V × Value => (y.1, y.2.1)
    have e : (kz.zip (xs.zip vs)).map (fun p : Int × V × Value => (p.1, p.2.1)) = kz.zip ((xs.zip vs).map Prod.fst) := by
      rw [List.zip_map_right]; rfl
    rw [e, List.map_fst_zip (by rw [rv.length]; exact Nat.le_refl _)] at h1
    exact h1
  have yo : (ys.map fun y => (y.1, y.2.1)).Pairwise (fun p q : Int × V => p.1 ≤ q.1) := by
    rw [← ye, List.pairwise_map] at zo
    rw [List.pairwise_map]
    exact zo
  have fin := q H' (s.heap.objs.size + 1) (ys.map fun y => (y.1, y.2.1)) (by rw [rv.length]; exact hJ) f'.1 yq yo
  have em : (ys.map fun y => (y.1, y.2.1)).map Prod.snd = ys.map fun y => y.2.1 := by rw [List.map_map]; rfl
  rw [em] at fin
  have new : ObjOk X.prog X.w (upd H' (s.heap.objs.size + 1) (.lst (ys.map fun y => y.2.1))) s'.heap (s.heap.objs.size + 1) (.lst (ys.map fun y => y.2.1)) := by
    refine ⟨hlen, _, c, vls, ?_⟩
    rw [← eo, Array.toArray_toList]
    exact oa
  exact ⟨.ref _, _, I'.take (t' := s'.toks) (fun b o _ e => e) f' new, rfl, fin⟩
end
end Z

/-! ZE: enumerate of a text, of a tuple -/
namespace Z
open PySem PySem.Spec PyProof.Rows L2 TL

theorem drawsTup {prog : Program} {w : World} {A : Around} (hh : A.handled = none) (it l : Addr) (hne : l ≠ it) (items : Array Value) :
    Draws prog w A it [it, l] items.size (fun i v => items[i]? = some v) (fun i h => h.IsTupleIter it l i ∧ h.IsTuple l items) where
  live := fun _ _ st => let ⟨o, ho, _⟩ := st.1; ⟨o, ho⟩
  frame := fun _ _ _ st hk => ⟨let ⟨o, ho, r⟩ := st.1; ⟨o, hk it (by simp) o ho, r⟩, let ⟨o, ho, r⟩ := st.2; ⟨o, hk l (by simp) o ho, r⟩⟩
  item := fun i s Q E hi st hQ => by
    refine RZ.nextOf_tuple_item st.1 st.2 (x := items[i]) (by simp [hi]) fun h' hit' hs' => ?_
    exact hQ _ h' s.toks (by simp [hi]) ⟨hit', st.2.extBut hs'.extBut hne⟩ hs'
  done := fun s Q E st hE => RZ.nextOf_tuple_end hh st.1 st.2 (by simp) hE

section
variable {prog : Program} {w : World} {A : Around} {E : Value → Shared → Prop} {s : Shared}
theorem meets_enumerate_newT (l : Addr) (items : Array Value) (n : Nat) (dct : Option Addr) (sl : Array (Option Value)) :
    Meets (Builtin.«enumerate.__new__» ⟨[.type "enumerate", .ref l], []⟩) (fun _ R s => s.heap.get? l = some { cls := .type "tuple", dict := dct, data := .seq items n, slots := sl } ∧
      R (.ok (.ret (.ref (s.heap.push { cls := .type "tuple_iterator", data := .fields #[.ref l, .int 0 0] }).objs.size)))
        { s with heap := (s.heap.push { cls := .type "tuple_iterator", data := .fields #[.ref l, .int 0 0] }).push { cls := .type "enumerate", data := .fields #[.none, .bool false, .ref s.heap.objs.size, rawInt 0, .none, .none] } }) :=
  .of_wp fun prog w A R s h => by
    obtain ⟨hp, g, d, tk, os⟩ := s; obtain ⟨hl, h⟩ := h
    have hsub := sub_enumerate
    have hL : Heap.IsTuple (Shared.heap ⟨hp, g, d, tk, os⟩) l items := ⟨_, hl, rfl, n, rfl⟩
    wp_walk using AutoSeq1.wpAny_loadPart' hl
    refine wpAny_stack_any fun st => wpAny_pure ?_
    split
    · rename_i c _ _ _ _ _
      cases (c == Value.type "enumerate")
      · wp_walk using AutoSeq1.wpAny_loadPart' hl, wpAny_pyIter_tuple hL
        exact ⟨_, rfl, h⟩
      · wp_walk using AutoSeq1.wpAny_loadPart' hl, wpAny_pyIter_tuple hL
        exact ⟨_, rfl, h⟩
    · wp_walk using AutoSeq1.wpAny_loadPart' hl, wpAny_pyIter_tuple hL
      exact ⟨_, rfl, h⟩
theorem call_enumerate_tup {l : Addr} {items : Array Value} {Q : Value → Shared → Prop} (hL : s.heap.IsTuple l items)
    (h : ∀ h', IsEnum h' (s.heap.objs.size + 1) s.heap.objs.size 0 .none → h'.IsTupleIter s.heap.objs.size l 0 → h'.objs.size = s.heap.objs.size + 2 →
      (∀ b o, s.heap.get? b = some o → h'.get? b = some o) → Q (.ref (s.heap.objs.size + 1)) { s with heap := h' }) :
    wpAny (model prog w) A (call (.type "enumerate") [.ref l]) Q E s := by
  obtain ⟨⟨c, dct, dt, sl⟩, hl, hc, n, hd⟩ := hL
  replace hc : c = .type "tuple" := hc
  replace hd : dt = .seq items n := hd
  subst hc hd
  refine callType_new F.called_enumerate (by decide) (F.typeCall_enumerate_1 _) (F.newCall_enumerate_1 _) (fun obj => F.args_object_init_2 obj _) F.entry_enumerate_new
    (meets_enumerate_newT l items n dct sl) ⟨hl, ?_⟩
  have hz : (s.heap.push { cls := .type "tuple_iterator", data := .fields #[.ref l, .int 0 0] }).objs.size = s.heap.objs.size + 1 := Heap.size_push ..
  show _ ∧ _
  rw [hz]
  have he : IsEnum ((s.heap.push { cls := .type "tuple_iterator", data := .fields #[.ref l, .int 0 0] }).push
      { cls := .type "enumerate", data := .fields #[.none, .bool false, .ref s.heap.objs.size, rawInt 0, .none, .none] }) (s.heap.objs.size + 1) s.heap.objs.size 0 .none := by
    have := Heap.get?_push_size (s.heap.push { cls := .type "tuple_iterator", data := .fields #[.ref l, .int 0 0] })
      (o := { cls := .type "enumerate", data := .fields #[.none, .bool false, .ref s.heap.objs.size, rawInt 0, .none, .none] }) rfl
    rw [hz] at this; exact this
  refine ⟨⟨_, he, rfl⟩, h _ he ⟨_, Heap.get?_push_of_some _ (Heap.get?_push_size _ rfl), rfl, rfl⟩ (by rw [Heap.size_push, hz]) fun b o x => Heap.get?_push_of_some _ (Heap.get?_push_of_some _ x)⟩
end

/-- the tuple at a, each item in a new pair -/
def ItE (K : PySem.W.Frag) (a : Addr) : It :=
  ⟨fun i H => ∃ (xs : List V) (x : V), SqT K H a xs ∧ xs[i]? = some x, fun i H v H' => ∃ T x, v = .ref T ∧ H T = none ∧ H' = upd H T (.tup [.int (i : Nat), x]) ∧ ∀ xs, SqT K H a xs → xs[i]? = some x, fun i H => ∃ xs : List V, SqT K H a xs ∧ xs.length ≤ i⟩
/-- a text's signs, each in a new pair -/
def ItES (x : Str) : It :=
  ⟨fun i _ => i < x.cps.size, fun i H v H' => ∃ T c, v = .ref T ∧ H T = none ∧ H' = upd H T (.tup [.int (i : Nat), .str ⟨#[c]⟩]) ∧ x.cps[i]? = some c, fun i _ => x.cps.size ≤ i⟩
/-- one turn of an enumerate object over anything drawn -/
theorem enum_item {X : Cx} {i : Nat} {pins : List (Addr × Obj)} {s : Shared} {σ : L2.St} {H : Hp} {E : Value → Shared → Prop} {e it : Addr} {fp : List Addr} {n : Nat} {P : Nat → Value → Prop} {St : Nat → Heap → Prop} {old : Value} {elts : List Expr} {kk : Nat} {tpos : Pos} {Y : V → Hp → Prop}
    {G : Heap → Prop} (D : Draws X.prog X.w X.A.in1 it fp n P St) (I : Inv X pins σ H s) (hf : ∀ b ∈ [e, it], FpOk X pins H b) (he : IsEnum s.heap e it ((i : Nat) : Int) old) (hst : St i s.heap) (hlt : i < n) (hne : e ≠ it) (hef : e ∉ fp)
    (hP : ∀ x, P i x → ∃ v, RelV v x ∧ ∀ T, H T = none → Y (.ref T) (upd H T (.tup [.int (i : Nat), v])))
    (hG : ∀ h', (∃ old, IsEnum h' e it ((i + 1 : Nat) : Int) old) → St (i + 1) h' → G h') :
    wpAny (model X.prog X.w) X.A (pyNext (.ref e)) (fun r s1 => ∃ u, r = some u ∧ ∀ (E' : Value → Shared → Prop) (Q' : Unit → Shared → Prop), (∀ v H' s', Inv X pins σ H' s' → RelV v u → Y v H' → G s'.heap → (∀ b ∈ [e, it], H' b = none) → Q' () s') →
      wpAny (model X.prog X.w) X.A (letOwnedTupleGo (.Tuple elts kk tpos) (.ref e) u) Q' E' s1) E s := by
  have hel : e < s.heap.objs.size := Heap.lt_size he
  have hil : it < s.heap.objs.size := by obtain ⟨_, q⟩ := D.live _ _ hst; exact Heap.lt_size q
  refine wpAny_pyNext_enum_itemD D he hst hlt hne hef fun x h' tk hPx ho hst' hT hsz hk => ?_
  obtain ⟨v, rv, hY⟩ := hP x hPx
  refine ⟨_, rfl, fun E' Q' hq => wpAny_letOwnedTupleGo_enum (s := { s with heap := h', toks := tk + 1 }) ho fun h'' he' sb => ?_⟩
  have hT2 : h''.get? s.heap.objs.size = some { cls := .type "tuple", data := .seq #[.int i tk, x] } := (sb.2 _ (Nat.ne_of_gt hel)).trans hT
  have new : ObjOk X.prog X.w (upd H s.heap.objs.size (.tup [.int (i : Nat), v])) h'' s.heap.objs.size (.tup [.int (i : Nat), v]) :=
    ⟨by show 2 ≤ sizeLine; decide, [.int i tk, x], .cons ⟨_, rfl⟩ (.cons rv .nil), ⟨_, hT2, rfl, _, rfl⟩⟩
  have I1 : Inv X pins σ (upd H s.heap.objs.size (.tup [.int (i : Nat), v])) { s with heap := h'', toks := tk + 1 } :=
    I.turnedNew (ch := [e, it]) (fun b ob hb q => (sb.2 b (fun z => hb (by simp [z]))).trans (hk b ob (fun z => hb (by simp [z])) (fun z => hb (by simp [z])) q)) hf (Nat.le_refl _) new
  refine hq (.ref s.heap.objs.size) _ _ I1 rfl (hY _ (I.hok.fresh (Nat.le_refl _))) (hG h'' ⟨x, ?_⟩ ?_) fun b hb => ?_
  · have e1 : ((i + 1 : Nat) : Int) = (i : Int) + 1 := by omega
    rw [e1]; exact he'
  · exact D.frame _ _ _ hst' fun b hb o q => (sb.2 b (fun z => hef (z ▸ hb))).trans q
  · have hb' : b < s.heap.objs.size := by
      have e' : b = e ∨ b = it := by simpa using hb
      rcases e' with z | z
      · rw [z]; exact hel
      · rw [z]; exact hil
    rw [upd_ne (Nat.ne_of_lt hb')]
    exact (hf b hb).1
theorem turn_enumT {P : Program} {w : World} {K : PySem.W.Frag} {elts : List Expr} {kk : Nat} {tpos : Pos} (a e it : Addr) :
    Turn P w K (.Tuple elts kk tpos) (ItE K a) [e, it] e (fun i h => (∃ old, IsEnum h e it ((i : Nat) : Int) old) ∧ h.IsTupleIter it a i ∧ e ≠ it) where
  mem := by simp
  obj := fun i h st b hb => by
    obtain ⟨⟨old, he⟩, ⟨o, ho, hc, hd⟩, _⟩ := st
    have e' : b = e ∨ b = it := by simpa using hb
    rcases e' with z | z
    · rw [z]; exact ⟨_, he, fun v q => nomatch q⟩
    · rw [z]; exact ⟨o, ho, fun v q => by rw [hd] at q; cases q⟩
  keep := fun i h h' st k => let ⟨⟨old, he⟩, ⟨o, ho, r⟩, hne⟩ := st; ⟨⟨old, k e (by simp) _ he⟩, ⟨o, k it (by simp) o ho, r⟩, hne⟩
  item := by
    intro X hP hw hK hc i pins s σ H E I hf st hg
    subst hP hw hK
    obtain ⟨⟨old, he⟩, hit, hne⟩ := st
    obtain ⟨xs, x, hq, hx⟩ := hg
    obtain ⟨its, rv, p, hz⟩ := I.tuple hq
    obtain ⟨u, hu, ru⟩ := rv.get hx
    have hT : s.heap.IsTuple a its.toArray := p
    have hai : a ≠ it := fun z => by
      obtain ⟨o, ho, hc, _⟩ := hT
      obtain ⟨o', ho', hc', _⟩ := hit
      rw [z, ho'] at ho
      cases ho
      exact absurd (Value.type.inj (hc.symm.trans hc')) (by decide)
    have hae : a ≠ e := fun z => by
      obtain ⟨o, ho, hc, _⟩ := hT
      rw [z, he] at ho
      cases ho
      exact absurd (Value.type.inj hc) (by decide)
    refine wpAny_mono (enum_item (elts := elts) (kk := kk) (tpos := tpos) (G := fun h' => (∃ old, IsEnum h' e it ((i + 1 : Nat) : Int) old) ∧ h'.IsTupleIter it a (i + 1) ∧ e ≠ it) (Y := fun v H' => ∃ T y, v = .ref T ∧ H T = none ∧ H' = upd H T (.tup [.int (i : Nat), y]) ∧ ∀ xs, SqT X.K H a xs → xs[i]? = some y)
      (drawsTup (A := X.A.in1) (I.ok.hd hc) it a hai its.toArray) I hf he ⟨hit, hT⟩ (by simp; rw [← rv.length]; exact (List.getElem?_eq_some_iff.mp hx).1) hne (by simp [hne, Ne.symm hae]) (fun y hy => ?_) fun h' h1 h2 => ⟨h1, h2.1, hne⟩) (fun r s1 hr => ?_) fun _ _ q => q
    · have : y = u := by
        have hy : its[i]? = some y := by simpa using hy
        rw [hu] at hy
        exact (Option.some.inj hy).symm
      subst this
      exact ⟨x, ru, fun T hT => ⟨T, x, rfl, hT, rfl, fun ys hy => by rw [I.tuple_inj hy hq]; exact hx⟩⟩
    · obtain ⟨u, e1, h⟩ := hr
      exact ⟨u, e1, h _ _ fun v H' s' I' r' y g f => ⟨v, H', I', r', y, g, f⟩⟩
  done := by
    intro X hP hw hK hc i pins s σ H E I hf st hg
    subst hP hw hK
    obtain ⟨⟨old, he⟩, hit, hne⟩ := st
    obtain ⟨xs, hq, hx⟩ := hg
    obtain ⟨its, rv, p, hz⟩ := I.tuple hq
    have hT : s.heap.IsTuple a its.toArray := p
    have hai : a ≠ it := fun z => by
      obtain ⟨o, ho, hc, _⟩ := hT
      obtain ⟨o', ho', hc', _⟩ := hit
      rw [z, ho'] at ho
      cases ho
      exact absurd (Value.type.inj (hc.symm.trans hc')) (by decide)
    obtain ⟨f0, f1, f2, f3, f4, f5⟩ := hf it (by simp)
    have hT : s.TypeIs (.ref e) "enumerate" := ⟨_, he, rfl⟩
    unfold pyNext
    refine wpAny_bind (wpAny_attempt (wpAny_callSpecial?_slot (name := Str.ofString "__next__") hT F.slot_enumerate_next
      (wpAny_call_entry F.slot_enumerate_next hT F.entry_enumerate_next ?_ (F.args_enumerate_next_1 _))))
    show wpAny _ _ (field (.ref e) 2 >>= _) _ _ _
    refine wpAny_bind (wpAny_field he rfl (x := .ref it) rfl ?_)
    refine wpAny_bind (RZ.nextOf_tuple_end (I.ok.hd hc) hit (show s.heap.IsTuple a its.toArray from p) (by simp; rw [← rv.length]; exact hx) fun h' x he' hx' => ?_)
    obtain ⟨o, ho, hc⟩ := hx'
    refine wpAny_bind (wpAny_isInstance (T := "StopIteration") (b := true) ⟨o, ho, hc⟩ isSubtype_stop ?_)
    exact wpAny_pure ⟨rfl, I.turned (t' := s.toks) (fun b o hb q => he' b o hb q) f0 f1 f3 f4 f5⟩
  self := fun A i s Q E st h => let ⟨⟨_, he⟩, _⟩ := st; wpAny_pyIter_enum he h
theorem turn_enumS {P : Program} {w : World} {K : PySem.W.Frag} {elts : List Expr} {kk : Nat} {tpos : Pos} (x : Str) (t : Tok) (e it : Addr) :
    Turn P w K (.Tuple elts kk tpos) (ItES x) [e, it] e (fun i h => (∃ old, IsEnum h e it ((i : Nat) : Int) old) ∧ h.IsStrIter it (strIterType x) x t i ∧ e ≠ it) where
  mem := by simp
  obj := fun i h st b hb => by
    obtain ⟨⟨old, he⟩, ⟨o, ho, hc, hd⟩, _⟩ := st
    have e' : b = e ∨ b = it := by simpa using hb
    rcases e' with z | z
    · rw [z]; exact ⟨_, he, fun v q => nomatch q⟩
    · rw [z]; exact ⟨o, ho, fun v q => by rw [hd] at q; cases q⟩
  keep := fun i h h' st k => let ⟨⟨old, he⟩, ⟨o, ho, r⟩, hne⟩ := st; ⟨⟨old, k e (by simp) _ he⟩, ⟨o, k it (by simp) o ho, r⟩, hne⟩
  item := by
    intro X hP hw hK hc i pins s σ H E I hf st hg
    subst hP hw hK
    obtain ⟨⟨old, he⟩, hit, hne⟩ := st
    have D : Draws X.prog X.w X.A.in1 it [it] x.cps.size (fun i v => ∃ c u, x.cps[i]? = some c ∧ v = .str ⟨#[c]⟩ u) (fun i h => h.IsStrIter it (strIterType x) x t i) := by
      unfold strIterType
      split
      · exact Draws.strAscii (A := X.A.in1) (I.ok.hd hc) it x t
      · exact Draws.strWide (A := X.A.in1) (I.ok.hd hc) it x t
    refine wpAny_mono (enum_item (elts := elts) (kk := kk) (tpos := tpos) (G := fun h' => (∃ old, IsEnum h' e it ((i + 1 : Nat) : Int) old) ∧ h'.IsStrIter it (strIterType x) x t (i + 1) ∧ e ≠ it) (Y := fun v H' => ∃ T c, v = .ref T ∧ H T = none ∧ H' = upd H T (.tup [.int (i : Nat), .str ⟨#[c]⟩]) ∧ x.cps[i]? = some c)
      D I hf he hit hg hne (by simp [hne]) (fun y hy => ?_) fun h' h1 h2 => ⟨h1, h2, hne⟩) (fun r s1 hr => ?_) fun _ _ q => q
    · obtain ⟨c, u, h1, rfl⟩ := hy
      exact ⟨.str ⟨#[c]⟩, ⟨u, rfl⟩, fun T hT => ⟨T, c, rfl, hT, rfl, h1⟩⟩
    · obtain ⟨u, e1, h⟩ := hr
      exact ⟨u, e1, h _ _ fun v H' s' I' r' y g f => ⟨v, H', I', r', y, g, f⟩⟩
  done := by
    intro X hP hw hK hc i pins s σ H E I hf st hg
    subst hP hw hK
    obtain ⟨⟨old, he⟩, hit, hne⟩ := st
    obtain ⟨f0, f1, f2, f3, f4, f5⟩ := hf it (by simp)
    have hn : x.cps[i]? = none := Array.getElem?_eq_none hg
    have hT : s.TypeIs (.ref e) "enumerate" := ⟨_, he, rfl⟩
    have fin : ∀ h' y, Heap.ExtBut it s.heap h' → (∃ o, h'.get? y = some o ∧ o.cls = .type "StopIteration") → (wpAny (model X.prog X.w) X.A.in1 (isInstance (.ref y) (.type "StopIteration")) (fun b s2 => b = true ∧ s2 = { s with heap := h' }) (fun _ _ => False) { s with heap := h' }) ∧ Inv X pins σ H { s with heap := h' } := fun h' y he' hy => by
      obtain ⟨o, ho, hc⟩ := hy
      exact ⟨wpAny_isInstance (T := "StopIteration") (b := true) ⟨o, ho, hc⟩ isSubtype_stop ⟨rfl, rfl⟩, I.turned (t' := s.toks) (fun b o hb q => he' b o hb q) f0 f1 f3 f4 f5⟩
    unfold pyNext
    refine wpAny_bind (wpAny_attempt (wpAny_callSpecial?_slot (name := Str.ofString "__next__") hT F.slot_enumerate_next
      (wpAny_call_entry F.slot_enumerate_next hT F.entry_enumerate_next ?_ (F.args_enumerate_next_1 _))))
    show wpAny _ _ (field (.ref e) 2 >>= _) _ _ _
    refine wpAny_bind (wpAny_field he rfl (x := .ref it) rfl ?_)
    have hit2 := hit
    unfold strIterType at hit2
    split at hit2
    · refine wpAny_bind (wpAny_nextOf_ascii_end (I.ok.hd hc) hit2 hn fun h' y he' hy => ?_)
      obtain ⟨o, ho, hc⟩ := hy
      refine wpAny_bind (wpAny_isInstance (T := "StopIteration") (b := true) ⟨o, ho, hc⟩ isSubtype_stop ?_)
      exact wpAny_pure ⟨rfl, I.turned (t' := s.toks) (fun b o hb q => he' b o hb q) f0 f1 f3 f4 f5⟩
    · refine wpAny_bind (wpAny_nextOf_wide_end (I.ok.hd hc) hit2 hn fun h' y he' hy => ?_)
      obtain ⟨o, ho, hc⟩ := hy
      refine wpAny_bind (wpAny_isInstance (T := "StopIteration") (b := true) ⟨o, ho, hc⟩ isSubtype_stop ?_)
      exact wpAny_pure ⟨rfl, I.turned (t' := s.toks) (fun b o hb q => he' b o hb q) f0 f1 f3 f4 f5⟩
  self := fun A i s Q E st h => let ⟨⟨_, he⟩, _⟩ := st; wpAny_pyIter_enum he h
/-- enumerate of a list, a tuple, a text -/
theorem pi_enumA {X : Cx} {e : Expr} {ta : TA} {p pos tpos : Pos} {elts : List Expr} {kk : Nat} (hg : Gl X "enumerate") (hm : X.mg "enumerate" = none) (ha : PA X [e] ta) (hs : starEach [e] X.env = [(false, eval e X.env)] := by rfl) :
    PI X (.Tuple elts kk tpos) (.Call (.Name "enumerate" p) [e] [] pos) (fun σ H R => ta σ H fun vs H1 => (∃ a xs, vs = [.ref a] ∧ SqL X.K H1 a xs ∧ R (Ite X.K a) H1) ∨ (∃ a xs, vs = [.ref a] ∧ SqT X.K H1 a xs ∧ R (ItE X.K a) H1) ∨ ∃ x, vs = [.str x] ∧ R (ItES x) H1) := by
  refine ⟨fun pins s σ H R I h => ?_⟩
  refine Call_ (ld_blt I hg hm boot_enumerate (PyProof.Rows.callWith_type1 (thn (ha.run pos pins s σ H _ I h) fun us s1 ⟨vs, H1, I1, r1, q1⟩ => ?_) hs rfl))
  have fpk : ∀ b ∈ [s1.heap.objs.size + 1, s1.heap.objs.size], FpOk X pins H1 b := fun b hb => by
    have e' : b = s1.heap.objs.size + 1 ∨ b = s1.heap.objs.size := by simpa using hb
    have hle : s1.heap.objs.size ≤ b := by
      rcases e' with z | z
      · rw [z]; exact Nat.le_add_right _ _
      · rw [z]; exact Nat.le_refl _
    exact I1.fpOk hle (I1.hok.fresh hle)
  rcases q1 with ⟨a, xs, ex, hq, q⟩ | ⟨a, xs, ex, hq, q⟩ | ⟨x, ex, q⟩
  · subst ex
    obtain rfl := Vals.ref1 r1
    obtain ⟨its, rv, p', hz⟩ := I1.list hq
    refine call_enumerate_list p'.isList fun h' he hit hsz hk => wpAny_pyIter_enum he ?_
    exact ⟨s1.heap.objs.size + 1, [s1.heap.objs.size + 1, s1.heap.objs.size], _, _, H1, rfl, I1.kept (t' := s1.toks) hk, turn_enum a (s1.heap.objs.size + 1) s1.heap.objs.size, ⟨⟨.none, he⟩, hit, Nat.succ_ne_self _⟩, fpk, q⟩
  · subst ex
    obtain rfl := Vals.ref1 r1
    obtain ⟨its, rv, p', hz⟩ := I1.tuple hq
    refine call_enumerate_tup (show s1.heap.IsTuple a its.toArray from p') fun h' he hit hsz hk => wpAny_pyIter_enum he ?_
    exact ⟨s1.heap.objs.size + 1, [s1.heap.objs.size + 1, s1.heap.objs.size], _, _, H1, rfl, I1.kept (t' := s1.toks) hk, turn_enumT a (s1.heap.objs.size + 1) s1.heap.objs.size, ⟨⟨.none, he⟩, hit, Nat.succ_ne_self _⟩, fpk, q⟩
  · subst ex
    obtain ⟨t, rfl⟩ : ∃ t, us = [.str x t] := by
      cases r1 with
      | cons r rr =>
        cases rr
        obtain ⟨t, rfl⟩ := r
        exact ⟨t, rfl⟩
    refine call_enumerate_str fun h' he hit hsz hk => wpAny_pyIter_enum he ?_
    exact ⟨s1.heap.objs.size + 1, [s1.heap.objs.size + 1, s1.heap.objs.size], _, _, H1, rfl, I1.kept (t' := s1.toks) hk, turn_enumS x t (s1.heap.objs.size + 1) s1.heap.objs.size, ⟨⟨.none, he⟩, hit, Nat.succ_ne_self _⟩, fpk, q⟩
end Z

/-! ZW: zip of two texts -/
namespace Z
open PySem PySem.Spec PyProof.Rows L2 TL
/-- the zip's objects lie apart -/
structure Apt (zp ti to j1 j2 : Addr) : Prop where
  a1 : ti ≠ zp
  a2 : to ≠ zp
  a3 : j1 ≠ zp
  a4 : j2 ≠ zp
  a5 : ti ≠ to
  a6 : ti ≠ j1
  a7 : ti ≠ j2
  a8 : to ≠ j1
  a9 : to ≠ j2
  a10 : j1 ≠ j2
section
variable {prog : Program} {w : World} {A : Around} {E : Value → Shared → Prop} {s : Shared}
section
variable {zp ti to j1 j2 : Addr} {n1 n2 i : Nat} {P1 P2 : Nat → Value → Prop} {S1 S2 : Nat → Heap → Prop} {a b : Value}
theorem zipD_item {Q : Value → Shared → Prop} (ap : Apt zp ti to j1 j2) (D1 : Draws prog w A j1 [j1] n1 P1 S1) (D2 : Draws prog w A j2 [j2] n2 P2 S2)
    (gz : IsZip s.heap zp ti to .none) (gi : IsPair s.heap ti (.ref j1) (.ref j2)) (go : IsPair s.heap to a b) (t1 : S1 i s.heap) (t2 : S2 i s.heap) (l1 : i < n1) (l2 : i < n2)
    (hq : ∀ h' tk x y, P1 i x → P2 i y → IsZip h' zp ti to (rawInt s.heap.objs.size) → IsPair h' to x y → S1 (i + 1) h' → S2 (i + 1) h' → IsPair h' s.heap.objs.size x y →
      (∀ c o, c ≠ zp → c ≠ to → c ≠ j1 → c ≠ j2 → s.heap.get? c = some o → h'.get? c = some o) → Q (.ref s.heap.objs.size) { s with heap := h', toks := tk }) :
    wpAny (model prog w) A (Builtin.«zip.__next__» ⟨[.ref zp], []⟩) (fun fin s' => ∃ v, fin = .done (.ret v) ∧ Q v s') E s := by
  show wpAny _ _ (field (.ref zp) 2 >>= _) _ _ _
  refine wpAny_bind (wpAny_field gz rfl (x := .bool false) rfl ?_)
  show wpAny _ _ (field (.ref zp) 3 >>= _) _ _ _
  refine wpAny_bind (wpAny_field gz rfl (x := .ref ti) rfl ?_)
  refine wpAny_bind (wpAny_seqItems gi rfl ?_)
  show wpAny _ _ (Builtin.SmallTypes.ownedTupleIsFree (.ref zp) >>= _) _ _ _
  apply wpAny_bind
  unfold Builtin.SmallTypes.ownedTupleIsFree
  refine wpAny_bind (wpAny_field gz rfl (x := Value.none) rfl (wpAny_pure ?_))
  rw [if_pos rfl]
  refine wpAny_bind (wpAny_rule ?u1)
  refine wpAny_bind (wpAny_field gz rfl (x := .ref to) rfl ?_)
  refine wpAny_bind (wpAny_setField_rec gz (by simp) fun g1 gz1 e1 => ?_)
  have gz1 : IsZip g1 zp ti to .ellipsis := gz1
  apply wpAny_bind
  simp only [List.zipIdx_cons, List.zipIdx_nil, List.forIn_nil, List.forIn_cons]
  refine wpAny_bind (wpAny_bind (wpAny_onRaise ?u2))
  show wpAny _ _ (Builtin.SmallTypes.nextOf (.ref j1) >>= _) _ _ _
  have t1a : S1 i g1 := D1.frame _ _ _ t1 fun c hc o q => e1.extBut _ _ (by rw [List.mem_singleton.mp hc]; exact ap.a3) q
  refine wpAny_bind (D1.item i _ _ _ l1 t1a fun x g2 tk px t1b e2 => wpAny_pure ?_)
  have go2 : IsPair g2 to a b := e2.extBut _ _ ap.a8 (e1.extBut _ _ ap.a2 go)
  refine wpAny_bind (wpAny_seqItems go2 rfl ?_)
  refine wpAny_bind (wpAny_updateSeq_pair go2 fun g3 go3 e3 => ?_)
  have go3 : IsPair g3 to x b := go3
  refine wpAny_bind (wpAny_letGo (wpAny_pure ?u3))
  refine wpAny_bind (wpAny_bind (wpAny_onRaise ?u4))
  show wpAny _ _ (Builtin.SmallTypes.nextOf (.ref j2) >>= _) _ _ _
  have t2a : S2 i g3 := D2.frame _ _ _ t2 fun c hc o q => by
    rw [List.mem_singleton.mp hc] at q ⊢
    exact e3.extBut _ _ (Ne.symm ap.a9) (e2.extBut _ _ (Ne.symm ap.a10) (e1.extBut _ _ ap.a4 q))
  refine wpAny_bind (D2.item i _ _ _ l2 t2a fun y g4 tk2 py t2b e4 => wpAny_pure ?_)
  have go4 : IsPair g4 to x b := e4.extBut _ _ ap.a9 go3
  refine wpAny_bind (wpAny_seqItems go4 rfl ?_)
  refine wpAny_bind (wpAny_updateSeq_pair go4 fun g5 go5 e5 => ?_)
  have go5 : IsPair g5 to x y := go5
  refine wpAny_bind (wpAny_letGo (wpAny_pure (wpAny_pure ?u5)))
  refine wpAny_bind (wpAny_seqItems go5 rfl ?_)
  refine wpAny_bind (wpAny_newTuple ?u6)
  have sz : g5.objs.size = s.heap.objs.size := by rw [e5.1, e4.1, e3.1, e2.1, e1.1]
  have gz5 : IsZip g5 zp ti to .ellipsis := e5.extBut _ _ (Ne.symm ap.a2) (e4.extBut _ _ (Ne.symm ap.a4) (e3.extBut _ _ (Ne.symm ap.a2) (e2.extBut _ _ (Ne.symm ap.a3) gz1)))
  have k5 : ∀ c o, c ≠ zp → c ≠ to → c ≠ j1 → c ≠ j2 → s.heap.get? c = some o → g5.get? c = some o := fun c o c1 c2 c3 c4 q =>
    e5.extBut _ _ c2 (e4.extBut _ _ c4 (e3.extBut _ _ c2 (e2.extBut _ _ c3 (e1.extBut _ _ c1 q))))
  have t1c : S1 (i + 1) g5 := D1.frame _ _ _ t1b fun c hc o q => by
    rw [List.mem_singleton.mp hc] at q ⊢
    exact e5.extBut _ _ (Ne.symm ap.a8) (e4.extBut _ _ ap.a10 (e3.extBut _ _ (Ne.symm ap.a8) q))
  have t2c : S2 (i + 1) g5 := D2.frame _ _ _ t2b fun c hc o q => by
    rw [List.mem_singleton.mp hc] at q ⊢
    exact e5.extBut _ _ (Ne.symm ap.a9) q
  have zl : zp < g5.objs.size := Heap.lt_size gz5
  show wpAny _ _ (Builtin.SmallTypes.ownedTupleHandOut (.ref zp) (.ref g5.objs.size) >>= _) _ _ _
  apply wpAny_bind
  unfold Builtin.SmallTypes.ownedTupleHandOut
  have gz6 : IsZip (g5.push { cls := .type "tuple", data := .seq #[x, y] }) zp ti to .ellipsis := Heap.get?_push_of_some _ gz5
  refine wpAny_bind (wpAny_setField_rec gz6 (by simp) fun g7 gz7 e7 => ?_)
  have gz7 : IsZip g7 zp ti to (rawInt g5.objs.size) := gz7
  refine wpAny_setField_rec gz7 (by simp) fun g8 gz8 e8 => ?_
  have gz8 : IsZip g8 zp ti to (rawInt g5.objs.size) := gz8
  have up8 : ∀ c o, c ≠ zp → g5.get? c = some o → g8.get? c = some o := fun c o c1 q => e8.extBut _ _ c1 (e7.extBut _ _ c1 (Heap.get?_push_of_some _ q))
  have gt8 : IsPair g8 g5.objs.size x y := e8.extBut _ _ (Nat.ne_of_gt zl) (e7.extBut _ _ (Nat.ne_of_gt zl) (Heap.get?_push_size _ rfl))
  rw [sz] at gz8 gt8
  refine wpAny_pure ⟨_, rfl, ?u7⟩
  show Q (.ref g5.objs.size) _
  rw [sz]
  exact hq g8 _ x y px py gz8 (up8 _ _ ap.a2 go5) (D1.frame _ _ _ t1c fun c hc o q => up8 _ _ (by rw [List.mem_singleton.mp hc]; exact ap.a3) q) (D2.frame _ _ _ t2c fun c hc o q => up8 _ _ (by rw [List.mem_singleton.mp hc]; exact ap.a4) q) gt8
    fun c o c1 c2 c3 c4 q => up8 _ _ c1 (k5 _ _ c1 c2 c3 c4 q)
def DoneAt (prog : Program) (w : World) (A : Around) (it : Addr) (S : Heap → Prop) : Prop := ∀ (s : Shared) (Q : Value → Shared → Prop) (E : Value → Shared → Prop), S s.heap →
    (∀ h' e, Heap.ExtBut it s.heap h' → (∃ o, h'.get? e = some o ∧ o.cls = .type "StopIteration") → E (.ref e) { s with heap := h' }) → wpAny (model prog w) A (Builtin.SmallTypes.nextOf (.ref it)) Q E s
theorem DoneAt.of_in1 {it : Addr} {S : Heap → Prop} (D : DoneAt prog w A.in1 it S) : DoneAt prog w A it S := fun s Q E st hE => wpAny_of_in1 (D s Q E st hE)
theorem zipD_end {Q : Fin → Shared → Prop} (ap : Apt zp ti to j1 j2) (D1 : Draws prog w A j1 [j1] n1 P1 S1) (D2 : Draws prog w A j2 [j2] n2 P2 S2)
    (gz : IsZip s.heap zp ti to .none) (gi : IsPair s.heap ti (.ref j1) (.ref j2)) (go : IsPair s.heap to a b) (t1 : S1 i s.heap) (t2 : S2 i s.heap) (hend : DoneAt prog w A j1 (S1 i) ∨ (i < n1 ∧ DoneAt prog w A j2 (S2 i)))
    (hE : ∀ h' e tk, (∀ c o, c ≠ zp → c ≠ to → c ≠ j1 → c ≠ j2 → s.heap.get? c = some o → h'.get? c = some o) → (∃ o, h'.get? e = some o ∧ o.cls = .type "StopIteration") → E (.ref e) { s with heap := h', toks := tk }) :
    wpAny (model prog w) A (Builtin.«zip.__next__» ⟨[.ref zp], []⟩) Q E s := by
  show wpAny _ _ (field (.ref zp) 2 >>= _) _ _ _
  refine wpAny_bind (wpAny_field gz rfl (x := .bool false) rfl ?_)
  show wpAny _ _ (field (.ref zp) 3 >>= _) _ _ _
  refine wpAny_bind (wpAny_field gz rfl (x := .ref ti) rfl ?_)
  refine wpAny_bind (wpAny_seqItems gi rfl ?_)
  show wpAny _ _ (Builtin.SmallTypes.ownedTupleIsFree (.ref zp) >>= _) _ _ _
  apply wpAny_bind
  unfold Builtin.SmallTypes.ownedTupleIsFree
  refine wpAny_bind (wpAny_field gz rfl (x := Value.none) rfl (wpAny_pure ?_))
  rw [if_pos rfl]
  refine wpAny_bind (wpAny_rule ?u1)
  refine wpAny_bind (wpAny_field gz rfl (x := .ref to) rfl ?_)
  refine wpAny_bind (wpAny_setField_rec gz (by simp) fun g1 gz1 e1 => ?_)
  have gz1 : IsZip g1 zp ti to .ellipsis := gz1
  apply wpAny_bind
  simp only [List.zipIdx_cons, List.zipIdx_nil, List.forIn_nil, List.forIn_cons]
  refine wpAny_bind (wpAny_bind (wpAny_onRaise ?u2))
  show wpAny _ _ (Builtin.SmallTypes.nextOf (.ref j1) >>= _) _ _ _
  have t1a : S1 i g1 := D1.frame _ _ _ t1 fun c hc o q => e1.extBut _ _ (by rw [List.mem_singleton.mp hc]; exact ap.a3) q
  rcases hend with dn | ⟨l1, dn⟩
  · refine wpAny_bind (dn _ _ _ t1a fun g2 e e2 he => ?_)
    obtain ⟨oe, ho, hc⟩ := he
    have gz2 : IsZip g2 zp ti to .ellipsis := e2 _ _ (Ne.symm ap.a3) gz1
    have ne : e ≠ zp := fun q => by subst q; rw [gz2] at ho; cases ho; simp at hc
    exact wpAny_setField_rec gz2 (by simp) fun g3 _ e3 => hE g3 e _ (fun c o c1 _ c3 _ q => e3.extBut _ _ c1 (e2 _ _ c3 (e1.extBut _ _ c1 q))) ⟨oe, e3.extBut _ _ ne ho, hc⟩
  · refine wpAny_bind (D1.item i _ _ _ l1 t1a fun x g2 tk px t1b e2 => wpAny_pure ?_)
    have go2 : IsPair g2 to a b := e2.extBut _ _ ap.a8 (e1.extBut _ _ ap.a2 go)
    refine wpAny_bind (wpAny_seqItems go2 rfl ?_)
    refine wpAny_bind (wpAny_updateSeq_pair go2 fun g3 go3 e3 => ?_)
    refine wpAny_bind (wpAny_letGo (wpAny_pure ?u3))
    refine wpAny_bind (wpAny_bind (wpAny_onRaise ?u4))
    show wpAny _ _ (Builtin.SmallTypes.nextOf (.ref j2) >>= _) _ _ _
    have t2a : S2 i g3 := D2.frame _ _ _ t2 fun c hc o q => by
      rw [List.mem_singleton.mp hc] at q ⊢
      exact e3.extBut _ _ (Ne.symm ap.a9) (e2.extBut _ _ (Ne.symm ap.a10) (e1.extBut _ _ ap.a4 q))
    refine wpAny_bind (dn _ _ _ t2a fun g4 e e4 he => ?_)
    obtain ⟨oe, ho, hc⟩ := he
    have gz4 : IsZip g4 zp ti to .ellipsis := e4 _ _ (Ne.symm ap.a4) (e3.extBut _ _ (Ne.symm ap.a2) (e2.extBut _ _ (Ne.symm ap.a3) gz1))
    have ne : e ≠ zp := fun q => by subst q; rw [gz4] at ho; cases ho; simp at hc
    exact wpAny_setField_rec gz4 (by simp) fun g5 _ e5 => hE g5 e _ (fun c o c1 c2 c3 c4 q => e5.extBut _ _ c1 (e4 _ _ c4 (e3.extBut _ _ c2 (e2.extBut _ _ c3 (e1.extBut _ _ c1 q))))) ⟨oe, e5.extBut _ _ ne ho, hc⟩
theorem nextD_item {Q : Option Value → Shared → Prop} (ap : Apt zp ti to j1 j2) (D1 : Draws prog w A.in1 j1 [j1] n1 P1 S1) (D2 : Draws prog w A.in1 j2 [j2] n2 P2 S2)
    (gz : IsZip s.heap zp ti to .none) (gi : IsPair s.heap ti (.ref j1) (.ref j2)) (go : IsPair s.heap to a b) (t1 : S1 i s.heap) (t2 : S2 i s.heap) (l1 : i < n1) (l2 : i < n2)
    (hq : ∀ h' tk x y, P1 i x → P2 i y → IsZip h' zp ti to (rawInt s.heap.objs.size) → IsPair h' to x y → S1 (i + 1) h' → S2 (i + 1) h' → IsPair h' s.heap.objs.size x y →
      (∀ c o, c ≠ zp → c ≠ to → c ≠ j1 → c ≠ j2 → s.heap.get? c = some o → h'.get? c = some o) → Q (some (.ref s.heap.objs.size)) { s with heap := h', toks := tk }) :
    wpAny (model prog w) A (pyNext (.ref zp)) Q E s := by
  have ty : s.TypeIs (.ref zp) "zip" := ⟨_, gz, rfl⟩
  unfold pyNext
  refine wpAny_bind (wpAny_attempt (wpAny_callSpecial?_slot (name := Str.ofString "__next__") ty F.slot_zip_next (wpAny_call_entry F.slot_zip_next ty F.entry_zip_next ?_ (F.args_zip_next_1 _))))
  exact zipD_item ap D1 D2 gz gi go t1 t2 l1 l2 fun h' tk x y b1 b2 b3 b4 b5 b6 b7 b8 => wpAny_pure (hq h' tk x y b1 b2 b3 b4 b5 b6 b7 b8)
theorem nextD_end {Q : Option Value → Shared → Prop} (ap : Apt zp ti to j1 j2) (D1 : Draws prog w A.in1 j1 [j1] n1 P1 S1) (D2 : Draws prog w A.in1 j2 [j2] n2 P2 S2)
    (gz : IsZip s.heap zp ti to .none) (gi : IsPair s.heap ti (.ref j1) (.ref j2)) (go : IsPair s.heap to a b) (t1 : S1 i s.heap) (t2 : S2 i s.heap) (hend : DoneAt prog w A.in1 j1 (S1 i) ∨ (i < n1 ∧ DoneAt prog w A.in1 j2 (S2 i)))
    (hq : ∀ h' tk, (∀ c o, c ≠ zp → c ≠ to → c ≠ j1 → c ≠ j2 → s.heap.get? c = some o → h'.get? c = some o) → Q none { s with heap := h', toks := tk }) : wpAny (model prog w) A (pyNext (.ref zp)) Q E s := by
  have ty : s.TypeIs (.ref zp) "zip" := ⟨_, gz, rfl⟩
  unfold pyNext
  refine wpAny_bind (wpAny_attempt (wpAny_callSpecial?_slot (name := Str.ofString "__next__") ty F.slot_zip_next (wpAny_call_entry F.slot_zip_next ty F.entry_zip_next ?_ (F.args_zip_next_1 _))))
  refine zipD_end ap D1 D2 gz gi go t1 t2 hend fun h' e tk hk he => ?_
  obtain ⟨o, ho, hc⟩ := he
  refine wpAny_bind (wpAny_isInstance (T := "StopIteration") (b := true) ⟨o, ho, hc⟩ isSubtype_stop ?_)
  exact wpAny_pure (hq _ _ hk)
end
abbrev w1 (h : Heap) (x1 : Str) (u1 : Tok) : Heap := h.push { cls := .type (strIterType x1), data := .fields #[.str x1 u1, .int 0 0] }
abbrev w2 (h : Heap) (x1 x2 : Str) (u1 u2 : Tok) : Heap := (w1 h x1 u1).push { cls := .type (strIterType x2), data := .fields #[.str x2 u2, .int 0 0] }
abbrev w3 (h : Heap) (x1 x2 : Str) (u1 u2 : Tok) : Heap := (w2 h x1 x2 u1 u2).push { cls := .type "tuple", data := .seq #[.ref h.objs.size, .ref (w1 h x1 u1).objs.size] }
abbrev w4 (h : Heap) (x1 x2 : Str) (u1 u2 : Tok) : Heap := (w3 h x1 x2 u1 u2).push { cls := .type "tuple", data := .seq #[.none, .none] }
abbrev w5 (h : Heap) (x1 x2 : Str) (u1 u2 : Tok) : Heap := (w4 h x1 x2 u1 u2).push { cls := .type "zip", data := .fields #[.none, .bool false, .bool false, .ref (w2 h x1 x2 u1 u2).objs.size, .ref (w3 h x1 x2 u1 u2).objs.size] }
theorem meets_zipS (x1 x2 : Str) (u1 u2 : Tok) :
    Meets (Builtin.«zip.__new__» ⟨[.type "zip", .str x1 u1, .str x2 u2], []⟩) (fun _ R s => R (.ok (.ret (.ref (w4 s.heap x1 x2 u1 u2).objs.size))) { s with heap := w5 s.heap x1 x2 u1 u2 }) :=
  .of_wp fun prog w A R s h => by
    obtain ⟨hp, g, d, tk, os⟩ := s
    have hz := sub_zip
    wp_walk using wpAny_pyIter_strU
    exact ⟨_, rfl, h⟩
theorem call_zipS {x1 x2 : Str} {u1 u2 : Tok} {Q : Value → Shared → Prop}
    (h : ∀ h', IsZip h' (s.heap.objs.size + 4) (s.heap.objs.size + 2) (s.heap.objs.size + 3) .none → IsPair h' (s.heap.objs.size + 2) (.ref s.heap.objs.size) (.ref (s.heap.objs.size + 1)) →
      IsPair h' (s.heap.objs.size + 3) .none .none → h'.IsStrIter s.heap.objs.size (strIterType x1) x1 u1 0 → h'.IsStrIter (s.heap.objs.size + 1) (strIterType x2) x2 u2 0 →
      (∀ c o, s.heap.get? c = some o → h'.get? c = some o) → Q (.ref (s.heap.objs.size + 4)) { s with heap := h' }) :
    wpAny (model prog w) A (call (.type "zip") [.str x1 u1, .str x2 u2]) Q E s := by
  refine callType_new F.called_zip (by decide) (F.typeCall_zip_2 _ _) (F.newCall_zip_2 _ _) (fun obj => F.args_object_init_3 obj _ _) F.entry_zip_new (meets_zipS x1 x2 u1 u2) ?_
  show _ ∧ _
  unfold w5 w4 w3 w2 w1
  generalize e1 : s.heap.push { cls := .type (strIterType x1), data := .fields #[.str x1 u1, .int 0 0] } = k1
  have s1 : k1.objs.size = s.heap.objs.size + 1 := by rw [← e1]; exact Heap.size_push ..
  generalize e2 : k1.push { cls := .type (strIterType x2), data := .fields #[.str x2 u2, .int 0 0] } = k2
  have s2 : k2.objs.size = s.heap.objs.size + 2 := by rw [← e2, Heap.size_push, s1]
  rw [s1]
  generalize e3 : k2.push { cls := .type "tuple", data := .seq #[.ref s.heap.objs.size, .ref (s.heap.objs.size + 1)] } = k3
  have s3 : k3.objs.size = s.heap.objs.size + 3 := by rw [← e3, Heap.size_push, s2]
  generalize e4 : k3.push { cls := .type "tuple", data := .seq #[.none, .none] } = k4
  have s4 : k4.objs.size = s.heap.objs.size + 4 := by rw [← e4, Heap.size_push, s3]
  rw [s2, s3]
  generalize e5 : k4.push { cls := .type "zip", data := .fields #[.none, .bool false, .bool false, .ref (s.heap.objs.size + 2), .ref (s.heap.objs.size + 3)] } = k5
  have p1 : ∀ c o, s.heap.get? c = some o → k1.get? c = some o := fun c o q => by rw [← e1]; exact Heap.get?_push_of_some _ q
  have p2 : ∀ c o, k1.get? c = some o → k2.get? c = some o := fun c o q => by rw [← e2]; exact Heap.get?_push_of_some _ q
  have p3 : ∀ c o, k2.get? c = some o → k3.get? c = some o := fun c o q => by rw [← e3]; exact Heap.get?_push_of_some _ q
  have p4 : ∀ c o, k3.get? c = some o → k4.get? c = some o := fun c o q => by rw [← e4]; exact Heap.get?_push_of_some _ q
  have p5 : ∀ c o, k4.get? c = some o → k5.get? c = some o := fun c o q => by rw [← e5]; exact Heap.get?_push_of_some _ q
  have g1 : k1.get? s.heap.objs.size = some { cls := .type (strIterType x1), data := .fields #[.str x1 u1, .int 0 0] } := by rw [← e1]; exact Heap.get?_push_size _ rfl
  have g2 : k2.get? (s.heap.objs.size + 1) = some { cls := .type (strIterType x2), data := .fields #[.str x2 u2, .int 0 0] } := by rw [← e2, ← s1]; exact Heap.get?_push_size _ rfl
  have g3 : k3.get? (s.heap.objs.size + 2) = some { cls := .type "tuple", data := .seq #[.ref s.heap.objs.size, .ref (s.heap.objs.size + 1)] } := by rw [← e3, ← s2]; exact Heap.get?_push_size _ rfl
  have g4 : k4.get? (s.heap.objs.size + 3) = some { cls := .type "tuple", data := .seq #[.none, .none] } := by rw [← e4, ← s3]; exact Heap.get?_push_size _ rfl
  have g5 : k5.get? (s.heap.objs.size + 4) = some { cls := .type "zip", data := .fields #[.none, .bool false, .bool false, .ref (s.heap.objs.size + 2), .ref (s.heap.objs.size + 3)] } := by rw [← e5, ← s4]; exact Heap.get?_push_size _ rfl
  rw [s4]
  exact ⟨⟨_, g5, rfl⟩, h _ g5 (p5 _ _ (p4 _ _ g3)) (p5 _ _ g4) ⟨_, p5 _ _ (p4 _ _ (p3 _ _ (p2 _ _ g1))), rfl, rfl⟩ ⟨_, p5 _ _ (p4 _ _ (p3 _ _ g2)), rfl, rfl⟩ fun c o q => p5 _ _ (p4 _ _ (p3 _ _ (p2 _ _ (p1 _ _ q))))⟩
end
/-- two texts' signs in new pairs -/
def ItzS (x y : Str) : It :=
  ⟨fun i _ => i < x.cps.size ∧ i < y.cps.size, fun i H v H' => ∃ T c d, v = .ref T ∧ H T = none ∧ H' = upd H T (.tup [.str ⟨#[c]⟩, .str ⟨#[d]⟩]) ∧ x.cps[i]? = some c ∧ y.cps[i]? = some d, fun i _ => x.cps.size ≤ i ∨ (i < x.cps.size ∧ y.cps.size ≤ i)⟩
theorem drawsS {prog : Program} {w : World} {A : Around} (hh : A.handled = none) (it : Addr) (x : Str) (t : Tok) : Draws prog w A it [it] x.cps.size (fun i v => ∃ c u, x.cps[i]? = some c ∧ v = .str ⟨#[c]⟩ u) (fun i h => h.IsStrIter it (strIterType x) x t i) := by
  unfold strIterType
  split
  · exact Draws.strAscii hh it x t
  · exact Draws.strWide hh it x t
theorem doneS {prog : Program} {w : World} {A : Around} (hh : A.handled = none) (it : Addr) (x : Str) (t : Tok) {i : Nat} (h : x.cps.size ≤ i) : DoneAt prog w A it (fun h => h.IsStrIter it (strIterType x) x t i) := fun s Q E st hE => by
  have hn : x.cps[i]? = none := Array.getElem?_eq_none h
  unfold strIterType at st
  split at st
  · exact wpAny_nextOf_ascii_end hh st hn hE
  · exact wpAny_nextOf_wide_end hh st hn hE
theorem turn_zipS {P : Program} {w : World} {K : PySem.W.Frag} {elts : List Expr} {kk : Nat} {tpos : Pos} {x y : Str} {u1 u2 : Tok} {zp ti to j1 j2 : Addr} (ap : Apt zp ti to j1 j2) :
    Turn P w K (.Tuple elts kk tpos) (ItzS x y) [zp, ti, to, j1, j2] zp (fun i h => IsZip h zp ti to .none ∧ IsPair h ti (.ref j1) (.ref j2) ∧ (∃ a b, IsPair h to a b) ∧ h.IsStrIter j1 (strIterType x) x u1 i ∧ h.IsStrIter j2 (strIterType y) y u2 i) where
  mem := by simp
  obj := fun i h st c hc => by
    obtain ⟨gz, gi, ⟨a, b, go⟩, ⟨o1, q1, _, d1⟩, ⟨o2, q2, _, d2⟩⟩ := st
    have e' : c = zp ∨ c = ti ∨ c = to ∨ c = j1 ∨ c = j2 := by simpa using hc
    rcases e' with e | e | e | e | e
    · rw [e]; exact ⟨_, gz, fun v q => nomatch q⟩
    · rw [e]; exact ⟨_, gi, fun v q => nomatch q⟩
    · rw [e]; exact ⟨_, go, fun v q => nomatch q⟩
    · rw [e]; exact ⟨o1, q1, fun v q => by rw [d1] at q; cases q⟩
    · rw [e]; exact ⟨o2, q2, fun v q => by rw [d2] at q; cases q⟩
  keep := fun i h h' st k => by
    obtain ⟨gz, gi, ⟨a, b, go⟩, ⟨o1, q1, r1⟩, ⟨o2, q2, r2⟩⟩ := st
    exact ⟨k zp (by simp) _ gz, k ti (by simp) _ gi, ⟨a, b, k to (by simp) _ go⟩, ⟨o1, k j1 (by simp) o1 q1, r1⟩, ⟨o2, k j2 (by simp) o2 q2, r2⟩⟩
  item := by
    intro X hP hw hK hc i pins s σ H E I hf st hg
    subst hP hw hK
    obtain ⟨gz, gi, ⟨a, b, go⟩, t1, t2⟩ := st
    have zl : zp < s.heap.objs.size := Heap.lt_size gz
    refine nextD_item (S1 := fun i h => h.IsStrIter j1 (strIterType x) x u1 i) (S2 := fun i h => h.IsStrIter j2 (strIterType y) y u2 i) ap (drawsS (A := X.A.in1) (I.ok.hd hc) j1 x u1) (drawsS (A := X.A.in1) (I.ok.hd hc) j2 y u2) gz gi go t1 t2 hg.1 hg.2 fun h' tk p q hp hq' gz' go' t1' t2' gT hk => ?_
    obtain ⟨c, v1, hc1, rfl⟩ := hp
    obtain ⟨d, v2, hd1, rfl⟩ := hq'
    refine ⟨_, rfl, wpAny_letOwnedTupleGo_zip (s := { s with heap := h', toks := tk }) gz' fun h'' gz'' sb => ?_⟩
    have gT2 : h''.get? s.heap.objs.size = some { cls := .type "tuple", data := .seq #[.str ⟨#[c]⟩ v1, .str ⟨#[d]⟩ v2] } := (sb.2 _ (Nat.ne_of_gt zl)).trans gT
    have new : ObjOk X.prog X.w (upd H s.heap.objs.size (.tup [.str ⟨#[c]⟩, .str ⟨#[d]⟩])) h'' s.heap.objs.size (.tup [.str ⟨#[c]⟩, .str ⟨#[d]⟩]) :=
      ⟨by show 2 ≤ sizeLine; decide, [.str ⟨#[c]⟩ v1, .str ⟨#[d]⟩ v2], .cons ⟨_, rfl⟩ (.cons ⟨_, rfl⟩ .nil), ⟨_, gT2, rfl, _, rfl⟩⟩
    have I1 : Inv X pins σ (upd H s.heap.objs.size (.tup [.str ⟨#[c]⟩, .str ⟨#[d]⟩])) { s with heap := h'', toks := tk } :=
      I.turnedNew (ch := [zp, ti, to, j1, j2]) (fun m o hb q => (sb.2 m (fun q' => hb (by simp [q']))).trans (hk m o (fun q' => hb (by simp [q'])) (fun q' => hb (by simp [q'])) (fun q' => hb (by simp [q'])) (fun q' => hb (by simp [q'])) q)) hf (Nat.le_refl _) new
    refine ⟨.ref s.heap.objs.size, _, I1, rfl, ⟨_, c, d, rfl, I.hok.fresh (Nat.le_refl _), rfl, hc1, hd1⟩, ⟨gz'', ?_, ⟨.str ⟨#[c]⟩ v1, .str ⟨#[d]⟩ v2, ?_⟩, ?_, ?_⟩, fun m hm => ?_⟩
    · exact (sb.2 _ ap.a1).trans (hk _ _ ap.a1 ap.a5 ap.a6 ap.a7 gi)
    · exact (sb.2 _ ap.a2).trans go'
    · obtain ⟨o1, q1, r1⟩ := t1'; exact ⟨o1, (sb.2 _ ap.a3).trans q1, r1⟩
    · obtain ⟨o2, q2, r2⟩ := t2'; exact ⟨o2, (sb.2 _ ap.a4).trans q2, r2⟩
    · have lt : m < s.heap.objs.size := by
        have e' : m = zp ∨ m = ti ∨ m = to ∨ m = j1 ∨ m = j2 := by simpa using hm
        rcases e' with e | e | e | e | e
        · rw [e]; exact zl
        · rw [e]; exact Heap.lt_size gi
        · rw [e]; exact Heap.lt_size go
        · rw [e]; obtain ⟨_, q1, _⟩ := t1; exact Heap.lt_size q1
        · rw [e]; obtain ⟨_, q2, _⟩ := t2; exact Heap.lt_size q2
      rw [upd_ne (Nat.ne_of_lt lt)]
      exact (hf m hm).1
  done := by
    intro X hP hw hK hc i pins s σ H E I hf st hg
    subst hP hw hK
    obtain ⟨gz, gi, ⟨a, b, go⟩, t1, t2⟩ := st
    refine nextD_end (S1 := fun i h => h.IsStrIter j1 (strIterType x) x u1 i) (S2 := fun i h => h.IsStrIter j2 (strIterType y) y u2 i) ap (drawsS (A := X.A.in1) (I.ok.hd hc) j1 x u1) (drawsS (A := X.A.in1) (I.ok.hd hc) j2 y u2) gz gi go t1 t2 (hg.imp (fun q => doneS (A := X.A.in1) (I.ok.hd hc) j1 x u1 q) fun q => ⟨q.1, doneS (A := X.A.in1) (I.ok.hd hc) j2 y u2 q.2⟩) fun h' tk hk => ?_
    exact ⟨rfl, I.turnedL (t' := tk) (ch := [zp, ti, to, j1, j2]) (fun m o hb q => hk m o (fun q' => hb (by simp [q'])) (fun q' => hb (by simp [q'])) (fun q' => hb (by simp [q'])) (fun q' => hb (by simp [q'])) q) hf⟩
  self := fun A i s Q E st h => wpAny_pyIter_zip st.1 h
/-- zip of two lists, two tuples, two texts -/
theorem pi_zipB {X : Cx} {e e2 : Expr} {ta : TA} {p pos tpos : Pos} {elts : List Expr} {kk : Nat} (hg : Gl X "zip") (hm : X.mg "zip" = none) (ha : PA X [e, e2] ta)
    (hs : starEach [e, e2] X.env = (false, eval e X.env) :: starEach [e2] X.env) (hpl : (backTo pos (starEach [e2] X.env)).any (·.1) = false) :
    PI X (.Tuple elts kk tpos) (.Call (.Name "zip" p) [e, e2] [] pos) (fun σ H R => ta σ H fun vs H1 => (∃ a b xs ys, vs = [.ref a, .ref b] ∧ ((SqL X.K H1 a xs ∧ SqL X.K H1 b ys ∧ R (Itz X.K a b) H1) ∨ (SqT X.K H1 a xs ∧ SqT X.K H1 b ys ∧ R (RZ.ItzT X.K a b) H1))) ∨ ∃ x y, vs = [.str x, .str y] ∧ R (ItzS x y) H1) := by
  refine ⟨fun pins s σ H R I h => ?_⟩
  refine Call_ (ld_blt I hg hm PyProof.Rows.boot_zip (PyProof.Rows.callWith_type1 (thn (ha.run pos pins s σ H _ I h) fun us s1 ⟨vs, H1, I1, r1, q1⟩ => ?_) hs hpl))
  have fr : ∀ c, c ∈ [s1.heap.objs.size + 4, s1.heap.objs.size + 2, s1.heap.objs.size + 3, s1.heap.objs.size, s1.heap.objs.size + 1] → FpOk X pins H1 c := fun c hcm => by
    have hle : s1.heap.objs.size ≤ c := by
      have e' : c = s1.heap.objs.size + 4 ∨ c = s1.heap.objs.size + 2 ∨ c = s1.heap.objs.size + 3 ∨ c = s1.heap.objs.size ∨ c = s1.heap.objs.size + 1 := by simpa using hcm
      rcases e' with q | q | q | q | q <;> rw [q] <;> simp
    exact I1.fpOk hle (I1.hok.fresh hle)
  rcases q1 with ⟨a, b, xs, ys, ex, q1⟩ | ⟨x, y, ex, q⟩
  · subst ex
    cases r1 with
    | cons r rr =>
      cases rr with
      | cons r' rr =>
        cases rr
        cases r
        cases r'
        rcases q1 with ⟨hqx, hqy, q⟩ | ⟨hqx, hqy, q⟩
        · obtain ⟨its, rv, p1, _⟩ := I1.list hqx
          obtain ⟨its2, rv2, p2, _⟩ := I1.list hqy
          refine call_zip_2 p1.isList p2.isList fun h' gz gi go t1 t2 _ hk => wpAny_pyIter_zip gz ?_
          exact ⟨_, _, _, _, H1, rfl, I1.kept (t' := s1.toks) hk, turn_zip (PySem.W.ktu_apart s1.heap.objs.size a b p1.lt p2.lt), ⟨gz, gi, ⟨_, _, go⟩, t1, t2⟩, fr, q⟩
        · obtain ⟨its, rv, p1, _⟩ := I1.tuple hqx
          obtain ⟨its2, rv2, p2, _⟩ := I1.tuple hqy
          obtain ⟨o1, ho1, _⟩ := id p1
          obtain ⟨o2, ho2, _⟩ := id p2
          refine RZ.call_zipT (show s1.heap.IsTuple a its.toArray from p1) (show s1.heap.IsTuple b its2.toArray from p2) fun h' gz gi go t1 t2 _ hk => wpAny_pyIter_zip gz ?_
          exact ⟨_, _, _, _, H1, rfl, I1.kept (t' := s1.toks) hk, RZ.turn_zipT (PySem.W.ktu_apart s1.heap.objs.size a b (Heap.lt_size ho1) (Heap.lt_size ho2)), ⟨gz, gi, ⟨_, _, go⟩, t1, t2⟩, fr, q⟩
  · subst ex
    obtain ⟨u1, u2, rfl⟩ : ∃ u1 u2, us = [.str x u1, .str y u2] := by
      cases r1 with
      | cons r rr =>
        cases rr with
        | cons r' rr =>
          cases rr
          obtain ⟨u1, rfl⟩ := r
          obtain ⟨u2, rfl⟩ := r'
          exact ⟨_, _, rfl⟩
    refine call_zipS fun h' gz gi go t1 t2 hk => wpAny_pyIter_zip gz ?_
    refine ⟨_, _, _, _, H1, rfl, I1.kept (t' := s1.toks) hk, turn_zipS (x := x) (y := y) (u1 := u1) (u2 := u2) ⟨?_, ?_, ?_, ?_, ?_, ?_, ?_, ?_, ?_, ?_⟩, ⟨gz, gi, ⟨_, _, go⟩, t1, t2⟩, fr, q⟩ <;> (intro z; have := congrArg (fun n : Nat => n) z; omega)
end Z

/-! ZX: sorted by a def, enumerate, zip, list(range), index, several targets -/
namespace Z
open PySem PySem.Spec PyProof.Rows L2 TL

/-! ### sorted(xs, key=f) -/
section
variable {X : Cx} {ca : Nat → Addr} {W : WX} {pos p p2 kp apos : Pos} {a b e : Expr} {fa fb f : St → R D} {fs : St → R (List D)}
def rSortK (X : Cx) (sp : Sp) (f : Addr) : List V → List V → Hp → VK → Prop := fun vs zs H Q => ∃ (l : Addr) (xs : List V) (kz : List Int) (J : Nat → Hp → Prop), vs = [.ref l] ∧ zs = [.ref f] ∧ SqL X.K H l xs ∧ kz.length = xs.length ∧ J 0 H ∧
  (∀ i v c H, xs[i]? = some v → kz[i]? = some c → J i H → sp [v] H (fun w H' => w = .int c ∧ J (i + 1) H') (fun _ _ _ => False)) ∧
  ∀ H' d (zs : List (Int × V)), J xs.length H' → H' d = none → zs.Perm (kz.zip xs) → zs.Pairwise (fun p q => p.1 ≤ q.1) → Q (.ref d) (upd H' d (.lst (zs.map Prod.snd)))
theorem cr_sortK {k : Nat} {f0 : Addr} {fd : FuncData} {q : Str} {sp : Sp} (FO : FnOk X.prog X.w X.K X.mg X.base (L2.CX X.prog X.w) k f0 fd [q] sp) (hr : Room (k + 2) X.A) (hb : Binds X.K fd [q] []) : CallRK X (.builtin "sorted") [Str.ofString "key"] (rSortK X sp f0) := by
  intro pins s σ H vs zs us ws Q I r rz h
  obtain ⟨l, xs, kz, J, rfl, rfl, hs, hl, h0, step, q⟩ := h
  obtain rfl := Vals.ref1 r
  obtain rfl := Vals.ref1 rz
  exact sorted_key I hs hl hr FO hb h0 step q
theorem keysC_len {C : Calls} {f : Nat} : ∀ {l : List D} {ks : List Int}, keysC C f l = some ks → ks.length = l.length
  | [], ks, h => by simp only [keysC, Option.some.injEq] at h; subst h; rfl
  | d :: l, ks, h => by
    simp only [keysC] at h
    split at h
    · obtain ⟨k, h1, h2⟩ := Option.map_eq_some_iff.mp h
      subst h2
      simp [keysC_len h1]
    · cases h
theorem keysC_get {C : Calls} {f : Nat} : ∀ {l : List D} {ks : List Int} {i : Nat} {d : D} {c : Int}, keysC C f l = some ks → l[i]? = some d → ks[i]? = some c → ∃ o, C f [.val d] = .ret (.int c) o
  | [], ks, i, d, c, h, h1, h2 => by simp at h1
  | x :: l, ks, i, d, c, h, h1, h2 => by
    simp only [keysC] at h
    split at h
    · rename_i k o e
      obtain ⟨k', h3, h4⟩ := Option.map_eq_some_iff.mp h
      subst h4
      cases i with
      | zero => simp at h1 h2; subst h1 h2; exact ⟨o, e⟩
      | succ i => exact keysC_get (i := i) h3 (by simpa using h1) (by simpa using h2)
    · cases h
theorem srtL_eq {α : Type} {ks : List Int} {l : List α} {zs : List (Int × α)} (hn : ks.Nodup) (hp : zs.Perm (ks.zip l)) (ho : zs.Pairwise fun p q => p.1 ≤ q.1) : zs.map Prod.snd = srtL ks l := by
  unfold srtL
  congr 1
  have p := List.mergeSort_perm (ks.zip l) (fun p q => decide (p.1 ≤ q.1))
  have o : ((ks.zip l).mergeSort fun p q => decide (p.1 ≤ q.1)).Pairwise (fun a b => decide (a.1 ≤ b.1) = true) := List.pairwise_mergeSort (fun a b c h k => by simp only [decide_eq_true_eq] at h k ⊢; omega) (fun a b => by by_cases h : a.1 ≤ b.1 <;> simp [h]; omega) _
  refine List.Perm.eq_of_pairwise (le := fun a b : Int × α => a.1 ≤ b.1) (fun a b ha hb h k => ?_) ho (o.imp fun {a b} h => of_decide_eq_true h) (hp.trans p.symm)
  have e : a.1 = b.1 := Int.le_antisymm h k
  have ma := hp.mem_iff.mp ha
  have mb := p.mem_iff.mp hb
  obtain ⟨i, hi⟩ := List.mem_iff_getElem?.mp ma
  obtain ⟨j, hj⟩ := List.mem_iff_getElem?.mp mb
  obtain ⟨i1, i2⟩ := List.getElem?_zip_eq_some.mp hi
  obtain ⟨j1, j2⟩ := List.getElem?_zip_eq_some.mp hj
  have li : i < ks.length := (List.getElem?_eq_some_iff.mp i1).1
  have lj : j < ks.length := (List.getElem?_eq_some_iff.mp j1).1
  have : i = j := (List.getElem?_inj li hn).mp (by rw [i1, j1, e])
  subst this
  rw [i2] at j2
  exact Prod.ext e (Option.some.inj j2)
theorem q_srtk {k : Nat} {f0 : Addr} {fd : FuncData} {q x : Str} {C : Calls} {fi : Nat} (FO : FnOk X.prog X.w X.K X.mg X.base (L2.CX X.prog X.w) k f0 fd [q] (SpOf X.K ca 1 (C fi))) (hr : Room (k + 2) X.A) (hb : Binds X.K fd [q] [])
    (hg : Gl X "sorted") (hm : X.mg "sorted" = none) (hg2 : Gl X x) (hm2 : X.mg x = some (.ref f0)) (hd2 : (x == ("__debug__" : Str)) = false) (ha : QE X ca W a fa) (hs : noStar a = true) :
    QE X ca W (.Call (.Name "sorted" p) [a] [⟨some "key", .Name x p2, kp⟩] pos) (fun r => (fa r).bind fun x r => .of (srtR C fi x) r) := by
  have hf : PE X (.Name x p2) (tC (.ref f0)) := pe_glob hg2 hm2 rfl hd2
  refine PE.weak (pe_callBK (cr_sortK FO hr hb) hg hm (by decide +kernel) (pa_cons ha pa_nil (star_cons hs)) (pk_cons hf pk_nil) (by decide) (by decide) (by rw [star_cons hs]; rfl) (by rw [star_cons hs]; rfl) rfl rfl rfl) fun σ H Q ⟨r, F, p0, h⟩ => ⟨r, F, p0, Fi.step h fun y r1 v H1 F1 p1 q1 h => ?_⟩
  cases e : srtR C fi y with
  | none => rw [e] at h; exact h.elim
  | some z =>
    rw [e] at h
    unfold srtR at e
    split at e
    · rename_i l
      split at e
      · rename_i ks ek
        split at e
        · rename_i hn
          cases e
          obtain ⟨a1, vs, rfl, s1, z1⟩ := Rep.lst_iff.mp q1
          refine ⟨a1, vs, ks, fun _ H' => ∃ F', Ps X.K r1 r1 σ H1 F1 H' F', rfl, rfl, SqL.up p1.rp.sub s1, by rw [keysC_len ek]; exact z1.length, ⟨F1, Ps.refl p1.rp⟩, fun i v c H2 hv hc ⟨F2, p2⟩ => ?_, fun H2 d zs ⟨F2, p2⟩ hd hp ho => ?_⟩
          · obtain ⟨dd, hdd⟩ : ∃ dd, l[i]? = some dd := ⟨_, List.getElem?_eq_getElem (by rw [z1.length]; exact (List.getElem?_eq_some_iff.mp hv).1)⟩
            obtain ⟨v', hv', rv⟩ := z1.get hdd
            rw [hv] at hv'
            cases hv'
            obtain ⟨o, ec⟩ := keysC_get ek hdd hc
            refine ⟨[dd].map .val, F2, rfl, vals_rp p2.rp.sub (Reps.cons (rv.mono p2.f) Reps.nil), fun i m z => vals_noL (i := i) (m := m) (by rw [z]; rfl), fun i m z => absurd (show ownL ([dd].map Slot.val)[i]? = some m by rw [z]; rfl) vals_noL, ?_⟩
            rw [show [dd].map Slot.val = [.val dd] from rfl, ec]
            exact fun w H3 F3 pc qw => ⟨Rep.int_iff.mp qw, F3, p2.trans (Pc.ps (l := [dd]) p2.rp pc)⟩
          · have z2 := z1.mono p2.f
            have hlk : ks.length = l.length := keysC_len ek
            -- data beside values
            obtain ⟨ys, yp, ye⟩ := perm_lift (fun t : Int × D × V => (t.1, t.2.2)) hp (ks.zip (l.zip vs)) (by
              have e : (ks.zip (l.zip vs)).map (fun t : Int × D × V => (t.1, t.2.2)) = ks.zip ((l.zip vs).map Prod.snd) := by
                rw [List.zip_map_right]; rfl
              rw [e, List.map_snd_zip (by rw [z1.length]; exact Nat.le_refl _)])
            have mem : ∀ y ∈ ys, Rep X.K F2 y.2.1 y.2.2 := fun y hy => by
              obtain ⟨j, hj⟩ := List.mem_iff_getElem?.mp (yp.mem_iff.mp hy)
              obtain ⟨h1, h2⟩ := List.getElem?_zip_eq_some.mp hj
              obtain ⟨h3, h4⟩ := List.getElem?_zip_eq_some.mp h2
              obtain ⟨u, h5, h6⟩ := z2.get h3
              rw [h4] at h5
              cases h5
              exact h6
            have rp : Reps X.K F2 (ys.map fun y => y.2.1) (ys.map fun y => y.2.2) := by
              clear yp ye
              induction ys with
              | nil => exact Reps.nil
              | cons y ys ih => exact Reps.cons (mem y List.mem_cons_self) (ih fun z hz => mem z (List.mem_cons_of_mem _ hz))
            have e1 : zs.map Prod.snd = ys.map fun y => y.2.2 := by rw [← ye, List.map_map]; rfl
            have e2 : srtL ks l = ys.map fun y => y.2.1 := by
              have yq : (ys.map fun y => (y.1, y.2.1)).Perm (ks.zip l) := by
                have h1 := yp.map fun y : Int × D × V => (y.1, y.2.1)
                have e : (ks.zip (l.zip vs)).map (fun p : Int × D × V => (p.1, p.2.1)) = ks.zip ((l.zip vs).map Prod.fst) := by
                  rw [List.zip_map_right]; rfl
                rw [e, List.map_fst_zip (by rw [z1.length]; exact Nat.le_refl _)] at h1
                exact h1
              have yo : (ys.map fun y => (y.1, y.2.1)).Pairwise (fun p q : Int × D => p.1 ≤ q.1) := by
                rw [← ye, List.pairwise_map] at ho
                rw [List.pairwise_map]
                exact ho
              rw [← srtL_eq hn yq yo, List.map_map]
              rfl
            have hn2 := p2.rp.new (o := .lst (zs.map Prod.snd)) hd
            refine h _ _ _ (p2.trans hn2) (Rep.lst_iff.mpr ⟨d, _, rfl, SqL.of upd_same, ?_⟩)
            have rp2 := rp.mono hn2.f
            rw [← e1] at rp2
            rw [e2]
            exact rp2
        · cases e
      · cases e
    · cases e
/-! ### enumerate, zip -/
theorem enumL_get {l : List D} : ∀ {k i : Nat} {d : D}, l[i]? = some d → (enumL k l)[i]? = some (.tup [.int ((k + i : Nat) : Int), d]) := by
  induction l with
  | nil => intro k i d h; simp at h
  | cons x l ih =>
    intro k i d h
    cases i with
    | zero => simp at h; subst h; simp [enumL]
    | succ i =>
      simp only [enumL, List.getElem?_cons_succ]
      rw [ih (by simpa using h)]
      simp; omega
theorem enumL_len {l : List D} : ∀ {k : Nat}, (enumL k l).length = l.length := by
  induction l with
  | nil => intro k; rfl
  | cons x l ih => intro k; simp [enumL, ih]
section
variable {K : PySem.W.Frag} {F : Hp}
/-- a new pair, frozen -/
theorem pair_new {r : St} {σ : L2.St} {H F' H' : Hp} {d1 d2 : D} {v1 v2 : V} {T : Addr} (p : Rp K r σ H F') (q1 : Rep K F' d1 v1) (q2 : Rep K F' d2 v2) (hT : H T = none) (e : H' = upd H T (.tup [v1, v2])) :
    ∃ F'', Ps K r r σ H F' H' F'' ∧ Rep K F'' (.tup [d1, d2]) (.ref T) := by
  subst e
  have hn := p.new (o := .tup [v1, v2]) hT
  exact ⟨_, hn, Rep.tup_iff.mpr ⟨T, _, rfl, SqT.of upd_same, Reps.cons (q1.mono hn.f) (Reps.cons (q2.mono hn.f) Reps.nil)⟩⟩
theorem wk_enumL {a : Addr} {vs : List V} {xs : List D} (s : SqL K F a vs) (q : Reps K F xs vs) : Wk K F (enumL 0 xs) (Ite K a) where
  go := fun {i r σ H F'} hi p sm => by
    rw [enumL_len] at hi
    obtain ⟨v, hv, _⟩ := q.get (List.getElem?_eq_getElem hi)
    exact ⟨vs, v, SqL.up (sm.trans p.sub) s, hv⟩
  stop := fun {i r σ H F'} hi p sm => by rw [enumL_len] at hi; exact ⟨vs, SqL.up (sm.trans p.sub) s, by rw [← q.length]; exact hi⟩
  yld := fun {i r σ H F' x H'} hi p sm y => by
    rw [enumL_len] at hi
    obtain ⟨T, v, rfl, hT, e, y⟩ := y
    have hd : xs[i]? = some xs[i] := List.getElem?_eq_getElem hi
    obtain ⟨v', hv', z⟩ := q.get hd
    rw [y vs (SqL.up (sm.trans p.sub) s)] at hv'
    cases hv'
    obtain ⟨F'', h1, h2⟩ := pair_new p (Rep.int_iff.mpr rfl) (z.mono sm) hT e
    exact ⟨_, F'', enumL_get hd, h1, by rw [Nat.zero_add]; exact h2⟩
theorem wk_enumT {a : Addr} {vs : List V} {xs : List D} (s : SqT K F a vs) (q : Reps K F xs vs) : Wk K F (enumL 0 xs) (ItE K a) where
  go := fun {i r σ H F'} hi p sm => by
    rw [enumL_len] at hi
    obtain ⟨v, hv, _⟩ := q.get (List.getElem?_eq_getElem hi)
    exact ⟨vs, v, SqT.up (sm.trans p.sub) s, hv⟩
  stop := fun {i r σ H F'} hi p sm => by rw [enumL_len] at hi; exact ⟨vs, SqT.up (sm.trans p.sub) s, by rw [← q.length]; exact hi⟩
  yld := fun {i r σ H F' x H'} hi p sm y => by
    rw [enumL_len] at hi
    obtain ⟨T, v, rfl, hT, e, y⟩ := y
    have hd : xs[i]? = some xs[i] := List.getElem?_eq_getElem hi
    obtain ⟨v', hv', z⟩ := q.get hd
    rw [y vs (SqT.up (sm.trans p.sub) s)] at hv'
    cases hv'
    obtain ⟨F'', h1, h2⟩ := pair_new p (Rep.int_iff.mpr rfl) (z.mono sm) hT e
    exact ⟨_, F'', enumL_get hd, h1, by rw [Nat.zero_add]; exact h2⟩
theorem wk_enumS {s : List Nat} (o : SOk s) : Wk K F (enumL 0 (s.map fun c => .str [c])) (ItES ⟨s.toArray⟩) where
  go := fun {i r σ H F'} hi p sm => by rw [enumL_len, List.length_map] at hi; exact (show i < (⟨s.toArray⟩ : Str).length by rw [len_mk]; exact hi)
  stop := fun {i r σ H F'} hi p sm => by rw [enumL_len, List.length_map] at hi; exact (show (⟨s.toArray⟩ : Str).length ≤ i by rw [len_mk]; exact hi)
  yld := fun {i r σ H F' x H'} hi p sm y => by
    rw [enumL_len, List.length_map] at hi
    obtain ⟨T, c, rfl, hT, e, hc⟩ := y
    have hc : s[i]? = some c := by simpa using hc
    have hd : (s.map fun c => D.str [c])[i]? = some (.str [c]) := by rw [List.getElem?_map, hc]; rfl
    obtain ⟨F'', h1, h2⟩ := pair_new p (Rep.int_iff.mpr rfl) (Rep.str_iff.mpr ⟨rfl, o.one (List.mem_of_getElem? hc)⟩) hT e
    exact ⟨_, F'', enumL_get hd, h1, by rw [Nat.zero_add]; exact h2⟩
theorem zipL_len : ∀ {xs ys : List D}, (zipL xs ys).length = min xs.length ys.length
  | [], _ => by simp [zipL]
  | _ :: _, [] => by simp [zipL]
  | _ :: xs, _ :: ys => by simp only [zipL, List.length_cons, zipL_len (xs := xs) (ys := ys)]; omega
theorem zipL_get : ∀ {xs ys : List D} {i : Nat} {d e : D}, xs[i]? = some d → ys[i]? = some e → (zipL xs ys)[i]? = some (.tup [d, e])
  | [], _, _, _, _, h, _ => by simp at h
  | _ :: _, [], _, _, _, _, h => by simp at h
  | x :: xs, y :: ys, 0, d, e, h, k => by simp at h k; subst h k; rfl
  | x :: xs, y :: ys, i + 1, d, e, h, k => by
    simp only [zipL, List.getElem?_cons_succ] at h k ⊢
    exact zipL_get h k
theorem wk_zipL {a b : Addr} {vs ws : List V} {xs ys : List D} (s : SqL K F a vs) (q : Reps K F xs vs) (s2 : SqL K F b ws) (q2 : Reps K F ys ws) : Wk K F (zipL xs ys) (Itz K a b) where
  go := fun {i r σ H F'} hi p sm => by
    rw [zipL_len] at hi
    obtain ⟨v, hv, _⟩ := q.get (List.getElem?_eq_getElem (i := i) (by omega))
    obtain ⟨w, hw, _⟩ := q2.get (List.getElem?_eq_getElem (i := i) (by omega))
    exact ⟨vs, ws, v, w, SqL.up (sm.trans p.sub) s, SqL.up (sm.trans p.sub) s2, hv, hw⟩
  stop := fun {i r σ H F'} hi p sm => by
    rw [zipL_len, q.length, q2.length] at hi
    exact ⟨vs, ws, SqL.up (sm.trans p.sub) s, SqL.up (sm.trans p.sub) s2, by omega⟩
  yld := fun {i r σ H F' x H'} hi p sm y => by
    rw [zipL_len] at hi
    obtain ⟨T, v, w, rfl, hT, e, y1, y2⟩ := y
    have hd : xs[i]? = some (xs[i]'(by omega)) := List.getElem?_eq_getElem _
    have he : ys[i]? = some (ys[i]'(by omega)) := List.getElem?_eq_getElem _
    obtain ⟨v', hv', z⟩ := q.get hd
    obtain ⟨w', hw', z2⟩ := q2.get he
    rw [y1 vs (SqL.up (sm.trans p.sub) s)] at hv'
    rw [y2 ws (SqL.up (sm.trans p.sub) s2)] at hw'
    cases hv'
    cases hw'
    obtain ⟨F'', h1, h2⟩ := pair_new p (z.mono sm) (z2.mono sm) hT e
    exact ⟨_, F'', zipL_get hd he, h1, h2⟩
theorem wk_zipS {s t : List Nat} (o : SOk s) (o2 : SOk t) : Wk K F (zipL (s.map fun c => .str [c]) (t.map fun c => .str [c])) (ItzS ⟨s.toArray⟩ ⟨t.toArray⟩) where
  go := fun {i r σ H F'} hi p sm => by
    rw [zipL_len, List.length_map, List.length_map] at hi
    exact (show i < (⟨s.toArray⟩ : Str).length ∧ i < (⟨t.toArray⟩ : Str).length by rw [len_mk, len_mk]; omega)
  stop := fun {i r σ H F'} hi p sm => by
    rw [zipL_len, List.length_map, List.length_map] at hi
    exact (show (⟨s.toArray⟩ : Str).length ≤ i ∨ (i < (⟨s.toArray⟩ : Str).length ∧ (⟨t.toArray⟩ : Str).length ≤ i) by rw [len_mk, len_mk]; omega)
  yld := fun {i r σ H F' x H'} hi p sm y => by
    obtain ⟨T, c, d, rfl, hT, e, hc, hd⟩ := y
    have hc : s[i]? = some c := by simpa using hc
    have hd : t[i]? = some d := by simpa using hd
    have g1 : (s.map fun c => D.str [c])[i]? = some (.str [c]) := by rw [List.getElem?_map, hc]; rfl
    have g2 : (t.map fun c => D.str [c])[i]? = some (.str [d]) := by rw [List.getElem?_map, hd]; rfl
    obtain ⟨F'', h1, h2⟩ := pair_new p (Rep.str_iff.mpr ⟨rfl, o.one (List.mem_of_getElem? hc)⟩) (Rep.str_iff.mpr ⟨rfl, o2.one (List.mem_of_getElem? hd)⟩) hT e
    exact ⟨_, F'', zipL_get g1 g2, h1, h2⟩
theorem wk_zipT {a b : Addr} {vs ws : List V} {xs ys : List D} (s : SqT K F a vs) (q : Reps K F xs vs) (s2 : SqT K F b ws) (q2 : Reps K F ys ws) : Wk K F (zipL xs ys) (RZ.ItzT K a b) where
  go := fun {i r σ H F'} hi p sm => by
    rw [zipL_len] at hi
    obtain ⟨v, hv, _⟩ := q.get (List.getElem?_eq_getElem (i := i) (by omega))
    obtain ⟨w, hw, _⟩ := q2.get (List.getElem?_eq_getElem (i := i) (by omega))
    exact ⟨vs, ws, v, w, SqT.up (sm.trans p.sub) s, SqT.up (sm.trans p.sub) s2, hv, hw⟩
  stop := fun {i r σ H F'} hi p sm => by
    rw [zipL_len, q.length, q2.length] at hi
    exact ⟨vs, ws, SqT.up (sm.trans p.sub) s, SqT.up (sm.trans p.sub) s2, by omega⟩
  yld := fun {i r σ H F' x H'} hi p sm y => by
    rw [zipL_len] at hi
    obtain ⟨T, v, w, rfl, hT, e, y1, y2⟩ := y
    have hd : xs[i]? = some (xs[i]'(by omega)) := List.getElem?_eq_getElem _
    have he : ys[i]? = some (ys[i]'(by omega)) := List.getElem?_eq_getElem _
    obtain ⟨v', hv', z⟩ := q.get hd
    obtain ⟨w', hw', z2⟩ := q2.get he
    rw [y1 vs (SqT.up (sm.trans p.sub) s)] at hv'
    rw [y2 ws (SqT.up (sm.trans p.sub) s2)] at hw'
    cases hv'
    cases hw'
    obtain ⟨F'', h1, h2⟩ := pair_new p (z.mono sm) (z2.mono sm) hT e
    exact ⟨_, F'', zipL_get hd he, h1, h2⟩
end
variable {tpos : Pos} {elts : List Expr} {kk : Nat}
theorem qi_enum (hg : Gl X "enumerate") (hm : X.mg "enumerate" = none) (ha : QE X ca W a fa) (hs : noStar a = true) : QI X ca W (.Tuple elts kk tpos) (.Call (.Name "enumerate" p) [a] [] pos) (fun r => (fa r).bind fun d r => .of ((itemsD d).map (enumL 0)) r) := by
  refine PI.weak (pi_enumA hg hm (pa_cons ha pa_nil (star_cons hs)) (star_cons hs)) fun σ H Q ⟨r, F, p0, h⟩ => ⟨r, F, p0, Fi.step h fun x r1 v H1 F1 p1 q1 h => ?_⟩
  cases x with
  | lst xs =>
    obtain ⟨a, vs, ev, s1, z1⟩ := Rep.lst_iff.mp q1
    subst ev
    exact .inl ⟨a, vs, rfl, SqL.up p1.rp.sub s1, h _ _ _ (Ps.refl p1.rp) (wk_enumL s1 z1)⟩
  | tup xs =>
    obtain ⟨a, vs, ev, s1, z1⟩ := Rep.tup_iff.mp q1
    subst ev
    exact .inr (.inl ⟨a, vs, rfl, SqT.up p1.rp.sub s1, h _ _ _ (Ps.refl p1.rp) (wk_enumT s1 z1)⟩)
  | str xs =>
    obtain ⟨ev, o⟩ := Rep.str_iff.mp q1
    subst ev
    exact .inr (.inr ⟨_, rfl, h _ _ _ (Ps.refl p1.rp) (wk_enumS o)⟩)
  | _ => exact h.elim
theorem qi_zip (hg : Gl X "zip") (hm : X.mg "zip" = none) (ha : QE X ca W a fa) (hb : QE X ca W b fb) (hs : noStar a = true) (hs2 : noStar b = true) : QI X ca W (.Tuple elts kk tpos) (.Call (.Name "zip" p) [a, b] [] pos) (fun r => (fa r).bind fun x r => (fb r).bind fun y r => .of (zipD x y) r) := by
  refine PI.weak (pi_zipB hg hm (pa_cons ha (pa_cons hb pa_nil (star_cons hs2)) (star_cons hs)) (star_cons hs) (star_any (by simp [hs2]))) fun σ H Q ⟨r, F, p0, h⟩ => ⟨r, F, p0, Fi.step h fun x r1 v H1 F1 p1 q1 h => ⟨r1, F1, p1.rp, Fi.step h fun y r2 w H2 F2 p2 q2 h => ?_⟩⟩
  cases e : zipD x y with
  | none => rw [e] at h; exact h.elim
  | some z =>
    rw [e] at h
    unfold zipD at e
    split at e
    · cases e
      obtain ⟨a1, vs, rfl, s1, z1⟩ := Rep.lst_iff.mp q1
      obtain ⟨b1, ws, rfl, s2, z2⟩ := Rep.lst_iff.mp q2
      exact .inl ⟨a1, b1, vs, ws, rfl, .inl ⟨SqL.up (p2.f.trans p2.rp.sub) s1, SqL.up p2.rp.sub s2, h _ _ _ (Ps.refl p2.rp) (wk_zipL (SqL.up p2.f s1) (z1.mono p2.f) s2 z2)⟩⟩
    · cases e
      obtain ⟨a1, vs, rfl, s1, z1⟩ := Rep.tup_iff.mp q1
      obtain ⟨b1, ws, rfl, s2, z2⟩ := Rep.tup_iff.mp q2
      exact .inl ⟨a1, b1, vs, ws, rfl, .inr ⟨SqT.up (p2.f.trans p2.rp.sub) s1, SqT.up p2.rp.sub s2, h _ _ _ (Ps.refl p2.rp) (wk_zipT (SqT.up p2.f s1) (z1.mono p2.f) s2 z2)⟩⟩
    · cases e
      obtain ⟨rfl, o1⟩ := Rep.str_iff.mp q1
      obtain ⟨rfl, o2⟩ := Rep.str_iff.mp q2
      exact .inr ⟨_, _, rfl, h _ _ _ (Ps.refl p2.rp) (wk_zipS o1 o2)⟩
    · cases e
end
end Z

/-! ZR: list(range(a, b)) whatever the ends, by either of the two iterators -/
namespace Z
open PySem PySem.Spec PyProof.Rows
section
variable {pg : Program} {wd : World} {A : Around} {E : Value → Shared → Prop} {s : Shared}
theorem ext_any {R : Result → Shared → Prop} {r : Addr} {a b c : Int} {t u v : Tok} {n : Nat} (noH : A.handled = none) (rg : IsRange s.heap r a b c t u v) (big : Builtin.Range.small a b c = false)
    (cnt : Builtin.Range.rangeSize a b c = n) (few : n ≤ 2 ^ 24) (S : Addr) (k : Nat) (lS : s.heap.get? S = some { cls := .type "list", data := .seq #[] k })
    (fin : ∀ g tk xs k', (∀ d o, d ≠ S → s.heap.get? d = some o → g.get? d = some o) → g.get? S = some { cls := .type "list", dict := none, data := .seq xs k', slots := #[] } →
      ItemsOf (fun i v => ∃ t, v = .int (a + i * c) t) xs n → R (.ok (.ret .none)) { s with heap := g, toks := tk }) :
    wpAny (model pg wd) A.in1 (Builtin.List.listExtendWith (.ref S) (.ref r) .none)
      (fun f s' => match f with | .done f => R (.ok f) s' | .again x => x.quiet = true ∧ codeAny (model pg wd) A x R s') (fun e s' => R (.error e) s') s := by
  have nr : S ≠ r := fun e => by rw [e, rg] at lS; simp at lS
  have lt := Heap.lt_size lS
  have nI : S ≠ s.heap.objs.size := Nat.ne_of_lt lt
  have W := (Walks.longrange (prog := pg) (w := wd) (A := A.in1) noH s.heap.objs.size a c n).toS
  have loop : ∀ (g : Heap) (k1 tk : Nat), IsLongIter g s.heap.objs.size (a + ((0 : Nat) : Int) * c) ((n : Int) - ((0 : Nat) : Int)) c → (∀ d o, d ≠ S → s.heap.get? d = some o → g.get? d = some o) →
      g.get? S = some { cls := .type "list", data := .seq #[] k1 } → codeAny (model pg wd) A (.builtin "list.extend.loop" ⟨[.ref S, .ref s.heap.objs.size, .none], []⟩) R { s with heap := g, toks := tk } := by
    intro g k1 tk li keep l1
    refine codeAny_extend_loopS W (by rw [sizeLine_eq]; omega) S (fun m => nI (List.mem_singleton.mp m)) .none n 0 _ #[] k1 rfl (Nat.zero_le _) li l1 (ItemsOf.nil _) fun s2 xs k' mv l2 it => ?_
    rw [Moved.eq_with mv]
    refine fin s2.heap s2.toks xs k' (fun d o nd e => mv.heap d o (fun mm => ?_) (keep d o nd e)) l2 it
    rcases List.mem_cons.mp mm with e' | mm
    · exact nd e'
    · exact absurd (Heap.lt_size e) (by rw [List.mem_singleton.mp mm]; exact Nat.lt_irrefl _)
  unfold Builtin.List.listExtendWith
  refine wpAny_bind (wpAny_typeOf (T := "range") ⟨_, rg, rfl⟩ ?_)
  simp only [show Builtin.List.listSameRef (.ref S) (.ref r) = false by simp [Builtin.List.listSameRef, nr], show (Value.type "range" == Value.type "list") = false by decide, show (Value.type "range" == Value.type "tuple") = false by decide, Bool.or_false, Bool.false_eq_true, if_false]
  refine wpAny_bind (wpAny_pyIter_longrange rg big ?_)
  refine wpAny_bind (wpAny_holding (wpAny_hint_range (n := n) (Heap.get?_push_of_some _ rg) cnt few ?_))
  have it1 : IsLongIter (s.heap.push { cls := .type "longrange_iterator", data := .fields #[rawInt a, rawInt (Builtin.Range.rangeSize a b c), rawInt c] }) s.heap.objs.size (a + ((0 : Nat) : Int) * c) ((n : Int) - ((0 : Nat) : Int)) c := by
    show IsLongIter _ _ _ _ _
    rw [cnt]
    simpa using Heap.get?_push_size _ rfl
  have l1 := Heap.get?_push_of_some { cls := .type "longrange_iterator", data := .fields #[rawInt a, rawInt (Builtin.Range.rangeSize a b c), rawInt c] } lS
  refine wpAny_ite_split (fun _ => ?_) (fun _ => wpAny_pure ⟨plainId_quiet F.plain_extend_loop _, loop _ k _ it1 (fun d o _ e => Heap.get?_push_of_some _ e) l1⟩)
  refine wpAny_bind (wpAny_rule ?_)
  refine wpAny_bind ?_
  show wpAny _ _ (updateSeq S (·.push .none) >>= fun _ => updateSeq S (·.pop)) _ _ _
  refine wpAny_bind (wpAny_updateSeq l1 rfl ?_)
  have l2 := Heap.get?_update_self (Obj.mapSeq (·.push Value.none)) l1 rfl
  refine wpAny_updateSeq (hz := by seq_fits) l2 rfl ?_
  have l3 := Heap.get?_update_self (Obj.mapSeq (·.pop)) l2 rfl
  refine wpAny_pure ⟨plainId_quiet F.plain_extend_loop _, loop _ _ _ ?_ (fun d o nd e => ?_) l3⟩
  · exact (Heap.get?_update_other _ _ nI).trans ((Heap.get?_update_other _ _ nI).trans it1)
  · exact (Heap.get?_update_other _ _ (Ne.symm nd)).trans ((Heap.get?_update_other _ _ (Ne.symm nd)).trans (Heap.get?_push_of_some _ e))
theorem init_any {R : Result → Shared → Prop} {r : Addr} {a b c : Int} {t u v : Tok} {n : Nat} (noH : A.handled = none) (rg : IsRange s.heap r a b c t u v) (big : Builtin.Range.small a b c = false)
    (cnt : Builtin.Range.rangeSize a b c = n) (few : n ≤ 2 ^ 24) (S : Addr) (lS : s.heap.get? S = some { cls := .type "list", data := .seq #[] })
    (fin : ∀ g tk xs k', (∀ d o, d ≠ S → s.heap.get? d = some o → g.get? d = some o) → g.get? S = some { cls := .type "list", dict := none, data := .seq xs k', slots := #[] } →
      ItemsOf (fun i v => ∃ t, v = .int (a + i * c) t) xs n → R (.ok (.ret .none)) { s with heap := g, toks := tk }) :
    wpAny (model pg wd) A.in1 (Builtin.«list.__init__» ⟨[.ref S, .ref r], []⟩)
      (fun f s' => match f with | .done f => R (.ok f) s' | .again x => x.quiet = true ∧ codeAny (model pg wd) A x R s') (fun e s' => R (.error e) s') s := by
  have nr : S ≠ r := fun e => by rw [e, rg] at lS; simp at lS
  show wpAny _ _ (do let old ← Builtin.List.listItems (.ref S); Builtin.List.listUpdate (.ref S) (fun _ => #[]); letGo old.toList.reverse; Builtin.List.listExtendWith (.ref S) (.ref r) .none) _ _ s
  refine wpAny_bind ?_
  unfold Builtin.List.listItems
  refine wpAny_bind (wpAny_seqItems lS rfl (wpAny_pure ?_))
  show wpAny _ _ (updateSeq S (fun _ => #[]) >>= fun _ => letGo (#[] : Array Value).toList.reverse >>= fun _ => Builtin.List.listExtendWith (.ref S) (.ref r) .none) _ _ s
  refine wpAny_bind (wpAny_updateSeq lS rfl ?_)
  have l2 := Heap.get?_update_self (Obj.mapSeq (fun _ => (#[] : Array Value))) lS rfl
  have oth : ∀ d o, d ≠ S → s.heap.get? d = some o → (s.heap.update S (Obj.mapSeq (fun _ => (#[] : Array Value)))).get? d = some o :=
    fun d o nd e => (Heap.get?_update_other _ _ (Ne.symm nd)).trans e
  refine wpAny_bind (wpAny_letGo ?_)
  exact ext_any noH (oth r _ (Ne.symm nr) rg) big cnt few S _ l2 fun g tk xs k' keep l3 it => fin g tk xs k' (fun d o nd e => keep d o nd (oth d o nd e)) l3 it
theorem list_long {Q : Value → Shared → Prop} {r : Addr} {a b c : Int} {t u v : Tok} {n : Nat} (noH : A.handled = none) (rg : IsRange s.heap r a b c t u v) (big : Builtin.Range.small a b c = false)
    (cnt : Builtin.Range.rangeSize a b c = n) (few : n ≤ 2 ^ 24)
    (fin : ∀ g tk xs k', (∀ d o, s.heap.get? d = some o → g.get? d = some o) → g.get? s.heap.objs.size = some { cls := .type "list", dict := none, data := .seq xs k', slots := #[] } →
      ItemsOf (fun i v => ∃ t, v = .int (a + i * c) t) xs n → Q (.ref s.heap.objs.size) { s with heap := g, toks := tk }) :
    wpAny (model pg wd) A (call (.type "list") [.ref r]) Q E s := by
  refine callType_codes (Q₁ := fun x s1 => x = .ref s.heap.objs.size ∧ s1 = { s with heap := s.heap.push { cls := .type "list", data := .seq #[] } }) F.called_list (F.typeCall_list_1 _) F.entry_list_init
    (code_list_new _ ⟨rfl, rfl⟩) fun x s1 e => ?_
  obtain ⟨rfl, rfl⟩ := e
  have lS : (s.heap.push { cls := .type "list", data := .seq #[] }).get? s.heap.objs.size = some { cls := .type "list", data := .seq #[] } := Heap.get?_push_size _ rfl
  exact ⟨⟨_, lS, rfl⟩, F.args_list_init_2 _ _, init_any (A := A.in1) noH (Heap.get?_push_of_some _ rg) big cnt few _ lS fun g tk xs k' keep l2 it =>
    ⟨rfl, fin g tk xs k' (fun d o e => keep d o (Nat.ne_of_lt (Heap.lt_size e)) (Heap.get?_push_of_some _ e)) l2 it⟩⟩
end
section
open L2 TL
variable {X : Cx} {e : Expr} {te : L2.St → Hp → (Int → Int → Hp → Prop) → Prop} {p pos : Pos}
def tLR (te : L2.St → Hp → (Int → Int → Hp → Prop) → Prop) : TE := fun σ H Q => te σ H fun a b H1 => (b - a).toNat ≤ 2 ^ 24 ∧ ∀ q, H1 q = none → Q (.ref q) (upd H1 q (.lst (rgV a b)))
theorem pe_listR (hc : X.calm = true) (hg : Gl X "list") (hm : X.mg "list" = none) (he : PRg X e te) (na : starEach [e] X.env = (false, eval e X.env) :: starEach [] X.env) : PE X (.Call (.Name "list" p) [e] [] pos) (tLR te) := by
  refine ⟨fun pins s σ H Q I h => ?_⟩
  refine Call_ (ld_blt I hg hm boot_list (PyProof.Rows.callWith_type1 (args_cons (thn (he pins s σ H _ I h) fun x s1 ⟨r, a, b, t, u, v, H1, ex, hr, I1, few, q⟩ => args_nil ?_) na) na))
  subst ex
  have fin : ∀ g tk xs k', (∀ d o, s1.heap.get? d = some o → g.get? d = some o) → g.get? s1.heap.objs.size = some { cls := .type "list", dict := none, data := .seq xs k', slots := #[] } →
      ItemsOf (fun i v => ∃ t, v = .int (a + i * 1) t) xs (b - a).toNat → ∃ w H', L2.Inv X pins σ H' { s1 with heap := g, toks := tk } ∧ RelV w (.ref s1.heap.objs.size) ∧ Q w H' := fun g tk xs k' keep l it => by
    refine ⟨.ref s1.heap.objs.size, upd H1 s1.heap.objs.size (.lst (rgV a b)), I1.laid keep (Nat.le_refl _) (show ObjOk X.prog X.w _ _ _ (.lst (rgV a b)) from ⟨?_, xs.toList, k', vals_rg it, ?_⟩), rfl, q _ (I1.hok.fresh (Nat.le_refl _))⟩
    · rw [rgV_length, sizeLine_eq]; omega
    · rw [Array.toArray_toList]; exact l
  cases sm : Builtin.Range.small a b 1 with
  | true => exact call_list_range (n := (b - a).toNat) (I1.ok.hd hc) hr sm (rangeSize_nat a b) few fin
  | false => exact list_long (n := (b - a).toNat) (I1.ok.hd hc) hr sm (rangeSize_nat a b) few fin
end
end Z

/-! ZX2: list(range), index, several targets, is not True -/
namespace Z
open PySem PySem.Spec PyProof.Rows L2 TL

section
variable {X : Cx} {ca : Nat → Addr} {W : WX} {pos p p2 kp apos : Pos} {a b e : Expr} {fa fb f : St → R D} {fs : St → R (List D)}
/-! ### list(range(a, b)) -/
theorem rgV_rep {K : PySem.W.Frag} {F : Hp} (a b : Int) : Reps K F (rngL a b) (rgV a b) := by
  unfold rngL rgV
  generalize (b - a).toNat = n
  induction List.range n with
  | nil => exact Reps.nil
  | cons i l ih => exact Reps.cons (Rep.int_iff.mpr rfl) ih
theorem q_rngl (hc : X.calm = true) (hg : Gl X "list") (hm : X.mg "list" = none) (hg2 : Gl X "range") (hm2 : X.mg "range" = none) (ha : QE X ca W a fa) (hb : QE X ca W b fb) (hs : noStar a = true) (hs2 : noStar b = true) :
    QE X ca W (.Call (.Name "list" p) [.Call (.Name "range" p2) [a, b] [] apos] [] pos) (fun r => (fa r).bind fun x r => (fb r).bind fun y r => .of (lrgD x y) r) := by
  refine PE.weak (pe_listR hc hg hm (prg_2 hg2 hm2 ha hb (star_cons hs) (star_cons hs2) (star_any (by simp [hs2]))) rfl) fun σ H Q ⟨r, F, p0, h⟩ => ⟨r, F, p0, Fi.step h fun x r1 v H1 F1 p1 q1 h => ⟨r1, F1, p1.rp, Fi.step h fun y r2 w H2 F2 p2 q2 h => ?_⟩⟩
  cases x <;> cases y <;> try exact h.elim
  rename_i i _ j
  dsimp only [lrgD] at h
  split at h
  · rename_i hb
    refine ⟨i, j, Rep.int_iff.mp q1, Rep.int_iff.mp q2, by omega, fun l hl => ?_⟩
    have hn := p2.rp.new (o := .lst (rgV i j)) hl
    exact h _ _ _ hn (Rep.lst_iff.mpr ⟨l, _, rfl, SqL.of upd_same, rgV_rep i j⟩)
  · exact h.elim
/-! ### is not True -/
theorem op_isnB : OpR X (compareOp .IsNot) (fun x y H Q => ∃ i j, x = .bl i ∧ y = .bl j ∧ Q (.bl (!(i == j))) H) := by
  intro pins s σ H x y v u Q I rx ry h
  obtain ⟨i, j, rfl, rfl, q⟩ := h
  cases rx
  cases ry
  show wpAny _ _ ((isSame (.bool i) (.bool j)) >>= fun z => pure (Value.bool (!z))) _ _ s
  refine wpAny_bind (wpAny_isSame_plain rfl (wpAny_pure (fin_bl I ?_ rfl)))
  rw [show (Value.bool i == Value.bool j) = (i == j) by cases i <;> cases j <;> rfl]
  exact q
theorem q_notT {j : Nat} {p2 : Pos} (ha : QE X ca W a fa) : QE X ca W (.Compare a [.IsNot] [.Constant (.bool true) j p2] pos) (fun r => (fa r).bind fun x r => match x with | .bl b => .ok (.bl !b) r | _ => .bad) := by
  refine PE.weak (pe_cmpR op_isnB ha pe_bl rfl) fun σ H Q ⟨r, F, p, h⟩ => ⟨r, F, p, h.step fun x r1 v H1 F1 p1 q1 h => ?_⟩
  cases x with
  | bl b =>
    refine ⟨b, true, Rep.bl_iff.mp q1, rfl, h _ _ _ (Ps.refl p1.rp) (Rep.bl_iff.mpr ?_)⟩
    cases b <;> rfl
  | _ => exact h.elim
theorem qt_notT {j : Nat} {p2 : Pos} (ha : QE X ca W a fa) : QT X ca W (.Compare a [.IsNot] [.Constant (.bool true) j p2] pos) (fun r => (fa r).bind fun x r => match x with | .bl b => .ok (.bl !b) r | _ => .bad) := by
  refine PT.weak (pt_cmpR op_isnB ha pe_bl rfl) fun σ H Q ⟨r, F, p, h⟩ => ⟨r, F, p, h.step fun x r1 v H1 F1 p1 q1 h => ?_⟩
  cases x with
  | bl b =>
    refine ⟨b, true, Rep.bl_iff.mp q1, rfl, _, rfl, h _ _ _ (Ps.refl p1.rp) ?_⟩
    cases b <;> rfl
  | _ => exact h.elim
/-! ### a, b = x, y -/
theorem par2_w {i j : Nat} : ∀ D σ H, tS X.K ca W (fun r => (fs r).fl fun l r => match setAll [i, j] l r with | some r => .nx r | none => .bad) D σ H → tPar i j (tAs X.K ca W fs) D σ H := by
  intro D σ H ⟨r, F, p, h⟩
  refine ⟨r, F, p, FiS.step h fun l r1 vs H1 F1 p1 q1 h => ?_⟩
  match l, vs, q1, h with
  | [d1, d2], vs, q1, h =>
    obtain ⟨v1, v2, rfl, r1', r2'⟩ := reps2 q1
    refine ⟨v1, v2, rfl, ?_⟩
    simp only [setAll] at h
    cases z1 : setv i (.val d1) r1 with
    | none => simp only [z1, Option.bind_none] at h; exact h.elim
    | some s1 =>
      simp only [z1, Option.bind_some] at h
      obtain ⟨e1, h1⟩ := setv_some z1
      subst e1
      cases z2 : setv j (.val d2) (r1.set i (.val d1)) with
      | none => simp only [z2, Option.bind_none] at h; exact h.elim
      | some s2 =>
        simp only [z2, Option.bind_some] at h
        obtain ⟨e2, h2⟩ := setv_some z2
        subst e2
        have t1 := p1.rp.put h1 r1'
        have t2 := t1.rp.put h2 r2'
        exact h _ _ _ (t1.trans t2)
  | [], vs, q1, h => simp only [setAll] at h; exact h.elim
  | [d], vs, q1, h =>
    exfalso
    simp only [setAll] at h
    cases z1 : setv i (.val d) r1 with
    | none => simp only [z1, Option.bind_none] at h; exact h.elim
    | some s1 => simp only [z1, Option.bind_some] at h; exact h.elim
  | d :: d' :: d'' :: l, vs, q1, h =>
    exfalso
    simp only [setAll] at h
    cases z1 : setv i (.val d) r1 with
    | none => simp only [z1, Option.bind_none] at h; exact h.elim
    | some s1 =>
      simp only [z1, Option.bind_some] at h
      cases z2 : setv j (.val d') s1 with
      | none => simp only [z2, Option.bind_none] at h; exact h.elim
      | some s2 => simp only [z2, Option.bind_some] at h; exact h.elim
theorem s_par2 {i j : Nat} {x y : Str} {px py pt : Pos} {kt k2 : Nat} {pt2 spos : Pos} (hc : X.calm = true) (nd : X.N.Nodup) (hi : X.N[i]? = some x) (hj : X.N[j]? = some y) (hij : i ≠ j)
    (hx : X.env.scope.names.lookup x = some .local) (hy : X.env.scope.names.lookup y = some .local) (ha : QA X ca W [a, b] fs)
    (hw : swappedStores [.Tuple [.Name x px, .Name y py] kt pt] (.Tuple [a, b] k2 pt2) X.env = pure (some [x, y])) :
    QS X ca W (.Assign [.Tuple [.Name x px, .Name y py] kt pt] (.Tuple [a, b] k2 pt2) spos) (fun r => (fs r).fl fun l r => match setAll [i, j] l r with | some r => .nx r | none => .bad) := by
  exact PS.weak (ps_par hc nd hi hj hij hx hy ha hw rfl) par2_w
theorem s_par3 {i j k : Nat} {x y z : Str} {c : Expr} {px py pz pt : Pos} {kt k2 : Nat} {pt2 spos : Pos} (hc : X.calm = true) (nd : X.N.Nodup) (hi : X.N[i]? = some x) (hj : X.N[j]? = some y) (hk : X.N[k]? = some z) (hij : i ≠ j) (hik : i ≠ k) (hjk : j ≠ k)
    (hx : X.env.scope.names.lookup x = some .local) (hy : X.env.scope.names.lookup y = some .local) (hz : X.env.scope.names.lookup z = some .local) (ha : QA X ca W [a, b, c] fs)
    (hw : swappedStores [.Tuple [.Name x px, .Name y py, .Name z pz] kt pt] (.Tuple [a, b, c] k2 pt2) X.env = pure (some [x, y, z])) :
    QS X ca W (.Assign [.Tuple [.Name x px, .Name y py, .Name z pz] kt pt] (.Tuple [a, b, c] k2 pt2) spos) (fun r => (fs r).fl fun l r => match setAll [i, j, k] l r with | some r => .nx r | none => .bad) := by
  refine PS.weak (ps_par3 hc nd hi hj hk hij hik hjk hx hy hz ha hw rfl) fun D σ H ⟨r, F, p, h⟩ => ⟨r, F, p, FiS.step h fun l r1 vs H1 F1 p1 q1 h => ?_⟩
  cases e : setAll [i, j, k] l r1 with
  | none => simp only [e] at h; exact h.elim
  | some r2 =>
    simp only [e] at h
    have hl := setAll_len e
    match l, hl, vs, q1, e with
    | [d1, d2, d3], _, vs, q1, e =>
      simp only [Reps] at q1
      obtain ⟨v1, _, rfl, q1, v2, _, rfl, q2, v3, _, rfl, q3, rfl⟩ := q1
      refine ⟨v1, v2, v3, rfl, ?_⟩
      simp only [setAll] at e
      obtain ⟨s1, z1, e⟩ := Option.bind_eq_some_iff.mp e
      obtain ⟨s2, z2, e⟩ := Option.bind_eq_some_iff.mp e
      obtain ⟨s3, z3, e⟩ := Option.bind_eq_some_iff.mp e
      cases e
      obtain ⟨e1, h1⟩ := setv_some z1
      subst e1
      obtain ⟨e2, h2⟩ := setv_some z2
      subst e2
      obtain ⟨e3, h3⟩ := setv_some z3
      subst e3
      have t1 := p1.rp.put h1 q1
      have t2 := t1.rp.put h2 q2
      have t3 := t2.rp.put h3 q3
      exact h _ _ _ (t1.trans (t2.trans t3))
/-- through a tuple -/
theorem s_parT {is : List Nat} {ts vs : List Expr} {kt k2 : Nat} {pt pt2 spos : Pos} (hg : PG X (.Tuple ts kt pt) (gTg X.K (.many is))) (ha : QA X ca W vs fs)
    (hw : swappedStores [.Tuple ts kt pt] (.Tuple vs k2 pt2) X.env = pure none) (hlen : is.length ≤ 100) :
    QS X ca W (.Assign [.Tuple ts kt pt] (.Tuple vs k2 pt2) spos) (fun r => (fs r).fl fun l r => match setAll is l r with | some r => .nx r | none => .bad) := by
  refine PS.weak (ps_asg (pe_tup ha) hg rfl hw rfl) fun D σ H ⟨r, F, p, h⟩ => ⟨r, F, p, FiS.step h fun l r1 vs H1 F1 p1 q1 h => ?_⟩
  cases e : setAll is l r1 with
  | none => simp only [e] at h; exact h.elim
  | some r2 =>
    simp only [e] at h
    have hl := setAll_len e
    refine ⟨by rw [← q1.length, ← hl, sizeLine_eq]; omega, fun a ha => ?_⟩
    have hn := p1.rp.new (o := .tup vs) ha
    exact gTg_ok (t := .many is) (d := .tup l) e hn.rp (Rep.tup_iff.mpr ⟨a, _, rfl, SqT.of upd_same, q1.mono hn.f⟩) fun σ' p2 => h _ _ _ (hn.pt.trans p2)
/-! ### f() -/
theorem q_call0 {k : Nat} {f0 : Addr} {fd : FuncData} {x : Str} {c : List Slot → CR} (FO : FnOk X.prog X.w X.K X.mg X.base (L2.CX X.prog X.w) k f0 fd [] (SpOf X.K ca 0 c)) (hr : Room k X.A) (hg : Gl X x) (hm : X.mg x = some (.ref f0)) (hk : PySem.W.keepIn X.K (.ref f0) = true) (hb : Binds X.K fd [] [])
    (hd : (x == ("__debug__" : Str)) = false) : QE X ca W (.Call (.Name x p) [] [] pos) (fun r => (c []).valK r) := by
  refine PE.weak (pe_call0 FO hr hg hm hk hb .nil (E := fun _ _ _ => False) (fun _ _ _ _ _ _ _ ⟨_, _, _, _, _, _, _, _, _, _, _, _, z⟩ => z.elim) hd) fun σ H Q ⟨r, F, q, h⟩ => ?_
  refine ⟨[], F, rfl, vals_rp (l := []) q.sub Reps.nil, fun i l z => by simp at z, fun i l z => by simp at z, ?_⟩
  dsimp only at h
  cases e : c [] with
  | bad => rw [e] at h; exact h.elim
  | exc y o => rw [e] at h; exact h.elim
  | ret d o =>
    rw [e] at h
    exact fun v H' F' pc qv => h v H' F' (Pc.ps (l := []) q pc) qv
end
end Z

/-! ZV: x[::-1], x a tuple, a list or "a-b" -/
namespace Z
open PySem PySem.Spec PyProof.Rows
section
variable {prog : Program} {w : World} {A : Around} {E : Value → Shared → Prop} {s : Shared}
theorem adjR (n : Nat) : Builtin.Slice.sliceAdjust none none (-1) (n : Int) = ((n : Int) - 1, -1) := rfl
theorem plcR (n : Nat) : Builtin.Slice.slicePlaces ((n : Int) - 1) (-1) (-1) = n := by
  unfold Builtin.Slice.slicePlaces
  rw [if_neg (by decide)]
  by_cases h : (n : Int) - 1 > -1
  · rw [if_pos h, show -(-1 : Int) = 1 from rfl, Int.ediv_one]
    omega
  · rw [if_neg h]
    omega
theorem applR {sl : Addr} {tk : Tok} {n : Nat} {Q : Int × Int × Nat → Shared → Prop} (hs : s.heap.IsSliceOf sl .none .none (.int (-1) tk)) (h : Q ((n : Int) - 1, -1, n) s) : wpAny (model prog w) A (Builtin.Slice.sliceApplied (.ref sl) (pure (n : Int))) Q E s := by
  obtain ⟨os, o1, o2, o3⟩ := id hs
  unfold Builtin.Slice.sliceApplied Builtin.Slice.sliceFields
  refine wpAny_bind (wpAny_bind (wpAny_field o1 o3 (x := .none) rfl (wpAny_bind (wpAny_field o1 o3 (x := .none) rfl (wpAny_bind (wpAny_field o1 o3 (x := .int (-1) tk) rfl (wpAny_pure ?_)))))))
  refine wpAny_bind (slicePart_int ?_)
  show wpAny _ _ (if ((-1 : Int) == 0) = true then _ else _) _ _ s
  rw [if_neg (by decide)]
  refine wpAny_bind (slicePart_none (wpAny_bind (slicePart_none (wpAny_bind (wpAny_pure ?_)))))
  show wpAny _ _ (match Builtin.Slice.sliceAdjust none none (-1) (n : Int) with | (lo, hi) => pure (lo, (-1 : Int), Builtin.Slice.slicePlaces lo hi (-1))) _ _ s
  rw [adjR n]
  show wpAny _ _ (pure ((n : Int) - 1, (-1 : Int), Builtin.Slice.slicePlaces ((n : Int) - 1) (-1) (-1))) _ _ s
  rw [plcR]
  exact wpAny_pure h
theorem fmap_some {α β : Type} {f : α → Option β} (g : α → β) : ∀ {l : List α}, (∀ k ∈ l, f k = some (g k)) → l.filterMap f = l.map g
  | [], _ => rfl
  | k :: l, h => by
    rw [List.filterMap_cons, h k List.mem_cons_self, List.map_cons, fmap_some g fun x hx => h x (List.mem_cons_of_mem _ hx)]
theorem pickR (xs : Array Value) : ((List.range xs.size).filterMap fun (k : Nat) => xs[((xs.size : Int) - 1 + (k : Int) * (-1)).toNat]?).toArray = xs.toList.reverse.toArray := by
  congr 1
  have e : ∀ k ∈ List.range xs.size, xs[((xs.size : Int) - 1 + (k : Int) * (-1)).toNat]? = some (xs.toList.reverse.getD k .none) := fun k hk => by
    have hk := List.mem_range.mp hk
    have : ((xs.size : Int) - 1 + (k : Int) * (-1)).toNat = xs.size - 1 - k := by omega
    rw [this, List.getD_eq_getElem?_getD, List.getElem?_reverse (by simpa using hk)]
    simp only [Array.length_toList, Array.getElem?_toList]
    rw [Array.getElem?_eq_getElem (by omega)]
    rfl
  have e2 : (List.range xs.size).filterMap (fun (k : Nat) => xs[((xs.size : Int) - 1 + (k : Int) * (-1)).toNat]?) = (List.range xs.size).map fun k => xs.toList.reverse.getD k .none := by
    exact fmap_some (fun k : Nat => xs.toList.reverse.getD k .none) e
  rw [e2]
  refine List.ext_getElem (by simp) fun i h1 h2 => ?_
  simp only [List.getElem_map, List.getElem_range]
  rw [List.getD_eq_getElem?_getD, List.getElem?_eq_getElem h2]
  rfl
theorem itemR {t sl : Addr} {items : Array Value} {tk : Tok} {Q : Value → Shared → Prop} (ht : IsTup s.heap t items) (hs : s.heap.IsSliceOf sl .none .none (.int (-1) tk))
    (h : Q (.ref s.heap.objs.size) { s with heap := s.heap.push { cls := .type "tuple", data := .seq items.toList.reverse.toArray } }) (hz : items.size ≤ sizeLine) : wpAny (model prog w) A (getItem (.ref t) (.ref sl)) Q E s := by
  have fits : sizeOk (.seq items.toList.reverse.toArray) := by
    show items.toList.reverse.toArray.size ≤ sizeLine
    simpa using hz
  obtain ⟨os, o1, o2, o3⟩ := id hs
  have ty : s.TypeIs (.ref sl) "slice" := ⟨os, o1, o2⟩
  unfold getItem
  try with_reducible refine wpAny_holding ?_
  first | refine wpAny_bind (wpAny_pure ?_) | skip
  refine wpAny_bind (wpAny_sequenceKey ht.typeIs (by decide) ?_)
  refine wpAny_bind (wpAny_callSpecial?_slot (name := Str.ofString "__getitem__") ht.typeIs slot_tuple_getitem (wpAny_call_entry slot_tuple_getitem ht.typeIs entry_tuple_getitem ?_ (args_tuple_getitem _ _)))
  show wpAny _ _ (Builtin.Tuple.tupleItemsOf (.ref t) >>= _) _ _ s
  refine wpAny_bind (tupleItemsOf_ ht ?_)
  refine wpAny_bind (wpAny_typeOf ty ?_)
  rw [if_pos (by decide)]
  refine wpAny_bind (applR hs ?_)
  show wpAny _ _ (if ((items.size : Int) - 1 == 0 && (-1 : Int) == 1 && items.size == items.size) = true then _ else _) _ _ s
  rw [if_neg (by rw [show ((-1 : Int) == 1) = false from rfl, Bool.and_false, Bool.false_and]; exact Bool.false_ne_true), pickR]
  first
    | exact wpAny_bind (m := Builtin.Tuple.tupleExact _) (wpAny_newObj_type (wpAny_pure ⟨_, rfl, wpAny_pure h⟩) fits)
    | exact wpAny_bind (m := Builtin.Tuple.tupleExact _) (wpAny_newObj_type (wpAny_bind (wpAny_pure (wpAny_pure ⟨_, rfl, wpAny_pure h⟩))) fits)
    | exact wpAny_bind (wpAny_bind (m := Builtin.Tuple.tupleExact _) (wpAny_newObj_type (wpAny_pure (wpAny_pure ⟨_, rfl, wpAny_pure h⟩)) fits))
    | exact wpAny_bind (wpAny_bind (m := Builtin.Tuple.tupleExact _) (wpAny_newObj_type (wpAny_pure ⟨_, rfl, wpAny_pure h⟩) fits))
end
section
open L2 TL
variable {X : Cx} {ca : Nat → Addr} {W : WX} {pos : Pos} {a : Expr} {fa : St → R D}
theorem Vals.rev' {K : PySem.W.Frag} {F : Hp} {l : List D} {vs : List V} (h : Reps K F l vs) : Reps K F l.reverse vs.reverse := by
  induction l generalizing vs with
  | nil => cases vs with
    | nil => exact Reps.nil
    | cons v vs => simp [Reps] at h
  | cons d l ih =>
    obtain ⟨v, vs', rfl, q1, q2⟩ := h
    rw [List.reverse_cons, List.reverse_cons]
    exact (ih q2).append (Reps.cons q1 Reps.nil)
theorem q_revA {k : Nat} {p1 p2 p3 : Pos} (ha : QE X ca W a fa) (ht : ∀ o r, letTemporaryGo a o r = pure ()) : QE X ca W (.Subscript a (.Slice none none (some (.UnaryOp .USub (.Constant (.int 1) k p1) p2)) p3) pos) (fun r => (fa r).bind fun x r => .of (revD x) r) := by
  refine ⟨fun pins s σ H Q I ⟨r, F, p, h⟩ => ?_⟩
  dsimp only at h
  refine Subscript_ (thn (ha.run pins s σ H _ I ⟨r, F, p, h.step (ra := Rep X.K) (Q1 := fun v H1 => (v = .str (⟨#[97, 45, 98]⟩ : Str) ∧ Q (.str (⟨#[98, 45, 97]⟩ : Str)) H1) ∨
    (∃ q xs, v = .ref q ∧ SqL X.K H1 q xs ∧ ∀ p, H1 p = none → Q (.ref p) (upd H1 p (.lst xs.reverse))) ∨ (∃ q xs, v = .ref q ∧ SqT X.K H1 q xs ∧ ∀ p, H1 p = none → Q (.ref p) (upd H1 p (.tup xs.reverse)))) fun x r1 v H1 F1 p1 q1 h => ?_⟩) fun v s1 ⟨x, H1, I1, r1, q1⟩ => ?_)
  · cases x with
    | str z =>
      dsimp only [revD] at h
      split at h
      · rename_i hz
        subst hz
        exact .inl ⟨(Rep.str_iff.mp q1).1, h _ _ _ (Ps.refl p1.rp) (Rep.str_iff.mpr ⟨rfl, by decide, by decide⟩)⟩
      · exact h.elim
    | lst l =>
      obtain ⟨q, vs, ev, s1, z1⟩ := Rep.lst_iff.mp q1
      refine .inr (.inl ⟨q, vs, ev, SqL.up p1.rp.sub s1, fun b hb => ?_⟩)
      have hn := p1.rp.new (o := .lst vs.reverse) hb
      exact h _ _ _ hn (Rep.lst_iff.mpr ⟨b, _, rfl, SqL.of upd_same, (Vals.rev' z1).mono hn.f⟩)
    | tup l =>
      obtain ⟨q, vs, ev, s1, z1⟩ := Rep.tup_iff.mp q1
      refine .inr (.inr ⟨q, vs, ev, SqT.up p1.rp.sub s1, fun b hb => ?_⟩)
      have hn := p1.rp.new (o := .tup vs.reverse) hb
      exact h _ _ _ hn (Rep.tup_iff.mpr ⟨b, _, rfl, SqT.of upd_same, (Vals.rev' z1).mono hn.f⟩)
    | _ => exact h.elim
  · have hst : PO X (some (.UnaryOp .USub (.Constant (.int 1) k p1) p2)) (tPart (tUn (rU fun i => .int (-i)) (tC (.int 1)))) := po_some (pe_un un_neg pe_int)
    refine wpAny_Slice (thn (po_none.run pins s1 σ H1 (fun o H2 => o = none ∧ H2 = H1) I1 ⟨rfl, rfl⟩) fun vl s2 ⟨l, H2, I2, pl, el, e2⟩ => ?_)
    subst el e2
    refine thn (po_none.run pins s2 σ H2 (fun o H3 => o = none ∧ H3 = H2) I2 ⟨rfl, rfl⟩) fun vu s3 ⟨u, H3, I3, pu, eu, e3⟩ => ?_
    subst eu e3
    refine thn (hst.run pins s3 σ H3 (fun o H4 => o = some (-1) ∧ H4 = H3) I3 ⟨1, rfl, -1, rfl, rfl, rfl⟩) fun vs s4 ⟨o, H4, I4, ps, eo, e4⟩ => ?_
    subst eo e4
    have I5 : L2.Inv X pins σ H4 { s4 with heap := s4.heap.push { cls := .type "slice", data := .fields #[vl, vu, vs] } } := I4.kept (t' := s4.toks) fun b ob q => Heap.get?_push_of_some _ q
    have psl := ps
    cases pl
    cases pu
    obtain ⟨tk, evs⟩ : ∃ tk, vs = .int (-1) tk := by cases ps; exact ⟨_, rfl⟩
    subst evs
    rcases q1 with ⟨ex, q⟩ | ⟨c, xs, ex, hx, q⟩ | ⟨c, xs, ex, hx, q⟩
    · subst ex
      obtain ⟨t, rfl⟩ := r1
      show wpAny (model X.prog X.w) X.A (subscriptTail a (.Slice none none (some (.UnaryOp .USub (.Constant (.int 1) k p1) p2)) p3) (.str ⟨#[97, 45, 98]⟩ t) (.ref s4.heap.objs.size)) (EP X pins σ Q) X.xe { s4 with heap := s4.heap.push { cls := .type "slice", data := .fields #[.none, .none, .int (-1) tk] } }
      refine PyProof.Rows.tail_of_ItemOn ⟨"str", _, PySem.F.slot_str_getitem.lookup, typeIs_str _ _ _, wpAny_getItem_str_slice (l := none) (u := none) (st := some (-1, tk)) ⟨_, Heap.get?_push_size _ rfl, rfl, rfl⟩ rfl
        (post_val_or_str ⟨Nat.le_trans (PySem.Txt.sliceBy_le _ _ _ (-1, tk) (fun z => by cases z)) (by decide +kernel), fun t' c => ?_⟩)⟩ (by with_unfolding_all rfl) (fun r => ht _ r)
      have e : Txt.sliceBy (⟨#[97, 45, 98]⟩ : Str) none none (-1, tk) = (⟨#[98, 45, 97]⟩ : Str) := by with_unfolding_all rfl
      show EP X pins σ Q (.str (Txt.sliceBy (⟨#[97, 45, 98]⟩ : Str) none none (-1, tk)) t') _
      rw [e]
      exact ⟨.str _, _, I5.tok c, ⟨_, rfl⟩, q⟩
    · subst ex
      cases r1
      obtain ⟨its, r, hl, hz⟩ := I5.list hx
      have hlen := r.length
      show wpAny (model X.prog X.w) X.A (subscriptTail a (.Slice none none (some (.UnaryOp .USub (.Constant (.int 1) k p1) p2)) p3) (.ref c) (.ref s4.heap.objs.size)) (EP X pins σ Q) X.xe { s4 with heap := s4.heap.push { cls := .type "slice", data := .fields #[.none, .none, .int (-1) tk] } }
      refine PyProof.Rows.tail_any (ops := [.ref c, .ref s4.heap.objs.size]) hl.isList.typeIs (PySem.slot_list_getitem.lookup) ?_ (by with_unfolding_all rfl)
      refine wpAny_getItem_list_slice hl.isList (Heap.IsSliceOf.new _ .none .none (.int (-1) tk)) .none .none psl (by decide) ?_ (by rw [List.size_toArray]; omega)
      rw [PySem.W.krv_pick]
      refine ⟨.ref _, _, I5.laid (t' := s4.toks) (o := .lst xs.reverse) (fun b ob q => Heap.get?_push_of_some _ q) (Nat.le_refl _) ?_, rfl, q _ (I5.hok.fresh (Nat.le_refl _))⟩
      exact ⟨by rw [List.length_reverse]; exact hz, _, 0, r.reverse, Heap.get?_push_size _ rfl⟩
    · subst ex
      cases r1
      obtain ⟨its, r, hl, hz⟩ := I5.tuple hx
      have hlen := r.length
      show wpAny (model X.prog X.w) X.A (subscriptTail a (.Slice none none (some (.UnaryOp .USub (.Constant (.int 1) k p1) p2)) p3) (.ref c) (.ref s4.heap.objs.size)) (EP X pins σ Q) X.xe { s4 with heap := s4.heap.push { cls := .type "slice", data := .fields #[.none, .none, .int (-1) tk] } }
      refine PyProof.Rows.tail_any (ops := [.ref c, .ref s4.heap.objs.size]) hl.typeIs PyProof.Rows.slot_tuple_getitem.lookup ?_ (by with_unfolding_all rfl)
      refine itemR hl (Heap.IsSliceOf.new _ .none .none (.int (-1) tk)) ?_ (by rw [List.size_toArray]; omega)
      refine ⟨.ref _, _, I5.laid (t' := s4.toks) (o := .tup xs.reverse) (fun b ob q => Heap.get?_push_of_some _ q) (Nat.le_refl _) ?_, rfl, q _ (I5.hok.fresh (Nat.le_refl _))⟩
      exact ⟨by rw [List.length_reverse]; exact hz, _, r.reverse, IsTup.new _ _⟩
end
end Z

/-! ZI: l.index(x), l a list -/
namespace Z
open PySem PySem.Spec PyProof.Rows L2 TL
section
variable {X : Cx} {ca : Nat → Addr} {W : WX} {pos apos : Pos} {a b : Expr} {fa fb : St → R D} {n : Nat}
theorem toPDs_get : ∀ {l : List D} {j : Nat}, (toPDs l)[j]? = l[j]?.map toPD
  | [], j => by unfold toPDs; simp
  | d :: l, 0 => by unfold toPDs; simp
  | d :: l, j + 1 => by unfold toPDs; simpa using toPDs_get (l := l) (j := j)
theorem find_ok {l : List D} {p : D → Bool} {j : Nat} (h : l.findIdx? p = some j) : ∃ z, l[j]? = some z ∧ p z = true ∧ ∀ m z', m < j → l[m]? = some z' → p z' = false := by
  obtain ⟨h1, h2, h3⟩ := List.findIdx?_eq_some_iff_getElem.mp h
  refine ⟨l[j], List.getElem?_eq_getElem h1, h2, fun m z' hm e => ?_⟩
  obtain ⟨hl, rfl⟩ := List.getElem?_eq_some_iff.mp e
  simpa using h3 m hm
theorem q_sidx (c : Ck X n) (ha : QE X ca W a fa) (hb : QE X ca W b fb) (hs : noStar b = true) (hbase : attributeBase a "index" X.env (eval a X.env) = eval a X.env) (hline : (apos.endLine == pos.line) = true) :
    QE X ca W (.Call (.Attribute a "index" apos) [b] [] pos) (fun r => (fa r).bind fun x r => match x with
      | .lst l => (fb r).bind fun y r => .of (sidxD l y) r
      | _ => .bad) := by
  refine PE.weak (pe_bm PySem.F.plainAttrs_list PySem.F.slot_list_index PySem.F.type_list_index (mt_indexD (room65 c)) ha (pa_cons hb pa_nil (star_cons hs)) hbase ?_ hline (star_cons hs) rfl) fun σ H Q ⟨r, F, p, h⟩ => ⟨r, F, p, h.step fun x r1 v H1 F1 p1 q1 h => ?_⟩
  · rw [star_cons hs]
    rfl
  cases x with
  | lst l =>
    obtain ⟨q, vs, ev, s1, z1⟩ := Rep.lst_iff.mp q1
    subst ev
    refine ⟨.inl ⟨rfl, vs, SqL.up p1.rp.sub s1⟩, r1, F1, p1.rp, h.step fun y r2 w H2 F2 p2 q2 h => ?_⟩
    cases e : sidxD l y with
    | none => rw [e] at h; exact h.elim
    | some d =>
      rw [e] at h
      unfold sidxD at e
      split at e
      · rename_i hh
        rw [Bool.and_eq_true] at hh
        obtain ⟨j, ej, rfl⟩ := Option.map_eq_some_iff.mp e
        obtain ⟨z, h1, h2, h3⟩ := find_ok ej
        have hl : ∀ d ∈ l, shal 8 d = true := List.all_eq_true.mp hh.2
        have ql : Rep X.K F2 (.lst l) (.ref q) := q1.mono p2.f
        have hz := hl z (List.mem_of_getElem? h1)
        refine ⟨q, w, toPD y, toPDs l, j, toPD z, rfl, rfl, ql.dp p2.rp.sub (n := 9) (shal_lst hh.2), q2.dp p2.rp.sub hh.1, shaped_of (n := 9) ql (shal_lst hh.2) (by decide), shaped_of q2 hh.1 (by decide), by rw [toPDs_get, h1]; rfl, by rw [eqd_pd hz hh.1]; exact h2, fun m z' hm em => ?_, h _ _ _ (Ps.refl p2.rp) (Rep.int_iff.mpr rfl)⟩
        rw [toPDs_get] at em
        obtain ⟨z2, e2, rfl⟩ := Option.map_eq_some_iff.mp em
        rw [eqd_pd (hl z2 (List.mem_of_getElem? e2)) hh.1]
        exact h3 m z2 hm e2
      · cases e
  | _ => exact h.elim
theorem eqv_key {K : PySem.W.Frag} {neg : Bool} {l : List D} {y d : D} {v w : V} {H1 F1 : Hp} (e : eqvD neg (.lst l) y = some d) (q : RepH K F1 H1 (.lst l) v) (q1 : Rep K F1 y w) (s : Same F1 H1) :
      ∃ b, d = .bl (if neg then !b else b) ∧ Dp K H1 v (.list (toPDs l)) ∧ Dp K H1 w (toPD y) ∧ SeqAt.shaped (.list (toPDs l)) = true ∧ SeqAt.shaped (toPD y) = true ∧ b = PyData.eqv (.list (toPDs l)) (toPD y) := by
    obtain ⟨b, eb, rfl⟩ := Option.map_eq_some_iff.mp e
    unfold eqD at eb
    split at eb
    · rename_i hh
      rw [Bool.and_eq_true] at hh
      cases eb
      obtain ⟨a, vs, rfl, s1, z1⟩ := q.lst s
      have hl : ∀ d ∈ l, shal 8 d = true := List.all_eq_true.mp (show l.all (shal 8) = true from hh.1)
      refine ⟨_, rfl, .lst s1 (Reps.dp s hl z1), q1.dp s hh.2, ?_, shaped_of q1 hh.2 (by decide), ?_⟩
      · have el : PyData.list (toPDs l) = toPD (.lst l) := by simp only [toPD]
        have lay : (toPD (.lst l)).canLay0 = true := by simp only [toPD, PyData.canLay0]; exact Reps.lay z1
        rw [el]
        unfold SeqAt.shaped
        rw [lay, decide_eq_true (Nat.le_trans (shal_depth (n := 9) (d := .lst l) hh.1) (show 9 ≤ 64 by decide))]
        rfl
      · exact (eqd_pd (n := 9) (a := .lst l) hh.1 hh.2).symm
    · cases eb
theorem q_eqv {i : Nat} {x : Str} {px : Pos} (neg : Bool) (c : Ck X n) (hN : X.N[i]? = some x) (hv : Vis X.env.scope x) (hd : (x == ("__debug__" : Str)) = false) (hcd : (x == ("__classdict__" : Str)) = false) (hb : QE X ca W b fb)
    (hm : behindInMarks (if neg then .NotEq else .Eq) b = false) :
    QE X ca W (.Compare (.Name x px) [if neg then .NotEq else .Eq] [b] pos) (fun r => if (pkv i r).isSome then (fb r).bind fun y r => .of ((pkv i r).bind fun x => eqvD neg x y) r else .bad) := by
  cases neg with
  | false =>
    refine PE.weak (pe_cmpR (op_eqD c.room.units) (pe_var hN hv hd hcd) hb hm) fun σ H Q ⟨r, F, p, h⟩ => ?_
    dsimp only at h
    split at h
    case isFalse => exact h.elim
    rename_i h0
    obtain ⟨x0, e0⟩ := Option.isSome_iff_exists.mp h0
    obtain ⟨v, hv, _⟩ := p.pk e0
    refine ⟨v, hv, r, F, p, Fi.step h fun y r1 w H1 F1 p1 q1 h => ?_⟩
    cases e : pkv i r1 with
    | none => rw [e] at h; exact h.elim
    | some x =>
      rw [e] at h
      obtain ⟨v', hv', q⟩ := p1.rp.pk e
      rw [hv] at hv'
      cases hv'
      cases e2 : eqvD false x y with
      | none => simp only [Option.bind, e2] at h; exact h.elim
      | some z =>
        simp only [Option.bind, e2] at h
        cases x <;> try (cases e2; done)
        obtain ⟨b, ez, d1, d2, s1, s2, rfl⟩ := eqv_key e2 q q1 p1.rp.sub
        subst ez
        exact ⟨_, _, d1, d2, s1, s2, h _ _ _ (Ps.refl p1.rp) (Rep.bl_iff.mpr rfl)⟩
  | true =>
    refine PE.weak (pe_cmpR (op_neD c.room.units) (pe_var hN hv hd hcd) hb hm) fun σ H Q ⟨r, F, p, h⟩ => ?_
    dsimp only at h
    split at h
    case isFalse => exact h.elim
    rename_i h0
    obtain ⟨x0, e0⟩ := Option.isSome_iff_exists.mp h0
    obtain ⟨v, hv, _⟩ := p.pk e0
    refine ⟨v, hv, r, F, p, Fi.step h fun y r1 w H1 F1 p1 q1 h => ?_⟩
    cases e : pkv i r1 with
    | none => rw [e] at h; exact h.elim
    | some x =>
      rw [e] at h
      obtain ⟨v', hv', q⟩ := p1.rp.pk e
      rw [hv] at hv'
      cases hv'
      cases e2 : eqvD true x y with
      | none => simp only [Option.bind, e2] at h; exact h.elim
      | some z =>
        simp only [Option.bind, e2] at h
        cases x <;> try (cases e2; done)
        obtain ⟨b, ez, d1, d2, s1, s2, rfl⟩ := eqv_key e2 q q1 p1.rp.sub
        subst ez
        exact ⟨_, _, d1, d2, s1, s2, h _ _ _ (Ps.refl p1.rp) (Rep.bl_iff.mpr rfl)⟩
theorem qt_eqv {i : Nat} {x : Str} {px : Pos} (neg : Bool) (c : Ck X n) (hN : X.N[i]? = some x) (hv : Vis X.env.scope x) (hd : (x == ("__debug__" : Str)) = false) (hcd : (x == ("__classdict__" : Str)) = false) (hb : QE X ca W b fb)
    (hm : behindInMarks (if neg then .NotEq else .Eq) b = false) :
    QT X ca W (.Compare (.Name x px) [if neg then .NotEq else .Eq] [b] pos) (fun r => if (pkv i r).isSome then (fb r).bind fun y r => .of ((pkv i r).bind fun x => eqvD neg x y) r else .bad) := by
  cases neg with
  | false =>
    refine PT.weak (pt_cmpR (op_eqD c.room.units) (pe_var hN hv hd hcd) hb hm) fun σ H Q ⟨r, F, p, h⟩ => ?_
    dsimp only at h
    split at h
    case isFalse => exact h.elim
    rename_i h0
    obtain ⟨x0, e0⟩ := Option.isSome_iff_exists.mp h0
    obtain ⟨v, hv, _⟩ := p.pk e0
    refine ⟨v, hv, r, F, p, Fi.step h fun y r1 w H1 F1 p1 q1 h => ?_⟩
    cases e : pkv i r1 with
    | none => rw [e] at h; exact h.elim
    | some x =>
      rw [e] at h
      obtain ⟨v', hv', q⟩ := p1.rp.pk e
      rw [hv] at hv'
      cases hv'
      cases e2 : eqvD false x y with
      | none => simp only [Option.bind, e2] at h; exact h.elim
      | some z =>
        simp only [Option.bind, e2] at h
        cases x <;> try (cases e2; done)
        obtain ⟨b, ez, d1, d2, s1, s2, rfl⟩ := eqv_key e2 q q1 p1.rp.sub
        subst ez
        exact ⟨_, _, d1, d2, s1, s2, _, rfl, h _ _ _ (Ps.refl p1.rp) rfl⟩
  | true =>
    refine PT.weak (pt_cmpR (op_neD c.room.units) (pe_var hN hv hd hcd) hb hm) fun σ H Q ⟨r, F, p, h⟩ => ?_
    dsimp only at h
    split at h
    case isFalse => exact h.elim
    rename_i h0
    obtain ⟨x0, e0⟩ := Option.isSome_iff_exists.mp h0
    obtain ⟨v, hv, _⟩ := p.pk e0
    refine ⟨v, hv, r, F, p, Fi.step h fun y r1 w H1 F1 p1 q1 h => ?_⟩
    cases e : pkv i r1 with
    | none => rw [e] at h; exact h.elim
    | some x =>
      rw [e] at h
      obtain ⟨v', hv', q⟩ := p1.rp.pk e
      rw [hv] at hv'
      cases hv'
      cases e2 : eqvD true x y with
      | none => simp only [Option.bind, e2] at h; exact h.elim
      | some z =>
        simp only [Option.bind, e2] at h
        cases x <;> try (cases e2; done)
        obtain ⟨b, ez, d1, d2, s1, s2, rfl⟩ := eqv_key e2 q q1 p1.rp.sub
        subst ez
        exact ⟨_, _, d1, d2, s1, s2, _, rfl, h _ _ _ (Ps.refl p1.rp) rfl⟩
/-- [..] * e -/
theorem q_lmul {es : List Expr} {fs : St → R (List D)} {p2 : Pos} (ha : QA X ca W es fs) (hb : QE X ca W b fb) :
    QE X ca W (.BinOp (.List es p2) .Mult b pos) (fun r => (fs r).bind fun l r => if l.length ≤ LINE then (fb r).bind fun y r => .of (lmulD l y) r else .bad) := by
  refine PE.weak (pe_op op_rep (pe_lst ha) hb) fun σ H Q ⟨r, F, p, h⟩ => ⟨r, F, p, h.step fun l r1 vs H1 F1 p1 q1 h => ?_⟩
  split at h
  · rename_i hll
    have hsm : vs.length ≤ sizeLine := by rw [← q1.length, ← LINE_eq]; exact hll
    refine ⟨hsm, fun a ha => ?_⟩
    have hn := p1.rp.new (o := .lst vs) ha
    have h := Fi.shift hn h
    refine ⟨r1, _, hn.rp, h.step fun y r2 w H2 F2 p2 q2 h => ?_⟩
    cases e : lmulD l y with
    | none => rw [e] at h; exact h.elim
    | some d =>
      rw [e] at h
      unfold lmulD at e
      split at e
      · rename_i k
        split at e
        · rename_i hk
          cases e
          obtain ⟨k1, k2⟩ := small_le hk.1
          have hl : H2 a = some (.lst vs) := p2.rp.sub a _ (p2.f a _ upd_same)
          refine ⟨a, k, vs, rfl, Rep.int_iff.mp q2, hl, by omega, by omega, by rw [← q1.length, ← LINE_eq]; exact hk.2, fun c hc => ?_⟩
          have hn2 := p2.rp.new (o := .lst (List.replicate k.toNat vs).flatten) hc
          refine h _ _ _ hn2 (Rep.lst_iff.mpr ⟨c, _, rfl, SqL.of upd_same, ?_⟩)
          have q3 : Reps X.K (upd F2 c (.lst (List.replicate k.toNat vs).flatten)) l vs := q1.mono (hn.f.trans (p2.f.trans hn2.f))
          have rp : ∀ m : Nat, Reps X.K (upd F2 c (.lst (List.replicate k.toNat vs).flatten)) (List.replicate m l).flatten (List.replicate m vs).flatten := fun m => by
            induction m with
            | zero => exact Reps.nil
            | succ m ih => rw [List.replicate_succ, List.replicate_succ, List.flatten_cons, List.flatten_cons]; exact q3.append ih
          exact rp _
        · cases e
      · cases e
  · exact h.elim
end
end Z

/-! ZQ: [t.replace("?", l) for l in LETTERS if l != DEAF[w]] behind a test that gives a token out -/
namespace Z
open PySem PySem.Spec PyProof.Rows L2 TL

section
variable {X : Cx} {pins : List (Addr × Obj)} {σ : L2.St} {H : Hp} {s : Shared}
/-- a local is stored: the namespace is known behind it -/
theorem store_loc {M : Model} {A : Around} {E : Value → Shared → Prop} {i : Nat} {x : Str} {v : V} {u : Value} {Q : Unit → Shared → Prop} (I : Inv X pins σ H s) (hN : X.N.Nodup) (hi : X.N[i]? = some x) (hk : X.env.scope.names.lookup x = some .local) (r : RelV v u)
    (h : ∀ (h' : Heap) (m : Str → Option Value), h'.Ns X.env.locals m → m x = some u → Heap.SameBut X.env.locals s.heap h' → Inv X pins (σ.set i (some v)) H { s with heap := h', toks := s.toks + 1 } → Q () { s with heap := h', toks := s.toks + 1 }) : wpAny M A (storeName X.env x u) Q E s := by
  obtain ⟨m, hn, hl⟩ := id I.loc
  have hcls : (X.env.scope.kind == .class || (X.env.scope.kind == .module && X.env.locals != X.env.globals)) = false := by rw [I.ok.kind]; rfl
  have hiσ : i < σ.length := by rw [I.len]; exact (List.getElem?_eq_some_iff.mp hi).1
  have cne := I.cne
  obtain ⟨oL, _, _, hoL, _⟩ := id hn
  refine wpAny_storeName_local hk hn (fun h' hn' hs => h h' _ hn' (by simp) hs ⟨I.ok, I.os, I.bare, ⟨fun b o e n hb hx => ?_, fun b o e n hb hx => ?_, I.base.free, fun b o e hx => ?_, I.base.tups, I.base.frzs, I.base.tbls⟩, ⟨_, hn', fun j y v' e1 e2 e3 => ?_⟩, fun y c e => ?_, I.free, I.freeC, fun p hp => ?_, fun b ob e => ?_, by simpa using I.len⟩) hcls
  · exact (hs.2 b (Nat.ne_of_lt (Nat.lt_of_lt_of_le (Heap.lt_size e) I.ok.above))).trans (I.base.keep b o e n hb hx)
  · obtain ⟨sl, e1⟩ := I.base.slot b o e n hb hx
    exact ⟨sl, (hs.2 b (Nat.ne_of_lt (Nat.lt_of_lt_of_le (Heap.lt_size e) I.ok.above))).trans e1⟩
  · obtain ⟨o', e1⟩ := I.base.there b o e hx
    exact ⟨o', (hs.2 b (Nat.ne_of_lt (Nat.lt_of_lt_of_le (Heap.lt_size e) I.ok.above))).trans e1⟩
  · by_cases hj : j = i
    · subst hj
      rw [hi] at e1; cases e1
      rw [List.getElem?_set_self hiσ] at e2
      cases e2
      exact ⟨u, r, .inl ⟨hk, by simp⟩⟩
    · rw [List.getElem?_set_ne (Ne.symm hj)] at e2
      obtain ⟨u', r', q⟩ := hl j y v' e1 e2 e3
      refine ⟨u', r', ?_⟩
      rcases q with ⟨k, e⟩ | ⟨k, c, e, z⟩
      · refine .inl ⟨k, ?_⟩
        have : y ≠ x := fun e => hj (nodup_ix hN e1 (e ▸ hi))
        simp [this, e]
      · exact .inr ⟨k, c, e, z.sameBut hs (cne y c e)⟩
  · obtain ⟨w', z⟩ := I.cell y c e
    exact ⟨w', z.sameBut hs (cne y c e)⟩
  · obtain ⟨e, n, ne, nf, d⟩ := I.pin p hp
    exact ⟨(hs.2 p.1 ne).trans e, n, ne, nf, d⟩
  · refine (I.hok b ob e).stay (fun c w' hc q => (hs.2 c ?_).trans q) (fun _ q => q) fun _ _ q => q
    rintro rfl
    have hf := I.free
    rcases hc with rfl | hc
    · rw [hf] at e; cases e
    · rw [hf] at hc; cases hc
end
/-- a test behind which a token is out -/
def PTO (X : Cx) (e : Expr) (t : TT) : Prop :=
  ∀ (pins : List (Addr × Obj)) (s : Shared) (σ : L2.St) (H : Hp) (Q : Bool → Hp → Prop), Inv X pins σ H s → t σ H Q → wpAny (model X.prog X.w) X.A (isTrue e X.env (eval e X.env)) (fun b s1 => 1 ≤ s1.toks ∧ TP X pins σ Q b s1) X.xe s
section
variable {X : Cx}
theorem thnT {α : Type} {t : Sem α} {Q Q' : α → Shared → Prop} {M : Model} {A : Around} {E : Value → Shared → Prop} {s : Shared} {n : Nat} (hn : n ≤ s.toks) (h : wpAny M A t Q E s) (hQ : ∀ a s, n ≤ s.toks → Q a s → Q' a s) : wpAny M A t Q' E s :=
  wpAny_mono (PySem.wpAny_toks_of hn h) (fun a s q => hQ a s q.1 q.2) fun _ _ z => z.2
theorem pto_str {op : CmpOp} {r : R2} {b : Expr} {tb : TE} {c : Str} {j : Nat} {p0 pos : Pos} (ho : OpR X (compareOp op) r) (hb : PE X b tb) (hm : behindInMarks op b = false) : PTO X (.Compare (.Constant (.str c) j p0) [op] [b] pos) (tTest (tOp r (tC (.str c)) tb)) := by
  intro pins s σ H Q I h
  refine wpAny_isTrue_Compare1 (Calls.Constant_str ?_) hm
  refine thnT (n := 1) (by show 1 ≤ s.toks + 1; omega) (hb.run pins _ σ H _ (I.tok _) h) fun u s2 k2 ⟨y, H2, I2, r2, q2⟩ => ?_
  refine thnT k2 (ho pins s2 σ H2 (.str c) y _ u _ I2 ⟨_, rfl⟩ r2 q2) fun d s3 k3 ⟨z, H3, I3, r3, q3⟩ => ?_
  obtain ⟨k, e, q3⟩ := q3
  subst e
  cases r3
  exact wpAny_truthy_bool ⟨k3, H3, I3, q3⟩
theorem pe_ifO {c a b : Expr} {tA : TT} {ta tb : TE} {pos : Pos} (hc : PTO X c tA) (ha : PET X a ta) (hb : PE X b tb) : PE X (.IfExp c a b pos) (tIf tA ta tb) := by
  refine ⟨fun pins s σ H Q I h => ?_⟩
  refine wpAny_IfExp (thn (hc pins s σ H _ I h) fun d s1 ⟨k1, H1, I1, q1⟩ => ?_)
  cases d with
  | true => exact ha pins s1 σ H1 Q k1 I1 q1
  | false => exact hb.run pins s1 σ H1 Q I1 q1
end
section
variable {prog : Program} {w : World} {A : Around} {E : Value → Shared → Prop} {s : Shared}
theorem iter_str {x : Str} {t : Tok} {Q : Value → Shared → Prop}
    (h : ∀ (o : Obj) (ty : String), (ty = "str_ascii_iterator" ∨ ty = "str_iterator") → (s.heap.push o).IsStrIter s.heap.objs.size ty x t 0 → Q (.ref s.heap.objs.size) { s with heap := s.heap.push o }) : wpAny (model prog w) A (pyIter (.str x t)) Q E s := by
  cases ha : x.cps.all (· < 128)
  · exact wpAny_pyIter_wide ha (h _ _ (.inr rfl) ⟨_, Heap.get?_push_size _ rfl, rfl, rfl⟩)
  · exact wpAny_pyIter_ascii ha (h _ _ (.inl rfl) ⟨_, Heap.get?_push_size _ rfl, rfl, rfl⟩)
theorem next_str {it : Addr} {x : Str} {t : Tok} {i c : Nat} {ty : String} {Q : Option Value → Shared → Prop} (hty : ty = "str_ascii_iterator" ∨ ty = "str_iterator") (hit : s.heap.IsStrIter it ty x t i) (hx : x.cps[i]? = some c)
    (hQ : ∀ h' : Heap, h'.IsStrIter it ty x t (i + 1) → Heap.SameBut it s.heap h' → Q (some (.str ⟨#[c]⟩ s.toks)) { s with heap := h', toks := s.toks + 1 }) : wpAny (model prog w) A (pyNext (.ref it)) Q E s := by
  rcases hty with rfl | rfl
  · exact wpAny_pyNext_ascii_item hit hx hQ
  · exact wpAny_pyNext_wide_item hit hx hQ
theorem no_own {ty : String} (hty : ty = "str_ascii_iterator" ∨ ty = "str_iterator") : ["enumerate", "zip", "dict_itemiterator", "dict_reverseitemiterator", "odict_iterator", "itertools.zip_longest", "itertools.pairwise"].contains ty = false := by
  rcases hty with rfl | rfl <;> decide
end
/-- the texts with each letter that is not d -/
def wfV (s d : Str) (l : List Nat) : List V := (l.filter fun c => [c] != d.cps.toList).map fun c => V.str (Txt.replace s ("?" : Str) ⟨#[c]⟩)
theorem wfV_snoc (s d : Str) (l : List Nat) (c : Nat) : wfV s d (l ++ [c]) = wfV s d l ++ (if ([c] != d.cps.toList) = true then [V.str (Txt.replace s ("?" : Str) ⟨#[c]⟩)] else []) := by
  unfold wfV
  rw [List.filter_append, List.map_append]
  congr 1
  cases h : ([c] != d.cps.toList) <;> simp [h]
theorem upd_upd {H : Hp} {D : Addr} {a b : HO} : upd (upd H D a) D b = upd H D b := by
  funext c
  unfold upd
  split <;> rfl
def tWf (K : PySem.W.Frag) (w : World) (x : Str) (a : Addr) (it iw : Nat) : TE := fun σ H Q => ∃ s k d : Str, σ[it]? = some (some (.str s)) ∧ σ[iw]? = some (some (.str k)) ∧ KDct K w a k (.str d) ∧ s.length ≤ 1000000 ∧
  ∀ D, H D = none → Q (.ref D) (upd H D (.lst (wfV s d x.cps.toList)))
section
variable {X : Cx}
theorem pet_wf {l tx wk dn LT x : Str} {i it iw j : Nat} {uL : Value} {a : Addr} {scope : Scope} {own : List (Str × Nat)} {q1 q2 q3 q4 q5 q6 q7 q8 q9 q10 q11 q12 pos : Pos} (hc : X.calm = true) (hN : X.N.Nodup) (gL : Gl X LT) (mL : X.mg LT = some uL) (rL : RelV (.str x) uL) (ok : BlkOk X.N X.env.scope scope own)
    (hl : X.N[i]? = some l) (ht : X.N[it]? = some tx) (hw : X.N[iw]? = some wk) (hti : it ∉ own.map (·.2)) (hwi : iw ∉ own.map (·.2)) (hii : i ∈ own.map (·.2)) (hti' : it ≠ i) (hwi' : iw ≠ i)
    (hin : ∀ (s : Shared) (H : Hp) (C : Addr) (cl : List (Str × Addr)) (fp : List Addr), (X.blk s H scope (compEnvC scope cl C X.env) fp).env.scope.names.lookup l = some .local ∧ Vis (X.blk s H scope (compEnvC scope cl C X.env) fp).env.scope tx ∧ Vis (X.blk s H scope (compEnvC scope cl C X.env) fp).env.scope wk ∧ Gl (X.blk s H scope (compEnvC scope cl C X.env) fp) dn)
    (mD : X.mg dn = some (.ref a)) (x63 : ∀ c ∈ x.cps.toList, c ≠ 63) (xl : x.cps.size ≤ 1000)
    (dL : (LT == ("__debug__" : Str)) = false) (dl : (l == ("__debug__" : Str)) = false) (dt : (tx == ("__debug__" : Str)) = false) (dw : (wk == ("__debug__" : Str)) = false) (dd : (dn == ("__debug__" : Str)) = false) (ct : (tx == ("__classdict__" : Str)) = false) (cw : (wk == ("__classdict__" : Str)) = false)
    (hline : (q2.endLine == q5.line) = true) :
    PET X (.ListComp (.Call (.Attribute (.Name tx q1) "replace" q2) [.Constant (.str "?") j q3, .Name l q4] [] q5) [⟨.Name l q6, .Name LT q7, [.Compare (.Name l q8) [.NotEq] [.Subscript (.Name dn q9) (.Name wk q10) q11] q12], 0⟩] scope pos) (tWf X.K X.w x a it iw) := by
  intro pins s σ H Q h0 I h
  obtain ⟨s0, k, d, es, ek, hd, hlen, q⟩ := h
  obtain ⟨tL, rfl⟩ := rL
  rw [eval_ListComp]
  have hfree : ∀ y ∈ scope.names, y.2 = .free → ∃ c, X.env.cells.lookup y.1 = some c := fun y hy e => by
    rcases ok.free y hy e with k | k
    · exact I.ok.has _ (.inl k)
    · exact I.ok.has _ (.inr k)
  refine wpAny_comprehension_free (use := none) rfl (fun _ => rfl) (closure_ok hfree) ok.kind (fun y hy e => by rw [ok.uniq y hy, e]) ?_
  refine ld_glob I gL mL ?_ dL
  refine iter_str fun o ty hty st0 => ?_
  generalize hI : s.heap.objs.size = itA at st0
  generalize hs2 : ({ s with heap := s.heap.push o } : Shared) = s2
  have I2 : Inv X pins σ H s2 := by rw [← hs2]; exact I.kept (t' := s.toks) fun b o e => Heap.get?_push_of_some _ e
  have f2 : FpOk X pins H itA := I.fpOk (Nat.le_of_eq hI) (I.hok.fresh (Nat.le_of_eq hI))
  have st2 : s2.heap.IsStrIter itA ty x tL 0 := by rw [← hs2]; exact st0
  have k2 : 1 ≤ s2.toks := by rw [← hs2]; exact h0
  have T := turn_str (P := X.prog) (w := X.w) (K := X.K) (tg := .Name l q6) itA x tL ty hty
  refine wpAny_newObj_type (newEnv_comp ?_) (by show 0 ≤ sizeLine; decide)
  generalize hD : s2.heap.objs.size = D
  have hDn : H D = none := I2.hok.fresh (Nat.le_of_eq hD)
  generalize hs3 : ({ s2 with heap := s2.heap.push { cls := .type "list", data := .seq ([] : List Value).toArray } } : Shared) = s3
  have I3 : Inv X pins σ (upd H D (.lst [])) s3 := by
    rw [← hs3]
    refine I2.laid (t' := s2.toks) (fun b o e => Heap.get?_push_of_some _ e) (Nat.le_of_eq hD) ⟨Nat.zero_le _, [], 0, .nil, ?_⟩
    rw [← hD]
    exact Heap.get?_push_size _ rfl
  have h3 : s3.heap = s2.heap.push { cls := .type "list", data := .seq ([] : List Value).toArray } := by rw [← hs3]
  have k3 : 1 ≤ s3.toks := by rw [← hs3]; exact k2
  have sz : itA < s2.heap.objs.size := by
    obtain ⟨o, e, _⟩ := T.obj _ _ st2 itA (by simp)
    exact Heap.lt_size e
  have f3 : ∀ b ∈ [itA], FpOk X pins (upd H D (.lst [])) b ∧ b < s3.heap.objs.size := fun b hb => by
    obtain rfl : b = itA := by simpa using hb
    refine ⟨⟨?_, f2.2⟩, by rw [h3, Heap.size_push]; exact Nat.lt_succ_of_lt sz⟩
    rw [upd_ne (by rw [← hD]; exact Nat.ne_of_lt sz)]
    exact f2.1
  have st3 : s3.heap.IsStrIter itA ty x tL 0 := T.keep _ _ _ st2 fun b _ o e => by rw [h3]; exact Heap.get?_push_of_some _ e
  have I4 := block_start I3 ok hN f3
  have hin' := hin s3 (upd H D (.lst [])) s3.heap.objs.size (cellsFrom (s3.heap.objs.size + 1) scope.names (cloFrom X.env.cells scope.names [])) [itA]
  show codeAny _ _ (.compStart _ 0 (.ref itA) (.ref D) (compEnvC scope (cellsFrom (s3.heap.objs.size + 1) scope.names (cloFrom X.env.cells scope.names [])) s3.heap.objs.size X.env)) (compPost (model X.prog X.w) X.A X.xe none _ (.ref D) s3.heap.objs.size) { s3 with heap := pushCells (s3.heap.push { cls := .type "dict", data := .dict #[] }) scope.names }
  have nfp : (upd H D (.lst [])) itA = none := (f3 itA (by simp)).1.1
  generalize hce : compEnvC scope (cellsFrom (s3.heap.objs.size + 1) scope.names (cloFrom X.env.cells scope.names [])) s3.heap.objs.size X.env = ce at I4 hin' ⊢
  have cL : ce.locals = s3.heap.objs.size := by subst hce; rfl
  obtain ⟨hkl, vt, vw, gD⟩ := hin'
  generalize hs4 : ({ s3 with heap := pushCells (s3.heap.push { cls := .type "dict", data := .dict #[] }) scope.names } : Shared) = s4 at I4 ⊢
  have k4 : 1 ≤ s4.toks := by rw [← hs4]; exact k3
  have st4 : s4.heap.IsStrIter itA ty x tL 0 := T.keep _ _ _ st3 fun b _ o e => by rw [← hs4]; exact pushCells_keeps _ _ _ _ (Heap.get?_push_of_some _ e)
  have stat : ∀ {σ' : L2.St} {H' : Hp} {s' : Shared}, Inv (X.blk s3 (upd H D (.lst [])) scope ce [itA]) [] σ' H' s' → (∀ b ∈ [itA], H' b = none) → ∀ b ∈ [itA], FpOk (X.blk s3 (upd H D (.lst [])) scope ce [itA]) [] H' b := fun {σ' H' s'} I' hn b hb =>
    ⟨hn b hb, (I'.ok.exf b hb).1, I'.ok.exfs b hb, .inl hb, fun x c e => (I'.ok.exf b hb).2 x c e, fun p hp => absurd (show p ∈ ([] : List (Addr × Obj)) ++ [] from hp) (by simp)⟩
  have hDi : D ≠ itA := fun z => by rw [hD, z] at sz; exact absurd sz (Nat.lt_irrefl _)
  have nAt : ∀ (L : List V) b, b ∈ [itA] → (upd H D (.lst L)) b = none := fun L b hb => by
    obtain rfl : b = itA := by simpa using hb
    rw [upd_ne (fun z => hDi z.symm)]
    exact f2.1
  have loop : codeAny (model X.prog X.w) X.A (.compLoop (.ListComp (.Call (.Attribute (.Name tx q1) "replace" q2) [.Constant (.str "?") j q3, .Name l q4] [] q5) [⟨.Name l q6, .Name LT q7, [.Compare (.Name l q8) [.NotEq] [.Subscript (.Name dn q9) (.Name wk q10) q11] q12], 0⟩] scope pos) 0 (.ref itA) (.ref D) ce) (compPost (model X.prog X.w) X.A X.xe none (EP X pins σ Q) (.ref D) s3.heap.objs.size) s4 := by
    refine compLoop_any (fun n s' => ∃ m, Inv (X.blk s3 (upd H D (.lst [])) scope ce [itA]) [] (wipe σ (own.map (·.2))) (upd H D (.lst (wfV s0 d (x.cps.toList.take m)))) s' ∧ s'.heap.IsStrIter itA ty x tL m ∧ m + n = x.cps.size ∧ 1 ≤ s'.toks) ?_ x.cps.size ⟨0, I4, st4, Nat.zero_add _, k4⟩
    rintro n s5 ⟨m, I5, st5, hmn, k5⟩
    by_cases hlt : m < x.cps.size
    · -- a turn
      have hx : x.cps[m]? = some x.cps[m] := by simp [hlt]
      generalize hcc : x.cps[m] = c at hx
      refine next_str hty st5 hx fun h6 st6 sb6 => ?_
      obtain ⟨oi, e6, c6, d6⟩ := id st6
      refine go_of (s := { s5 with heap := h6, toks := s5.toks + 1 }) e6 c6 d6 (no_own hty) ?_
      have F5 := stat I5 (nAt _) itA (by simp)
      have I6 : Inv (X.blk s3 (upd H D (.lst [])) scope ce [itA]) [] (wipe σ (own.map (·.2))) (upd H D (.lst (wfV s0 d (x.cps.toList.take m)))) { s5 with heap := h6, toks := s5.toks + 1 } :=
        I5.turned (t' := s5.toks + 1) (fun b o hb e => (sb6.2 b hb).trans e) F5.1 F5.2.1 F5.2.2.2.1 F5.2.2.2.2.1 F5.2.2.2.2.2
      have I6p := I6.pinned (fp := [itA]) (stat I6 (nAt _)) (fun b hb => T.obj (m + 1) h6 st6 b hb)
      refine wpAny_assign_Name (store_loc (X := X.blk s3 (upd H D (.lst [])) scope ce [itA]) I6p hN hl hkl (v := .str ⟨#[c]⟩) ⟨_, rfl⟩ fun h8 m8 hn8 hm8 sb8 I8 => ?_)
      have et8 : ((wipe σ (own.map (·.2))).set i (some (V.str ⟨#[c]⟩)))[it]? = some (some (.str s0)) := by
        rw [List.getElem?_set_ne (Ne.symm hti'), wipe_out hti]; exact es
      have ew8 : ((wipe σ (own.map (·.2))).set i (some (V.str ⟨#[c]⟩)))[iw]? = some (some (.str k)) := by
        rw [List.getElem?_set_ne (Ne.symm hwi'), wipe_out hwi]; exact ek
      -- the turn's end
      have fin : ∀ {s' : Shared} {L : List V}, Inv (X.blk s3 (upd H D (.lst [])) scope ce [itA]) ([] ++ pinsAt [itA] h6) ((wipe σ (own.map (·.2))).set i (some (V.str ⟨#[c]⟩))) (upd H D (.lst L)) s' → L = wfV s0 d (x.cps.toList.take (m + 1)) → 1 ≤ s'.toks →
          ∃ n', n' < n ∧ ∃ m, Inv (X.blk s3 (upd H D (.lst [])) scope ce [itA]) [] (wipe σ (own.map (·.2))) (upd H D (.lst (wfV s0 d (x.cps.toList.take m)))) s' ∧ s'.heap.IsStrIter itA ty x tL m ∧ m + n' = x.cps.size ∧ 1 ≤ s'.toks := fun {s' L} I' eL kk => by
        subst eL
        refine ⟨n - 1, by omega, m + 1, (I'.unpinned (pins := [])).weak (by simp) (fun y v e => ?_), T.keep _ _ _ st6 fun b hb o e => (I'.pin (b, o) (List.mem_append_right _ (List.mem_append_right _ (mem_pinsAt hb e)))).1, by omega, kk⟩
        have hy := (wipe_some e).2
        rw [List.getElem?_set_ne (fun z => hy (by rw [← z]; exact hii))]
        exact e
      have etk : x.cps.toList.take (m + 1) = x.cps.toList.take m ++ [c] := by
        rw [List.take_add_one]
        have : x.cps.toList[m]? = some c := by simpa using hx
        rw [this]
        rfl
      -- the test
      refine wpAny_tests_one (wpAny_isTrue_Compare1 (wpAny_Name (wpAny_loadName_local I8.ok.kind hkl hn8 hm8 ?_) dl))
      refine Subscript_ (ld_glob I8 gD mD ?_ dd)
      refine raw_name (X := X.blk s3 (upd H D (.lst [])) scope ce [itA]) hw vw I8 ew8 (fun v r => ?_) dw cw
      obtain ⟨tk, rfl⟩ := r
      obtain ⟨es', n', u0, hlK, hkK, eK, ru⟩ := hd
      have hm := PySem.W.mapOf_K (prog := X.prog) (w := X.w) I8.kIn hlK hkK
      refine tail_any (ops := _) hm.typeIs slot_dict_getitem.lookup (wpAny_getItem_of (strKind_is X.prog X.w k tk) hm (PySem.W.find_K hlK eK) ?_) rfl
      obtain ⟨td, rfl⟩ := ru
      refine PySem.P.ne_str ?_
      refine wpAny_truthy_bool ?_
      have ecp : ((⟨#[c]⟩ : Str).cps.toList != d.cps.toList) = ([c] != d.cps.toList) := rfl
      rw [ecp]
      cases hb : ([c] != d.cps.toList) with
      | false =>
        show ∃ m', m' < n ∧ _
        refine fin (I8.tok _) ?_ (by show 1 ≤ s5.toks + 1 + 1 + 1; omega)
        rw [etk, wfV_snoc, hb]
        simp
      | true =>
        show wpAny _ _ _ _ _ _
        refine PySem.Call_method2 rfl rfl hline (raw_name (X := X.blk s3 (upd H D (.lst [])) scope ce [itA]) ht vt (I8.tok _) et8 (fun v r => ?_) dt ct)
        obtain ⟨tt, rfl⟩ := r
        refine ⟨"str", _, F.plainAttrs_str, F.slot_str_replace, F.type_str_replace, typeIs_str _ _ _, (fun _ e => nomatch e), Calls.callWith_builtin rfl (Calls.evalArgs_plain (Calls.spliced_cons ?_))⟩
        refine Calls.Constant_str (Calls.spliced_cons (wpAny_Name (wpAny_loadName_local I8.ok.kind hkl hn8 hm8 (Calls.spliced_nil ?_)) dl))
        have c63 : (("?" : Str) == (⟨#[c]⟩ : Str)) = false := by
          have hne : c ≠ 63 := x63 c (List.mem_of_getElem? (i := m) (by simpa using hx))
          refine beq_eq_false_iff_ne.mpr fun e => hne ?_
          have e2 : ("?" : Str).cps = #[63] := by decide +kernel
          have e3 := congrArg Str.cps e
          rw [e2] at e3
          have e4 := congrArg Array.toList e3
          simp at e4
          exact e4.symm
        refine thnT (n := 1) (by show 1 ≤ s5.toks + 1 + 1 + 1 + 1; omega) (PySem.SC.replace (Q := fun v s' => ∃ t' kk, v = Value.str (Txt.replace s0 ("?" : Str) ⟨#[c]⟩) t' ∧ s' = ({ s5 with heap := h8, toks := kk } : Shared)) (by show s5.toks + 1 + 1 + 1 ≠ 0; omega) (by show s5.toks ≠ 0; omega) (by show s5.toks + 1 + 1 + 1 ≠ s5.toks; omega) c63 (by show s0.length + (s0.length + 1) * 1 ≤ 16777216; omega) fun t' kk => ⟨t', kk, rfl, rfl⟩) fun v s' k9 ⟨t', kk, ev, es'⟩ => ?_
        subst ev es'
        have hk' : 1 ≤ kk := k9
        have hDL : (upd H D (.lst (wfV s0 d (x.cps.toList.take m)))) D = some (.lst (wfV s0 d (x.cps.toList.take m))) := upd_same
        have hz : (wfV s0 d (x.cps.toList.take m)).length < sizeLine := by
          unfold wfV
          rw [List.length_map]
          refine Nat.lt_of_le_of_lt (List.length_filter_le _ _) ?_
          rw [List.length_take]
          have : sizeLine = 16777216 := by decide
          omega
        refine thnT (n := 1) hk' (app_ok (X := X.blk s3 (upd H D (.lst [])) scope ce [itA]) (I8.tok kk) hDL hz (y := V.str (Txt.replace s0 ("?" : Str) ⟨#[c]⟩)) ⟨t', rfl⟩ (Q := fun _ s11 => Inv (X.blk s3 (upd H D (.lst [])) scope ce [itA]) ([] ++ pinsAt [itA] h6) ((wipe σ (own.map (·.2))).set i (some (V.str ⟨#[c]⟩))) (upd (upd H D (.lst (wfV s0 d (x.cps.toList.take m)))) D (.lst (wfV s0 d (x.cps.toList.take m) ++ [V.str (Txt.replace s0 ("?" : Str) ⟨#[c]⟩)]))) s11) fun s11 I11 => I11) fun _ s11 k11 I11 => ?_
        rw [upd_upd] at I11
        refine fin I11 ?_ k11
        rw [etk, wfV_snoc, hb]
        rfl
    · obtain rfl : m = x.cps.size := by omega
      have td := T.done (X.blk s3 (upd H D (.lst [])) scope ce [itA]) rfl rfl rfl hc x.cps.size [] s5 _ _ (fun _ _ => False) I5 (stat I5 (nAt _)) st5 (Nat.le_refl _)
      refine thnF td fun r s6 ⟨hr, I6⟩ => ?_
      subst hr
      rw [List.take_of_length_le (by simp)] at I6
      have I7 : Inv X pins σ (upd H D (.lst (wfV s0 d x.cps.toList))) s6 := I3.call' (ch := [itA]) I6.os I6.base I6.hok I6.bare fun b hb => ⟨(f3 b hb).1.2.2.2.1, (f3 b hb).1.2.1, (f3 b hb).1.2.2.2.2.1, (f3 b hb).1.2.2.2.2.2⟩
      have nC : (upd H D (.lst (wfV s0 d x.cps.toList))) s3.heap.objs.size = none := by
        have z := I6.free
        rw [show (X.blk s3 (upd H D (.lst [])) scope ce [itA]).env.locals = s3.heap.objs.size from cL] at z
        exact z
      obtain ⟨mm, hn, _⟩ := I6.loc
      have hn : s6.heap.Ns ce.locals mm := hn
      rw [cL] at hn
      refine ⟨mm, hn, fun h'' sb => ?_⟩
      obtain ⟨f0, f1, f2, f3, f4, f5⟩ := I3.fpOk (H' := upd H D (.lst (wfV s0 d x.cps.toList))) (Nat.le_refl _) nC
      exact ⟨.ref D, _, I7.turned (t' := s6.toks) (fun b o hb e => (sb.2 b hb).trans e) f0 f1 f3 f4 f5, rfl, q D hDn⟩
  exact codeAny_compStart_list loop (T.self X.A 0 _ _ _ st4 loop)
end
/-! ### where a token is out -/
/-- an expression behind which a token is out -/
def PEO (X : Cx) (e : Expr) (t : TE) : Prop :=
  ∀ (pins : List (Addr × Obj)) (s : Shared) (σ : L2.St) (H : Hp) (Q : VK), Inv X pins σ H s → t σ H Q → wpAny (model X.prog X.w) X.A (eval e X.env) (fun v s1 => 1 ≤ s1.toks ∧ EP X pins σ Q v s1) X.xe s
def PAO (X : Cx) (es : List Expr) (t : TA) : Prop :=
  ∀ (pos : Pos) (pins : List (Addr × Obj)) (s : Shared) (σ : L2.St) (H : Hp) (Q : List V → Hp → Prop), Inv X pins σ H s → t σ H Q → wpAny (model X.prog X.w) X.A (spliced (backTo pos (starEach es X.env))) (fun us s1 => 1 ≤ s1.toks ∧ AP X pins σ Q us s1) X.xe s
/-- a test where a token is out -/
def PTT (X : Cx) (e : Expr) (t : TT) : Prop :=
  ∀ (pins : List (Addr × Obj)) (s : Shared) (σ : L2.St) (H : Hp) (Q : Bool → Hp → Prop), 1 ≤ s.toks → Inv X pins σ H s → t σ H Q → wpAny (model X.prog X.w) X.A (isTrue e X.env (eval e X.env)) (TP X pins σ Q) X.xe s
section
variable {X : Cx}
theorem peo_int {i : Int} {k : Nat} {pos : Pos} : PEO X (.Constant (.int i) k pos) (tC (.int i)) := by
  intro pins s σ H Q I h
  refine wpAny_Constant_int ?_
  exact ⟨by show 1 ≤ s.toks + 1; omega, .int i, H, I.tok _, ⟨_, rfl⟩, h⟩
theorem peo_ix {r : R2} {a b : Expr} {ta tb : TE} {pos : Pos} (hr : IxR X r) (ha : PE X a ta) (hb : PEO X b tb) (hs : PlainIx b) : PEO X (.Subscript a b pos) (tOp r ta tb) := by
  intro pins s σ H Q I h
  refine Subscript_ (thn (ha.run pins s σ H _ I h) fun v s1 ⟨x, H1, I1, r1, q1⟩ => thn (hb pins s1 σ H1 _ I1 q1) fun u s2 ⟨k2, y, H2, I2, r2, q2⟩ => ?_)
  exact thnT k2 (hr a b pins s2 σ H2 x y v u Q I2 r1 r2 q2 (hs _ _)) fun z s3 k3 q3 => ⟨k3, q3⟩
theorem pao_cons {e : Expr} {es : List Expr} {te : TE} {t : TA} (ha : PEO X e te) (hr : PA X es t) (hs : starEach (e :: es) X.env = (false, eval e X.env) :: starEach es X.env) : PAO X (e :: es) (tCons te t) := by
  intro pos pins s σ H Q I h
  rw [hs]
  show wpAny _ _ (spliced ((false, eval e X.env) :: backTo pos (starEach es X.env))) _ _ s
  refine Calls.spliced_cons (thn (ha pins s σ H _ I h) fun u s1 ⟨k1, x, H1, I1, r1, q1⟩ => ?_)
  exact thnT k1 (hr.run pos pins s1 σ H1 _ I1 q1) fun us s2 k2 ⟨xs, H2, I2, r2, q2⟩ => ⟨k2, x :: xs, H2, I2, .cons r1 r2, q2⟩
/-- a, b = x, y behind which a token is out, what follows told -/
theorem pss_par2 {i j : Nat} {x y : Str} {a b : Expr} {ta : TA} {u : TS} {rest : List Stmt} {px py pt : Pos} {kt k2 : Nat} {pt2 pos : Pos} (hc : X.calm = true) (hN : X.N.Nodup) (hi : X.N[i]? = some x) (hj : X.N[j]? = some y) (hij : i ≠ j)
    (hx : X.env.scope.names.lookup x = some .local) (hy : X.env.scope.names.lookup y = some .local) (ha : PAO X [a, b] ta)
    (hw : swappedStores [.Tuple [.Name x px, .Name y py] kt pt] (.Tuple [a, b] k2 pt2) X.env = pure (some [x, y]))
    (hs : swapsWithSole [.Tuple [.Name x px, .Name y py] kt pt] (.Tuple [a, b] k2 pt2) pos.line X.env = pure false) (hr : PSsT X rest u) :
    PSs X (.Assign [.Tuple [.Name x px, .Name y py] kt pt] (.Tuple [a, b] k2 pt2) pos :: rest) (tSeq (tPar i j ta) u) := by
  refine ⟨fun pins s σ H D I h => ?_⟩
  refine wpAny_execs_cons ?_
  rw [exec_Assign_arm]
  refine wpAny_bind (wpAny_standAt ?_)
  rw [hs]
  refine wpAny_bind (wpAny_pure ?_)
  rw [if_neg (by decide)]
  refine wpAny_bind (Tuple_ (thn (ha _ pins s σ H _ I h) fun us s1 ⟨k1, vs, H1, I1, r1, q1⟩ => ?_))
  obtain ⟨v, w, e1, q1⟩ := q1
  subst e1
  obtain ⟨u1, u2, rfl, rv, rw'⟩ : ∃ u1 u2, us = [u1, u2] ∧ RelV v u1 ∧ RelV w u2 := by
    cases r1 with
    | cons p q =>
      cases q with
      | cons p' q' =>
        cases q'
        exact ⟨_, _, rfl, p, p'⟩
  refine wpAny_newObj_type ?_ (by show 2 ≤ sizeLine; decide)
  have I2 : Inv X pins σ H1 { s1 with heap := s1.heap.push { cls := .type "tuple", data := .seq [u1, u2].toArray } } := I1.kept (t' := s1.toks) fun b o e => Heap.get?_push_of_some _ e
  rw [hw]
  refine wpAny_bind (wpAny_pure ?_)
  show wpAny (model X.prog X.w) X.A (do rule "assign.swapped-stores"; let items ← unpackItems (.ref s1.heap.objs.size) 2 none; assignInOrder [fun v => bindName X.env y v, fun v => bindName X.env x v] items.reverse; pure Flow.next) _ _ _
  refine wpAny_bind (wpAny_rule (wpAny_bind (unpackItems_tuple (items := #[u1, u2]) (I.ok.hd hc) (IsTup.new s1.heap _) fun h' hx' => ?_)))
  have I3 := I2.kept (h' := h') (t' := s1.toks) fun b o e => hx' b o (Nat.ne_of_lt (Heap.lt_size e)) e
  show wpAny _ _ (assignInOrder [fun v => bindName X.env y v, fun v => bindName X.env x v] [u2, u1] >>= fun _ => pure Flow.next) _ _ _
  refine thnT (n := 1) (by exact k1) (Q := fun f s' => f = Flow.next ∧ Inv X pins ((σ.set i (some v)).set j (some w)) H1 s') ?_ fun f s' k' ⟨e, I'⟩ => ?_
  · refine wpAny_bind (assignInOrder_cons (wpAny_bindName (store_ok I3 hN hj (.inl hy) rw' (fun s2 I4 => ?_) (.inr hy))))
    refine assignInOrder_cons (wpAny_bindName (store_ok I4 hN hi (.inl hx) rv (fun s3 I5 => assignInOrder_nil (wpAny_pure ?_)) (.inr hx)))
    rw [List.set_comm _ _ (Ne.symm hij)] at I5
    exact ⟨rfl, I5⟩
  · subst e
    exact hr pins s' _ H1 D k' I' q1
theorem ptt_of {e : Expr} {t : TT} (h : PT X e t) : PTT X e t := fun pins s σ H Q _ I q => h.run pins s σ H Q I q
/-- a or b or c, the middle one where a token is out -/
theorem ptt_or3 {a b c : Expr} {pos : Pos} {ta tb tc : TT} (ha : PT X a ta) (hb : PTT X b tb) (hc : PT X c tc) : PTT X (.BoolOp .Or [a, b, c] pos) (tOr ta (tOr tb tc)) := by
  intro pins s σ H Q h0 I h
  refine isTrue_or (thnT h0 (ha.run pins s σ H _ I h) fun d s1 k1 ⟨H1, I1, q1⟩ => ?_)
  cases d with
  | true => exact ⟨H1, I1, q1⟩
  | false =>
    refine isTrue_or (thn (hb pins s1 σ H1 _ k1 I1 q1) fun d s2 ⟨H2, I2, q2⟩ => ?_)
    cases d with
    | true => exact ⟨H2, I2, q2⟩
    | false => exact (pw_or1 (pos := pos) hc).run _ pins s2 σ H2 Q I2 q2
theorem ptt_not {a : Expr} {pos : Pos} {t : TT} (ha : PTT X a t) : PTT X (.UnaryOp .Not a pos) (tNot t) := by
  intro pins s σ H Q h0 I h
  exact isTrue_not (ha pins s σ H (fun c H1 => Q (!c) H1) h0 I h)
theorem ptt_val {e : Expr} {t : TE} (h : PET X e t) (he : ∀ whole, isTrue e X.env whole = (do let v ← whole; standAt e.pos; holding [v] (truthy v))) : PTT X e (tB t) := by
  intro pins s σ H Q h0 I hw
  refine isTrue_plain (thn (h pins s σ H _ h0 I hw) fun v s1 ⟨x, H1, I1, r1, q1⟩ => ?_) (he _)
  obtain ⟨d, rfl, q⟩ := q1
  cases r1
  exact wpAny_truthy_bool ⟨H1, I1, q⟩
theorem PSsT_pat1 {e : Expr} {te : TE} (ha : PET X e te) (he : starEach [e] X.env = [(false, eval e X.env)]) : PAT X [e] (tCons te tNil) := pat_cons ha pat_nil he
/-- f(e), one argument, a token out -/
theorem pet_call1 {CX : CXT} {k : Nat} {f : Addr} {fd : FuncData} {ps : List Str} {sp : Sp} {x : Str} {E : L2.St → XK} {e : Expr} {te : TE} {p pos : Pos} (F : FnOk X.prog X.w X.K X.mg X.base CX k f fd ps sp) (hr : Room k X.A) (hg : Gl X x) (hm : X.mg x = some (.ref f)) (hk : PySem.W.keepIn X.K (.ref f) = true) (hb : Binds X.K fd ps []) (hx : ∀ σ, PassesAt CX X σ (E σ))
    (ha : PET X e te) (hdb : (x == ("__debug__" : Str)) = false) (he : starEach [e] X.env = [(false, eval e X.env)]) :
    PET X (.Call (.Name x p) [e] [] pos) (tCallS sp E (tCons te tNil)) := by
  intro pins s σ H Q h0 I h
  refine wpAny_Call_Name_kw (ld_glob I hg hm ?_ hdb)
  refine PySem.W.callWith_K (h₀ := X.base) I.ok.mod.kin hk (thn (PSsT_pat1 ha he pos pins s σ H _ h0 I h) fun us s1 ⟨vs, H1, I1, r, q⟩ => ⟨I1.kIn, ?_⟩) he rfl
  exact run_fnS F hr hb (hx σ) I1 r q
theorem pst_if' {c : Expr} {a : List Stmt} {pos : Pos} {tc : TT} {t : TS} (hc : PTT X c tc) (ha : PSs X a t) : PST X (.If c a [] pos) (tIfS tc t tNext) := by
  intro pins s σ H D h0 I h
  refine wpAny_If (thn (hc pins s σ H _ h0 I h) fun d s1 ⟨H1, I1, q1⟩ => ?_)
  cases d with
  | true => exact ha.run pins s1 σ H1 D I1 q1
  | false => exact (pss_nil (X := X)).run pins s1 σ H1 D I1 q1
end
end Z

/-! ZQ2: the same as the core says it; t.replace("?", "-"), t.count(c) -/
namespace Z
open PySem PySem.Spec PyProof.Rows L2 TL

theorem replL_map (c : Nat) : ∀ s : List Nat, StrLaws.replL [63] [c] s = s.map (rpl c)
  | [] => StrLaws.replL_nil
  | y :: s => by
    by_cases h : y = 63
    · subst h
      rw [StrLaws.replL_hit (by simp) (by simp), List.map_cons]
      simp only [List.length_cons, List.length_nil, List.drop_succ_cons, List.drop_zero, Nat.zero_add]
      rw [replL_map c s]
      rfl
    · rw [StrLaws.replL_miss (by simpa using h), replL_map c s, List.map_cons]
      simp [rpl, h]
theorem q63 : ("?" : Str) = ⟨#[63]⟩ := by decide +kernel
theorem repl_str (s : List Nat) (c : Nat) : Txt.replace (⟨s.toArray⟩ : Str) ("?" : Str) ⟨#[c]⟩ = ⟨(s.map (rpl c)).toArray⟩ := by
  rw [q63]
  apply ext_tl
  have := StrLaws.replace_list (x := (⟨s.toArray⟩ : Str)) (y := ⟨#[63]⟩) (z := ⟨#[c]⟩) (by decide)
  rw [tl_mk]
  show (Txt.replace _ _ _).cps.toList = _
  rw [this]
  exact replL_map c s
theorem rpl_ok {c : Nat} {s : List Nat} (hc : c < 0x110000) (h : SOk s) : SOk (s.map (rpl c)) := by
  refine ⟨?_, by rw [List.length_map]; exact h.2⟩
  rw [List.all_map, List.all_eq_true]
  intro y hy
  have := (List.all_eq_true.mp h.1) y hy
  simp only [Function.comp_apply, rpl]
  split
  · simpa using hc
  · exact this
theorem wfV_reps {K : PySem.W.Frag} {F : Hp} {s d : List Nat} (hs : SOk s) : ∀ x : List Nat, (∀ c ∈ x, c < 0x110000) → Reps K F ((x.filter fun c => [c] != d).map fun c => .str (s.map (rpl c))) (wfV ⟨s.toArray⟩ ⟨d.toArray⟩ x)
  | [], _ => rfl
  | c :: x, h => by
    have ih := wfV_reps (K := K) (F := F) (d := d) hs x fun y hy => h y (List.mem_cons_of_mem _ hy)
    unfold wfV at *
    cases e : ([c] != d) with
    | false =>
      rw [List.filter_cons, if_neg (by simp [e])]
      exact ih
    | true =>
      rw [List.filter_cons, if_pos e, List.map_cons, List.map_cons]
      exact ⟨_, _, rfl, Rep.str_iff.mpr ⟨by rw [repl_str]; rfl, rpl_ok (h c List.mem_cons_self) hs⟩, ih⟩
theorem vlv_some {i : Nat} {r : St} {d : D} (h : vlv i r = some d) : r[i]? = some (.val d) := by
  unfold vlv at h
  split at h
  · cases h; assumption
  · cases h
section
variable {X : Cx} {ca : Nat → Addr} {W : WX}
theorem q_bad {e : Expr} {f : St → R D} (h : ∀ r, f r = .bad) : QE X ca W e f := ⟨fun pins s σ H Q I ⟨r, F, p, z⟩ => by rw [h r] at z; exact z.elim⟩
theorem q_wfr {l tx wk dn LT : Str} {i it iw j j0 : Nat} {a : Addr} {ks : List (List Nat)} {ds : List D} {gD : Option D} {scope : Scope} {own : List (Str × Nat)} {q1 q2 q3 q4 q5 q6 q7 q8 q9 q10 q11 q12 p0 p1 p2 p3 p4 p5 pos : Pos} (hc : X.calm = true) (hN : X.N.Nodup) (gL : Gl X LT)
    (hG : ∃ d v u, gD = some d ∧ X.mg LT = some u ∧ RelV v u ∧ ∀ F, Rep X.K F d v) (ok : BlkOk X.N X.env.scope scope own)
    (hl : X.N[i]? = some l) (ht : X.N[it]? = some tx) (hw : X.N[iw]? = some wk) (vx : Vis X.env.scope tx) (hti : it ∉ own.map (·.2)) (hwi : iw ∉ own.map (·.2)) (hii : i ∈ own.map (·.2)) (hti' : it ≠ i) (hwi' : iw ≠ i)
    (hin : ∀ (s : Shared) (H : Hp) (C : Addr) (cl : List (Str × Addr)) (fp : List Addr), (X.blk s H scope (compEnvC scope cl C X.env) fp).env.scope.names.lookup l = some .local ∧ Vis (X.blk s H scope (compEnvC scope cl C X.env) fp).env.scope tx ∧ Vis (X.blk s H scope (compEnvC scope cl C X.env) fp).env.scope wk ∧ Gl (X.blk s H scope (compEnvC scope cl C X.env) fp) dn)
    (mD : X.mg dn = some (.ref a)) (hT : ∀ s d, dlook ks ds s = some d → KDct X.K X.w a ⟨s.toArray⟩ (cvD d) ∧ cOk d = true)
    (dL : (LT == ("__debug__" : Str)) = false) (dl : (l == ("__debug__" : Str)) = false) (dt : (tx == ("__debug__" : Str)) = false) (dw : (wk == ("__debug__" : Str)) = false) (dd : (dn == ("__debug__" : Str)) = false) (ct : (tx == ("__classdict__" : Str)) = false) (cw : (wk == ("__classdict__" : Str)) = false)
    (hline : (q2.endLine == q5.line) = true) :
    QE X ca W (.IfExp (.Compare (.Constant (.str "?") j0 p0) [.In] [.Name tx p1] p2) (.ListComp (.Call (.Attribute (.Name tx q1) "replace" q2) [.Constant (.str "?") j q3, .Name l q4] [] q5) [⟨.Name l q6, .Name LT q7, [.Compare (.Name l q8) [.NotEq] [.Subscript (.Name dn q9) (.Name wk q10) q11] q12], 0⟩] scope pos) (.List [.Name tx p3] p4) p5)
      (fun r => .of (wfrD (vlv it r) (vlv iw r) gD ks ds) r) := by
  obtain ⟨gd, gv, gu, rfl, mL, rL, rG⟩ := hG
  cases gd with
  | str x =>
    by_cases hx : x.length ≤ 1000 ∧ x.contains 63 = false
    · obtain ⟨egv, sx⟩ := Rep.str_iff.mp (rG (fun _ => none))
      subst egv
      have x63 : ∀ c ∈ x, c ≠ 63 := fun c hc e => by
        have := hx.2
        rw [e] at hc
        simp [hc] at this
      have xo : ∀ c ∈ x, c < 0x110000 := fun c hc => by simpa using (List.all_eq_true.mp sx.1) c hc
      have pw := pet_wf (X := X) (x := (⟨x.toArray⟩ : Str)) (pos := pos) (q1 := q1) (q2 := q2) (q3 := q3) (q4 := q4) (q5 := q5) (q6 := q6) (q7 := q7) (q8 := q8) (q9 := q9) (q10 := q10) (q11 := q11) (q12 := q12) (j := j) hc hN gL mL rL ok hl ht hw hti hwi hii hti' hwi' hin mD (by simpa using x63) (by simpa using hx.1) dL dl dt dw dd ct cw hline
      refine PE.weak (pe_ifO (pto_str op_in_sign (pe_var ht vx dt ct) rfl) pw (pe_lst (pa_cons (pe_var ht vx dt ct) pa_nil))) fun σ H Q ⟨r, F, p, h⟩ => ?_
      dsimp only at h
      unfold wfrD at h
      split at h
      · rename_i s k x' et ew eg
        cases eg
        obtain ⟨vt, e1, r1⟩ := p.val _ _ (vlv_some et)
        obtain ⟨vw, e2, r2⟩ := p.val _ _ (vlv_some ew)
        obtain ⟨rfl, so⟩ := Rep.str_iff.mp r1
        obtain ⟨rfl, wo⟩ := Rep.str_iff.mp r2
        split at h
        · rename_i hcnd
          refine ⟨_, e1, 63, ⟨s.toArray⟩, q63 ▸ rfl, rfl, _, rfl, ?_⟩
          have ec : decide (63 ∈ (⟨s.toArray⟩ : Str).cps.toList) = s.contains 63 := by simp [List.contains_eq_mem]
          rw [ec]
          dsimp only
          split at h
          · rename_i h63
            rw [if_pos h63]
            split at h
            · rename_i d hd
              obtain ⟨kd, _⟩ := hT _ _ hd
              refine ⟨⟨s.toArray⟩, ⟨k.toArray⟩, ⟨d.toArray⟩, e1, e2, kd, by rw [len_mk]; exact hcnd.1, fun D hD => ?_⟩
              have hn := p.new (o := .lst (wfV ⟨s.toArray⟩ ⟨d.toArray⟩ x)) hD
              exact h (.ref D) _ _ hn (Rep.lst_iff.mpr ⟨D, _, rfl, SqL.of upd_same, wfV_reps so x xo⟩)
            · exact h.elim
          · rename_i h63
            rw [if_neg h63]
            refine ⟨_, e1, by show 1 ≤ sizeLine; decide, fun D hD => ?_⟩
            have hn := p.new (o := .lst [SV s]) hD
            exact h (.ref D) _ _ hn (Rep.lst_iff.mpr ⟨D, _, rfl, SqL.of upd_same, ⟨_, _, rfl, Rep.str_iff.mpr ⟨rfl, so⟩, rfl⟩⟩)
        · exact h.elim
      · exact h.elim
    · refine q_bad fun r => ?_
      unfold wfrD
      split
      · rename_i s k x' et ew eg
        cases eg
        rw [if_neg (fun z => hx z.2)]
        rfl
      · rfl
  | _ => exact q_bad fun r => by unfold wfrD; split <;> first | (rename_i eg; cases eg; done) | rfl
end
end Z

/-! ZQ3: a, b = v[0], v[3]; if A or not f(b.replace("?", "-")) or B: return False -/
namespace Z
open PySem PySem.Spec PyProof.Rows L2 TL

theorem strict_ix {M : Model} {A : Around} {env : Env} {a : Expr} {k : Int} {j : Nat} {p pos : Pos} {Q : Value → Shared → Prop} {E : Value → Shared → Prop} {s : Shared} (h : wpAny M A (eval (.Subscript a (.Constant (.int k) j p) pos) env) Q E s) :
    wpAny M A (eval (.Subscript a (.Constant (.int k) j p) pos) env) (fun v s' => 1 ≤ s'.toks ∧ Q v s') E s := by
  intro Γ p0 hΓ
  have h := h Γ p0 hΓ
  rw [eval_Subscript] at h ⊢
  rw [Sem.wp_bind'] at h ⊢
  refine Sem.wp_mono M Γ _ (fun o p1 s1 h1 => ?_) (fun _ _ _ z => z) p0 s h
  rw [Sem.wp_bind', Sem.wp_holding] at h1 ⊢
  have h2 := Sem.wp_toks M Γ 1 _ _ _ p1 { s1 with toks := s1.toks + 1 } (by show 1 ≤ s1.toks + 1; omega) (show Sem.wp M Γ _ (fun v _ s' => Q v s') (fun e _ s' => E e s') p1 { s1 with toks := s1.toks + 1 } from h1)
  exact (Sem.wp_mono M Γ _ (fun _ _ _ z => z) (fun _ _ _ z => z.2) _ _ h2 : Sem.wp M Γ _ (fun v _ s' => 1 ≤ s'.toks ∧ Q v s') (fun e _ s' => E e s') p1 { s1 with toks := s1.toks + 1 })
section
variable {X : Cx} {ca : Nat → Addr} {W : WX} {pos : Pos}
theorem peo_of {a : Expr} {k : Int} {j : Nat} {p : Pos} {t : TE} (h : PE X (.Subscript a (.Constant (.int k) j p) pos) t) : PEO X (.Subscript a (.Constant (.int k) j p) pos) t := fun pins s σ H Q I q => strict_ix (h.run pins s σ H Q I q)
/-- .. over the core -/
theorem PTT.weak {e : Expr} {t t' : TT} (h : PTT X e t) (w : ∀ σ H Q, t' σ H Q → t σ H Q) : PTT X e t' := fun pins s σ H Q k I q => h pins s σ H Q k I (w σ H Q q)
theorem PET.weak {e : Expr} {t t' : TE} (h : PET X e t) (w : ∀ σ H Q, t' σ H Q → t σ H Q) : PET X e t' := fun pins s σ H Q k I q => h pins s σ H Q k I (w σ H Q q)
theorem PST.weak {e : Stmt} {t t' : TS} (h : PST X e t) (w : ∀ D σ H, t' D σ H → t D σ H) : PST X e t' := fun pins s σ H D k I q => h pins s σ H D k I (w D σ H q)
/-- t.replace("?", "-") -/
theorem qet_rep1 {i j0 j1 : Nat} {x : Str} {q1 q2 q3 q4 q5 : Pos} (hN : X.N[i]? = some x) (hv : Vis X.env.scope x) (hd : (x == ("__debug__" : Str)) = false) (hcd : (x == ("__classdict__" : Str)) = false) (hline : (q2.endLine == q5.line) = true) :
    PET X (.Call (.Attribute (.Name x q1) "replace" q2) [.Constant (.str "?") j0 q3, .Constant (.str "-") j1 q4] [] q5) (tE X.K ca W (fun r => .of (rep1D (vlv i r)) r)) := by
  refine PET.weak (CwR.pet_replC (y := "?") (z := "-") (pe_var hN hv hd hcd) (by decide +kernel) rfl rfl hline) fun σ H Q ⟨r, F, p, h⟩ => ?_
  dsimp only at h
  unfold rep1D at h
  split at h
  · rename_i s e
    obtain ⟨v, e1, r1⟩ := p.val _ _ (vlv_some e)
    obtain ⟨rfl, so⟩ := Rep.str_iff.mp r1
    split at h
    · rename_i hl
      refine ⟨_, e1, ⟨s.toArray⟩, rfl, ?_, ?_⟩
      · rw [len_mk, show (("-" : Str).length) = 1 by decide +kernel]; omega
      · have q45 : ("-" : Str) = ⟨#[45]⟩ := by decide +kernel
        rw [q45, repl_str]
        exact h _ _ _ (Ps.refl p) (Rep.str_iff.mpr ⟨rfl, rpl_ok (by decide) so⟩)
    · exact h.elim
  · exact h.elim
/-- f(e), one argument -/
theorem qet_call1 {k : Nat} {f0 : Addr} {fd : FuncData} {ps : List Str} {x : Str} {e : Expr} {fe : St → R D} {c : List Slot → CR} {p pos : Pos} (tk : Takes X W) (FO : FnOk X.prog X.w X.K X.mg X.base (L2.CX X.prog X.w) k f0 fd ps (SpOf X.K ca ps.length c)) (hr : Room k X.A) (hg : Gl X x) (hm : X.mg x = some (.ref f0)) (hk : PySem.W.keepIn X.K (.ref f0) = true) (hb : Binds X.K fd ps [])
    (hd : (x == ("__debug__" : Str)) = false) (he : PET X e (tE X.K ca W fe)) (hs : starEach [e] X.env = [(false, eval e X.env)]) (hlen : ps.length = 1) :
    PET X (.Call (.Name x p) [e] [] pos) (tE X.K ca W (fun r => (fe r).bind fun d r => (c [.val d]).val r)) := by
  refine PET.weak (pet_call1 FO hr hg hm hk hb (E := WE W) (fun σ => passAt tk σ) he hd hs) fun σ H Q ⟨r, F, q, h⟩ => ⟨r, F, q, Fi.step h fun d0 r1 v H1 F1 p1 q1 h => ?_⟩
  refine ⟨[.val d0], F1, hlen.symm, vals_rp (l := [d0]) (vs := [v]) p1.rp.sub ⟨v, [], rfl, q1, rfl⟩, fun i m z => ?_, fun i m z => ?_, ?_⟩
  · exact vals_noL (l := [d0]) (i := i) (m := m) (by rw [show ([d0].map Slot.val) = [.val d0] from rfl, z]; rfl)
  · exact absurd (show ownL ([d0].map Slot.val)[i]? = some m by rw [show ([d0].map Slot.val) = [.val d0] from rfl, z]; rfl) vals_noL
  · cases e2 : c [.val d0] with
    | bad => rw [e2] at h; exact h.elim
    | ret d o =>
      rw [e2] at h
      exact fun v H' F' pc q => h v H' F' (Pc.ps (l := [d0]) p1.rp pc) q
    | exc y o =>
      rw [e2] at h
      exact fun cls dd H' F' pc q => h cls dd H' F' (Pc.ps (l := [d0]) p1.rp pc) q
def PWT (X : Cx) (e : Expr) (t : TT) : Prop :=
  ∀ (whole : Sem Value) (pins : List (Addr × Obj)) (s : Shared) (σ : L2.St) (H : Hp) (Q : Bool → Hp → Prop), 1 ≤ s.toks → Inv X pins σ H s → t σ H Q → wpAny (model X.prog X.w) X.A (isTrue e X.env whole) (TP X pins σ Q) X.xe s
theorem PWT.weak {e : Expr} {t t' : TT} (h : PWT X e t) (w : ∀ σ H Q, t' σ H Q → t σ H Q) : PWT X e t' := fun wh pins s σ H Q k I q => h wh pins s σ H Q k I (w σ H Q q)
theorem pwt_or1 {a b : Expr} {rest : List Expr} {ta tb : TT} (ha : PT X a ta) (hb : PWT X (.BoolOp .Or (b :: rest) pos) tb) : PWT X (.BoolOp .Or (a :: b :: rest) pos) (tOr ta tb) := by
  intro wh pins s σ H Q h0 I h
  refine isTrue_or (thnT h0 (ha.run pins s σ H _ I h) fun d s1 k1 ⟨H1, I1, q1⟩ => ?_)
  cases d with
  | true => exact ⟨H1, I1, q1⟩
  | false => exact hb wh pins s1 σ H1 Q k1 I1 q1
theorem pwt_or2 {a b : Expr} {rest : List Expr} {ta tb : TT} (ha : PTT X a ta) (hb : PW X (.BoolOp .Or (b :: rest) pos) tb) : PWT X (.BoolOp .Or (a :: b :: rest) pos) (tOr ta tb) := by
  intro wh pins s σ H Q h0 I h
  refine isTrue_or (thn (ha pins s σ H _ h0 I h) fun d s1 ⟨H1, I1, q1⟩ => ?_)
  cases d with
  | true => exact ⟨H1, I1, q1⟩
  | false => exact hb.run wh pins s1 σ H1 Q I1 q1
theorem orT_w {fa fb : St → R D} : ∀ σ H Q, tT X.K ca W (orF fa fb) σ H Q → tOr (tT X.K ca W fa) (tT X.K ca W (fun r => (fb r).bind fun y r => .of ((tru y).map .bl) r)) σ H Q := by
  intro σ H Q ⟨r, F, p, h⟩
  refine ⟨r, F, p, Fi.step h fun x r1 v H1 F1 p1 q1 h => ?_⟩
  cases q1
  cases v with
  | true => exact iteT (h _ _ _ (Ps.refl p1.rp) rfl)
  | false => exact iteF ⟨r1, F1, p1.rp, h⟩
theorem truT_w {f : St → R D} : ∀ σ H Q, tT X.K ca W (fun r => (f r).bind fun y r => .of ((tru y).map .bl) r) σ H Q → tT X.K ca W f σ H Q := by
  intro σ H Q ⟨r, F, p, h⟩
  refine ⟨r, F, p, Fi.step h fun x r1 v H1 F1 p1 q1 h => ?_⟩
  cases q1
  exact h _ _ _ (Ps.refl p1.rp) rfl
theorem qwt_or1 {a b : Expr} {es : List Expr} {fa fb : St → R D} (ha : QT X ca W a fa) (hb : PWT X (.BoolOp .Or (b :: es) pos) (tT X.K ca W fb)) : PWT X (.BoolOp .Or (a :: b :: es) pos) (tT X.K ca W (orF fa fb)) := PWT.weak (pwt_or1 ha (PWT.weak hb truT_w)) orT_w
theorem qwt_or2 {a b : Expr} {es : List Expr} {fa fb : St → R D} (ha : PTT X a (tT X.K ca W fa)) (hb : QW X ca W (.BoolOp .Or (b :: es) pos) fb) : PWT X (.BoolOp .Or (a :: b :: es) pos) (tT X.K ca W (orF fa fb)) := PWT.weak (pwt_or2 ha (wt_of hb)) orT_w
theorem qtt_not {a : Expr} {fa : St → R D} (ha : PTT X a (tT X.K ca W fa)) : PTT X (.UnaryOp .Not a pos) (tT X.K ca W (fun r => (fa r).bind fun x r => match x with | .bl b => .ok (.bl !b) r | _ => .bad)) := by
  refine PTT.weak (ptt_not ha) fun σ H Q ⟨r, F, p, h⟩ => ⟨r, F, p, Fi.step h fun x r1 v H1 F1 p1 q1 h => ?_⟩
  cases q1
  exact h _ _ _ (Ps.refl p1.rp) rfl
theorem qtt_val {e : Expr} {f : St → R D} (h : PET X e (tE X.K ca W f)) (he : ∀ whole, isTrue e X.env whole = (do let v ← whole; standAt e.pos; holding [v] (truthy v))) : PTT X e (tT X.K ca W (fun r => (f r).bind fun y r => .of ((tru y).map .bl) r)) := by
  refine PTT.weak (ptt_val h he) fun σ H Q ⟨r, F, p, h⟩ => ⟨r, F, p, Fi.step h fun x r1 v H1 F1 p1 q1 h => ?_⟩
  cases x with
  | bl c => exact ⟨c, Rep.bl_iff.mp q1, h _ _ _ (Ps.refl p1.rp) rfl⟩
  | _ => exact h.elim
theorem qst_if {c : Expr} {a : List Stmt} {fc : St → R D} {g : St → Z.F} (hc : PTT X c (tT X.K ca W fc)) (ha : QSs X ca W a g) :
    PST X (.If c a [] pos) (tS X.K ca W (fun r => (fc r).fl fun d r => match d with | .bl true => g r | .bl false => .nx r | _ => .bad)) := by
  refine PST.weak (pst_if' hc ha) fun D σ H ⟨r, F, p, h⟩ => ⟨r, F, p, FiS.step h fun d r1 v H1 F1 p1 q1 h => ?_⟩
  cases q1
  cases v with
  | true => exact iteT ⟨r1, F1, p1.rp, h⟩
  | false => exact iteF (h _ _ _ (Pt.refl p1.rp))
/-- two statements, the first giving a token out -/
theorem ss_view {i j : Nat} {x y : Str} {a b : Expr} {st : Stmt} {rest : List Stmt} {fs : St → R (List D)} {f2 f3 : St → Z.F} {px py pt : Pos} {kt k2 : Nat} {pt2 spos : Pos} (hc : X.calm = true) (hN : X.N.Nodup) (hi : X.N[i]? = some x) (hj : X.N[j]? = some y) (hij : i ≠ j)
    (hx : X.env.scope.names.lookup x = some .local) (hy : X.env.scope.names.lookup y = some .local) (ha : PAO X [a, b] (tAs X.K ca W fs))
    (hw : swappedStores [.Tuple [.Name x px, .Name y py] kt pt] (.Tuple [a, b] k2 pt2) X.env = pure (some [x, y]))
    (h2 : PST X st (tS X.K ca W f2)) (h3 : QSs X ca W rest f3) :
    QSs X ca W (.Assign [.Tuple [.Name x px, .Name y py] kt pt] (.Tuple [a, b] k2 pt2) spos :: st :: rest) (fun r => ((fs r).fl fun l r => match setAll [i, j] l r with | some r => .nx r | none => .bad).then fun r => (f2 r).then f3) := by
  refine PSs.weak (pss_par2 hc hN hi hj hij hx hy ha hw rfl (psst_cons h2 (PSsT.of h3))) fun D σ H ⟨r, F, p, h⟩ => ?_
  refine par2_w { D with nx := tSeq (tS X.K ca W f2) (tS X.K ca W f3) D } σ H ⟨r, F, p, FiS.then h (fun r1 σ1 H1 F1 p1 h => ?_) rfl rfl rfl⟩
  exact ⟨r1, F1, p1.rp, FiS.then h (fun r2 σ2 H2 F2 p2 h => ⟨r2, F2, p2.rp, h⟩) rfl rfl rfl⟩
/-- t.count(c) -/
theorem cnt_countP (c : Nat) : ∀ s : List Nat, PyProof.Rows.cnt c s = ((s.countP fun x => x == c : Nat) : Int)
  | [] => rfl
  | y :: s => by
    rw [PyProof.Rows.cnt_cons, cnt_countP c s, List.countP_cons]
    by_cases h : y = c <;> simp [h]
    omega
theorem mt_ct {s : List Nat} {y d : D} (e : Mt.f .count s y = some d) : ∃ c, y = .str [c] ∧ d = .int (s.countP fun x => x == c : Nat) := by
  unfold Mt.f at e
  split at e <;> try contradiction
  rename_i c _
  cases e
  exact ⟨c, rfl, rfl⟩
theorem q_scount {a b : Expr} {fa fb : St → R D} {apos : Pos} (ha : QE X ca W a fa) (hb : QE X ca W b fb) (hs : noStar b = true) (hbase : attributeBase a "count" X.env (eval a X.env) = eval a X.env) (hline : (apos.endLine == pos.line) = true) :
    QE X ca W (.Call (.Attribute a "count" apos) [b] [] pos) (fun r => (fa r).bind fun x r => match x with
      | .str s => (fb r).bind fun y r => .of (Mt.f .count s y) r
      | _ => .bad) := by
  refine PE.weak (pe_m1 F.slot_str_count F.type_str_count mt_count ha hb (star_cons hs) hbase hline) fun σ H Q ⟨r, F, p, h⟩ => ⟨r, F, p, h.step fun x r1 v H1 F1 p1 q1 h => ?_⟩
  cases x with
  | str s =>
    obtain ⟨ev, o⟩ := Rep.str_iff.mp q1
    refine ⟨⟨_, ev⟩, r1, F1, p1.rp, h.step fun y r2 w H2 F2 p2 q2 h => ?_⟩
    cases e : Mt.f .count s y with
    | none => rw [e] at h; exact h.elim
    | some d =>
      rw [e] at h
      obtain ⟨c, rfl, rfl⟩ := mt_ct e
      obtain ⟨ew, ow⟩ := Rep.str_iff.mp q2
      subst ev ew
      refine ⟨_, _, rfl, rfl, h _ _ _ (Ps.refl p2.rp) (Rep.int_iff.mpr ?_)⟩
      have := count_cnt (⟨s.toArray⟩ : Str) c
      rw [← cnt_countP]
      exact congrArg V.int this
  | _ => exact h.elim
end
end Z

/-! ZM: xs.count(x), list or list, tuples in order, fields of errors -/
namespace Z
open PySem PySem.Spec PyProof.Rows L2 TL
/-! ### xs.count(x) -/
section
variable {X : Cx} {ca : Nat → Addr} {W : WX} {pos apos : Pos} {a b : Expr} {fa fb : St → R D} {n : Nat}
def rCntD (K : PySem.W.Frag) : V → List V → Hp → VK → Prop := fun x xs H Q => ∃ (a : Addr) (y : V) (d : PyData) (ds : List PyData), x = V.ref a ∧ xs = [y] ∧ Dp K H (V.ref a) (.list ds) ∧ Dp K H y d ∧
  SeqAt.shaped (.list ds) = true ∧ SeqAt.shaped d = true ∧ Q (.int (ds.countP fun z => PyData.eqv z d : Nat)) H
theorem mt_cntD (hu : X.A.units + 65 < cLine) : MtR X "list.count" (rCntD X.K) := by
  intro pins s σ H x xs v us Q I rx rxs h
  obtain ⟨a, y, d, ds, rfl, rfl, hl, hy, sl, sd, q⟩ := h
  cases rx
  obtain ⟨uy, rfl, ry⟩ := rxs.one
  obtain ⟨bs, r1⟩ := Dp.reads I d y uy hy ry
  have hxs : PyData.canLayAll0 ds = true := SeqAt.canLay_of_shaped sl
  cases hl with
  | lst hs ha =>
    obtain ⟨its, rv, ⟨⟨cls, dd, data, sls⟩, m, ho, hc, hdn, hdt⟩, hlen⟩ := I.list hs
    simp only at hc hdt
    subst hc hdt
    obtain ⟨as, h4⟩ := Dp.readsAll I ds _ its ha rv
    have hmap : its.map (SeqAt.readOf s.heap) = ds := SeqAt.readsAll_map ds its as hxs h4
    have ec : its.toArray.toList.countP (fun y => PyData.eqv (SeqAt.readOf s.heap y) d) = ds.countP fun z => PyData.eqv z d := by
      rw [← hmap, List.countP_map]
      rfl
    rw [← ec] at q
    have hroom : X.A.units + 1 + min (PyData.depthAll ds) d.depth < cLine := room_in_shaped sd hu
    exact call_meets PySem.F.slot_list_count ⟨_, ho, rfl⟩ PySem.F.entry_list_count (PySem.F.args_list_count_2 _ _) (SeqAt.list_countAt a its.toArray m dd sls uy fun y => PyData.eqv (SeqAt.readOf s.heap y) d)
      ⟨ho, SeqAt.items_eqAt (vs := its.toArray) (show ReadsAll s.heap its.toArray.toList ds as from h4) r1 hxs (SeqAt.canLay_of_shaped sd) hroom, ⟨.int _, H, I.tok _, ⟨_, rfl⟩, q⟩⟩
theorem count_pd {a : D} (ha : shal 8 a = true) : ∀ {l : List D}, (∀ d ∈ l, shal 8 d = true) → (toPDs l).countP (fun z => PyData.eqv z (toPD a)) = l.countP fun y => eqd y a
  | [], _ => by unfold toPDs; rfl
  | d :: l, h => by
    unfold toPDs
    rw [List.countP_cons, List.countP_cons, count_pd ha fun x hx => h x (List.mem_cons_of_mem _ hx), eqd_pd (h d List.mem_cons_self) ha]
theorem q_lcnt (c : Ck X n) (ha : QE X ca W a fa) (hb : QE X ca W b fb) (hs : noStar b = true) (hbase : attributeBase a "count" X.env (eval a X.env) = eval a X.env) (hline : (apos.endLine == pos.line) = true) :
    QE X ca W (.Call (.Attribute a "count" apos) [b] [] pos) (fun r => (fa r).bind fun x r => match x with
      | .lst l => (fb r).bind fun y r => .of (lcntD l y) r
      | _ => .bad) := by
  refine PE.weak (pe_bm PySem.F.plainAttrs_list PySem.F.slot_list_count PySem.F.type_list_count (mt_cntD (room65 c)) ha (pa_cons hb pa_nil (star_cons hs)) hbase ?_ hline (star_cons hs) rfl) fun σ H Q ⟨r, F, p, h⟩ => ⟨r, F, p, h.step fun x r1 v H1 F1 p1 q1 h => ?_⟩
  · rw [star_cons hs]
    rfl
  cases x with
  | lst l =>
    obtain ⟨q, vs, ev, s1, z1⟩ := Rep.lst_iff.mp q1
    subst ev
    refine ⟨.inl ⟨rfl, vs, SqL.up p1.rp.sub s1⟩, r1, F1, p1.rp, h.step fun y r2 w H2 F2 p2 q2 h => ?_⟩
    cases e : lcntD l y with
    | none => rw [e] at h; exact h.elim
    | some d =>
      rw [e] at h
      unfold lcntD at e
      split at e
      · rename_i hh
        rw [Bool.and_eq_true] at hh
        cases e
        have ql : Rep X.K F2 (.lst l) (.ref q) := q1.mono p2.f
        refine ⟨q, w, toPD y, toPDs l, rfl, rfl, ql.dp p2.rp.sub (n := 9) (shal_lst hh.2), q2.dp p2.rp.sub hh.1, shaped_of (n := 9) ql (shal_lst hh.2) (by decide), shaped_of q2 hh.1 (by decide), ?_⟩
        rw [count_pd hh.1 (List.all_eq_true.mp hh.2)]
        exact h _ _ _ (Ps.refl p2.rp) (Rep.int_iff.mpr rfl)
      · cases e
  | _ => exact h.elim
/-! ### list or list -/
theorem q_orL {p : Pos} (ha : QE X ca W a fa) (hb : QE X ca W b fb) : QE X ca W (.BoolOp .Or [a, b] p) (orF' fa fb) := by
  refine PE.weak (pe_orT ha (pe_one hb)) fun σ H Q ⟨r, F, p, h⟩ => ⟨r, F, p, h.step fun x r1 v H1 F1 p1 q1 h => ?_⟩
  cases x with
  | lst l =>
    obtain ⟨q, vs, ev, s1, z1⟩ := Rep.lst_iff.mp q1
    subst ev
    refine ⟨!vs.isEmpty, .inl ⟨vs, SqL.up p1.rp.sub s1, rfl⟩, ?_⟩
    have e : vs.isEmpty = l.isEmpty := by
      have := z1.length
      cases l <;> cases vs <;> simp at this ⊢
    rw [e]
    dsimp only at h
    cases el : l.isEmpty with
    | true =>
      rw [el, if_pos rfl] at h
      exact iteF ⟨r1, F1, p1.rp, h⟩
    | false =>
      rw [el, if_neg (by decide)] at h
      exact iteT (h _ _ _ (Ps.refl p1.rp) q1)
  | _ => exact h.elim
/-! ### a field of an error -/
theorem pe_xfT {e : Expr} {te : TE} {nm : Str} (he : PE X e te) (hb : attributeBase e nm X.env (eval e X.env) = eval e X.env) :
    PE X (.Attribute e nm pos) (fun σ H Q => te σ H fun x H1 => ∃ (a C d : Addr) (fs : List (Str × V)) (v : V), x = .ref a ∧ H1 a = some (XO (.ref C) (some d) a) ∧ H1 d = some (.xd fs) ∧ fs.lookup nm = some v ∧ XfC X.K C ∧ PySem.W.findIn X.K (.ref C) nm = some none ∧ Q v H1) := by
  refine ⟨fun pins s σ H Q I h => attr_of hb (thn (he.run pins s σ H _ I h) fun u s1 ⟨x, H1, I1, rx, a, C, d, fs, v, ex, ea, ed, l, T, hno, q⟩ => ?_)⟩
  subst ex
  cases (show u = Value.ref a from rx)
  obtain ⟨⟨oe, vs, g1, g2, g3, g4⟩, _⟩ := I1.hok a _ ea
  have hx : ObjOk X.prog X.w H1 s1.heap d (.xd fs) := I1.hok d _ ed
  obtain ⟨mA, hns, hr⟩ := hx
  obtain ⟨od, ho, hl⟩ := lookIn_ns hns
  obtain ⟨u, hu, ru⟩ := RelO.some_of (v := v) (o := mA nm) (by rw [← l]; exact hr nm)
  have J : PySem.W.InstAt s1.heap a oe C (some od) := ⟨g1, g2, by unfold PySem.W.notCls; rw [g4] <;> rfl, by rw [g3]; exact ho⟩
  exact PySem.HandSPX.exc_get I1.kIn J T.ga T.gg T.exC (PySem.W.findObj_own T.hdC hno rfl (by rw [hl, hu])) (handed_of ru) ⟨v, H1, I1.tok _, ru, q⟩
theorem q_xfld {k : Nat} {nm : Str} (hk : XfC X.K (xa X.K k)) (hno : PySem.W.findIn X.K (.ref (xa X.K k)) nm = some none) (hn : nm = fldN k) (ha : QE X ca W a fa) (hb : attributeBase a nm X.env (eval a X.env) = eval a X.env) :
    QE X ca W (.Attribute a nm pos) (fun r => (fa r).bind fun x r => .of (xfldD k x) r) := by
  refine PE.weak (pe_xfT ha hb) fun σ H Q ⟨r, F, p, h0⟩ => ⟨r, F, p, h0.step fun x r1 v H1 F1 p1 q1 h => ?_⟩
  unfold xfldD at h
  split at h
  · rename_i c y
    split at h
    · rename_i e
      subst e
      simp only [Rep] at q1
      obtain ⟨b, dd, ws, rfl, e, rw1, xd⟩ := q1
      rcases xd with ⟨rfl, _⟩ | ⟨d, w, rfl, rfl, xe⟩
      · have := rw1.length
        simp at this
      · obtain ⟨w2, ew, rw2⟩ := reps1 rw1
        cases ew
        refine ⟨b, xa X.K c, d, _, w, rfl, p1.rp.sub _ _ e, p1.rp.sub _ _ xe, ?_, hk, hno, h _ _ _ (Ps.refl p1.rp) rw2⟩
        rw [hn]
        simp [List.lookup]
    · exact h.elim
  · exact h.elim
end
end Z

/-! ZU: len(set(xs)), xs a list of tuples of ints -/
namespace Z
open PySem PySem.Spec PyProof.Rows L2 TL
section
variable {α : Type} [BEq α] [LawfulBEq α]
theorem nodup_le : ∀ (l m : List α), l.Nodup → (∀ x ∈ l, x ∈ m) → l.length ≤ m.length
  | [], _, _, _ => Nat.zero_le _
  | x :: l, m, hn, hs => by
    obtain ⟨h1, h2⟩ := List.nodup_cons.mp hn
    have hx : x ∈ m := hs x List.mem_cons_self
    have ih := nodup_le l (m.erase x) h2 fun y hy => by
      have hne : y ≠ x := fun e => h1 (e ▸ hy)
      exact (List.mem_erase_of_ne hne).2 (hs y (List.mem_cons_of_mem _ hy))
    have e := List.length_erase_of_mem hx
    have hp : 0 < m.length := List.length_pos_of_mem hx
    rw [List.length_cons]
    omega
theorem nd_ed : ∀ (n : Nat) (l : List α), l.length ≤ n → l.eraseDups.Nodup
  | _, [], _ => by simp
  | n + 1, a :: l, h => by
    have hl : (l.filter fun b => !b == a).length ≤ n := Nat.le_trans (List.length_filter_le _ _) (by simpa using h)
    rw [List.eraseDups_cons]
    refine List.nodup_cons.mpr ⟨fun hm => ?_, nd_ed n _ hl⟩
    rw [List.mem_eraseDups] at hm
    simp at hm
theorem ed_len {l m : List α} (hn : m.Nodup) (h : ∀ x, x ∈ m ↔ x ∈ l) : m.length = l.eraseDups.length := by
  have a := fun x => List.mem_eraseDups (a := x) (l := l)
  have b := nd_ed l.length l (Nat.le_refl _)
  exact Nat.le_antisymm (nodup_le _ _ hn fun x hx => (a x).mpr ((h x).mp hx)) (nodup_le _ _ b fun x hx => (h x).mpr ((a x).mp hx))
end
section
variable {X : Cx} {ca : Nat → Addr} {W : WX} {f : St → R D}
def tLenSetT (K : PySem.W.Frag) (ta : TE) : TE := fun σ H Q => ta σ H fun x H1 => ∃ (l : Addr) (ks : List (Addr × List Int)), x = V.ref l ∧ SqL K H1 l (ks.map fun p => V.ref p.1) ∧ (∀ p ∈ ks, SqT K H1 p.1 (p.2.map V.int)) ∧ ks.length < 64 ∧
  Q (.int ((ks.map (·.2)).eraseDups.length : Nat)) H1
theorem pe_lenSetT {a : Expr} {ta : TE} {p p2 q pos : Pos} (hc : X.calm = true) (hu : X.A.units + 64 < cLine) (hg : Gl X "len") (hm : X.mg "len" = none) (hg2 : Gl X "set") (hm2 : X.mg "set" = none) (ha : PE X a ta)
    (na : starEach [a] X.env = (false, eval a X.env) :: starEach [] X.env) : PE X (.Call (.Name "len" p) [.Call (.Name "set" p2) [a] [] q] [] pos) (tLenSetT X.K ta) := by
  refine ⟨fun pins s σ H Q I h => ?_⟩
  refine Call_ (ld_blt I hg hm PySem.boot_len ?_)
  refine PyProof.Rows.callWith_builtin1 (PyProof.Rows.args_cons ?_ rfl) rfl rfl
  refine Call_ (ld_blt I hg2 hm2 PyProof.Rows.boot_set ?_)
  refine PyProof.Rows.callWith_type1 (PyProof.Rows.args_cons (thn (ha.run pins s σ H _ I h) fun v s1 ⟨x, H1, I1, r1, q1⟩ => PyProof.Rows.args_nil ?_) na) na rfl
  obtain ⟨l, ks, rfl, hq, hk, h64, q1⟩ := q1
  cases r1
  obtain ⟨its, r, pl, hz⟩ := I1.list hq
  refine call_set_tups (P := X.prog) (w := X.w) ks (I1.ok.hd hc) pl.isList (by simpa using refs_of_vals r) (fun p hp => I1.isT (hk p hp)) h64 (by omega) fun h' tk L es ep t R g k => ?_
  refine PyProof.Rows.args_nil ?_
  obtain ⟨o, ho, hex, hd⟩ := R.ob
  have I2 : L2.Inv X pins σ H1 { s1 with heap := h', toks := tk } := I1.kept fun b o e => k b o e
  have e : es.size = (ks.map (·.2)).eraseDups.length := by
    rw [SetTR.size (s := { s1 with heap := h', toks := tk }) R, ← List.length_map (f := fun p : Addr × List Int => p.2)]
    refine ed_len R.nd fun x => ⟨fun hx => ?_, fun hx => ?_⟩
    · obtain ⟨p, hp, rfl⟩ := List.mem_map.mp hx
      exact List.mem_map.mpr ⟨p, List.mem_of_mem_take (g.sub p hp), rfl⟩
    · obtain ⟨p, hp, rfl⟩ := List.mem_map.mp hx
      exact g.all p (by rw [List.take_length]; exact hp)
  have hf := SetTR.fits (s := { s1 with heap := h', toks := tk }) R
  have h5 := R.few
  have h6 := SetTR.size (s := { s1 with heap := h', toks := tk }) R
  refine call_len_set ho hex hd hf (by rw [h6]; omega) ⟨.int (es.size : Nat), H1, I2.tok _, ⟨_, rfl⟩, ?_⟩
  rw [e]
  exact q1
theorem tups_refs {K : PySem.W.Frag} {F : Hp} : ∀ {l : List D} {ts : List (List Int)} {vs : List V}, tupsO l = some ts → Reps K F l vs → ∃ ks : List (Addr × List Int), vs = (ks.map fun p => V.ref p.1) ∧ ks.map (·.2) = ts ∧ ∀ p ∈ ks, SqT K F p.1 (p.2.map V.int)
  | [], _, _, h, r => by
    simp only [tupsO] at h
    cases h
    simp only [Reps] at r
    exact ⟨[], r, rfl, fun p hp => by cases hp⟩
  | d :: l, ts, vs, h, r => by
    simp only [Reps] at r
    obtain ⟨v, vs', rfl, q, z⟩ := r
    cases d with
    | tup t =>
      simp only [tupsO, Option.bind_eq_some_iff, Option.map_eq_some_iff] at h
      obtain ⟨x, hx, ts', h', rfl⟩ := h
      obtain ⟨ks, e1, e2, e3⟩ := tups_refs h' z
      obtain ⟨a, us, rfl, s1, z1⟩ := Rep.tup_iff.mp q
      have := intsO_vals hx z1
      subst this
      refine ⟨(a, x) :: ks, by rw [e1]; rfl, by rw [List.map_cons, e2], fun p hp => ?_⟩
      rcases List.mem_cons.mp hp with rfl | hp
      · exact s1
      · exact e3 p hp
    | _ => simp [tupsO] at h
theorem q_lens {a : Expr} {p p2 q pos : Pos} (hc : X.calm = true) (k : Ck X 0) (hg : Gl X "len") (hm : X.mg "len" = none) (hg2 : Gl X "set") (hm2 : X.mg "set" = none) (ha : QE X ca W a f) (hs : noStar a = true) :
    QE X ca W (.Call (.Name "len" p) [.Call (.Name "set" p2) [a] [] q] [] pos) (fun r => (f r).bind fun x r => .of (lensD x) r) := by
  refine PE.weak (pe_lenSetT hc (by have := k.room.un; omega) hg hm hg2 hm2 ha (star_cons hs)) fun σ H Q ⟨r, F, p, h⟩ => ⟨r, F, p, Fi.step h fun x r1 v H1 F1 p1 q1 h => ?_⟩
  cases e : lensD x with
  | none => rw [e] at h; exact h.elim
  | some d =>
    rw [e] at h
    unfold lensD at e
    cases x with
    | lst l =>
      simp only [Option.bind_eq_some_iff] at e
      obtain ⟨ts, ht, e⟩ := e
      split at e
      · rename_i h64
        cases e
        obtain ⟨b, vs, ev, s1, z1⟩ := Rep.lst_iff.mp q1
        subst ev
        obtain ⟨ks, e1, e2, e3⟩ := tups_refs ht z1
        subst e1 e2
        rw [List.length_map] at h64
        exact ⟨b, ks, rfl, SqL.up p1.rp.sub s1, fun p hp => SqT.up p1.rp.sub (e3 p hp), h64, h _ _ _ (Ps.refl p1.rp) (Rep.int_iff.mpr rfl)⟩
      · cases e
    | _ => cases e
end
/-! ### {e for x in xs} of ints (after the form of SetBool's rule for tests) -/
section
variable {X : Cx}
theorem addI_ok {pins : List (Addr × Obj)} {σ : L2.St} {H : Hp} {s : Shared} {E : Value → Shared → Prop} {D : Addr} {S : Int → Bool} {n : Nat} {y : Int} {tk : Tok} {Q : Value → Shared → Prop} (I : L2.Inv X pins σ H s) (hD : H D = some (SetO X.w D S n)) (room : n + 1 < scanBound)
    (h : ∀ s', L2.Inv X pins σ (upd H D (SetO X.w D (fun j => S j || decide (j = y)) (if S y = true then n else n + 1))) s' → Q .none s') : wpAny (model X.prog X.w) X.A (call (.builtin "set.add") [.ref D, .int y tk]) Q E s := by
  have R := setO_get I hD
  refine setR_add R room fun h' sb new => ?_
  have he : ∃ u, h'.get? D = some u := by
    have ⟨o, _, _, _, ho, _⟩ := new
    exact ⟨o, ho⟩
  exact h _ (I.write (e := D) (t' := s.toks + 1) (by rw [hD]; trivial) (.inl rfl) (fun b u hb hu => (sb.2 b hb).trans hu) he (setO_new new))
def tScI (w : World) (wi : TI) (g : TG) (te : TE) (vs : List Nat) : TE := fun σ H Q => wi σ H fun J H1 => ∀ D, H1 D = none → ∃ W : Nat → Nat → Hp → Prop, (∃ m, W 0 m (upd H1 D (SetO w D (fun _ => false) 0))) ∧ ∀ i m H, W i m H →
  (J.stop i H ∧ Q (.ref D) H) ∨ (J.go i H ∧ ∃ Nx : Hp → Prop, (∀ H', Nx H' → ∃ m', m' < m ∧ W (i + 1) m' H') ∧ ∀ x H', J.yld i H x H' → g x (wipe σ vs) H' fun σ2 H2 => wipe σ2 vs = wipe σ vs ∧
    te σ2 H2 fun y H4 => ∃ (c : Int) (S : Int → Bool) (n : Nat), y = .int c ∧ H4 D = some (SetO w D S n) ∧ n + 1 < scanBound ∧ Nx (upd H4 D (SetO w D (fun j => S j || decide (j = c)) (if S c = true then n else n + 1))))
theorem pe_scI {elt tg iter : Expr} {scope : Scope} {own : List (PySem.Str × Nat)} {pos : Pos} {wi : TI} {g : TG} {te : TE} (hc : X.calm = true) (hN : X.N.Nodup) (hi : PI X tg iter wi) (ok : BlkOk X.N X.env.scope scope own)
    (hg : ∀ (s : Shared) (H : Hp) (C : Addr) (cl : List (PySem.Str × Addr)) (fp : List Addr), PG (X.blk s H scope (compEnvC scope cl C X.env) fp) tg g)
    (he : ∀ (s : Shared) (H : Hp) (C : Addr) (cl : List (PySem.Str × Addr)) (fp : List Addr), PE (X.blk s H scope (compEnvC scope cl C X.env) fp) elt te) (hs : ∀ x, foldedSetIterable iter X.env x = pure x) :
    PE X (.SetComp elt [⟨tg, iter, [], 0⟩] scope pos) (tScI X.w wi g te (own.map (·.2))) := by
  refine ⟨fun pins s σ H Q I h => ?_⟩
  rw [PpSet.eval_SetComp]
  have hfree : ∀ y ∈ scope.names, y.2 = .free → ∃ c, X.env.cells.lookup y.1 = some c := fun y hy e => by
    rcases ok.free y hy e with k | k
    · exact I.ok.has _ (.inl k)
    · exact I.ok.has _ (.inr k)
  refine wpAny_comprehension_free (use := none) rfl hs (closure_ok hfree) ok.kind (fun y hy e => by rw [ok.uniq y hy, e])
    (thn (hi.run pins s σ H _ I h) fun xv s1 hx => thn hx fun itv s2 h2 => ?_)
  obtain ⟨it, fp, tn, J, H2, e, I2, T, st2, f2, q⟩ := h2
  subst e
  refine PpSet.newSet_ok (newEnv_comp ?_)
  generalize hD : s2.heap.objs.size = D
  have hDn : H2 D = none := I2.hok.fresh (Nat.le_of_eq hD)
  obtain ⟨W, ⟨m0, w0⟩, turn⟩ := q D hDn
  generalize hs3 : ({ s2 with heap := s2.heap.push { cls := .type "set", dict := none, data := .set #[] 0 (.fresh 0 0 (!X.w.params.followText "set-order")) } } : Shared) = s3
  have h3 : s3.heap = s2.heap.push { cls := .type "set", dict := none, data := .set #[] 0 (.fresh 0 0 (!X.w.params.followText "set-order")) } := by rw [← hs3]
  have I3 : L2.Inv X pins σ (upd H2 D (SetO X.w D (fun _ => false) 0)) s3 := by
    rw [← hs3, ← hD]
    exact I2.laid (t' := s2.toks) (fun b o e => Heap.get?_push_of_some _ e) (Nat.le_refl _) (setO_new (setR_fresh X.w))
  have f3 : ∀ b ∈ fp, FpOk X pins (upd H2 D (SetO X.w D (fun _ => false) 0)) b ∧ b < s3.heap.objs.size := fun b hb => by
    have hlt : b < s2.heap.objs.size := by
      obtain ⟨o, e, _⟩ := T.obj _ _ st2 b hb
      exact Heap.lt_size e
    refine ⟨⟨?_, (f2 b hb).2⟩, by rw [h3, Heap.size_push]; exact Nat.lt_succ_of_lt hlt⟩
    rw [upd_ne (by rw [← hD]; exact Nat.ne_of_lt hlt)]
    exact (f2 b hb).1
  have I4 := block_start I3 ok hN f3
  have pg := hg s3 (upd H2 D (SetO X.w D (fun _ => false) 0)) s3.heap.objs.size (cellsFrom (s3.heap.objs.size + 1) scope.names (cloFrom X.env.cells scope.names [])) fp
  have pe := he s3 (upd H2 D (SetO X.w D (fun _ => false) 0)) s3.heap.objs.size (cellsFrom (s3.heap.objs.size + 1) scope.names (cloFrom X.env.cells scope.names [])) fp
  show codeAny _ _ (.compStart (.SetComp elt [⟨tg, iter, [], 0⟩] scope pos) 0 (.ref it) (.ref D) (compEnvC scope (cellsFrom (s3.heap.objs.size + 1) scope.names (cloFrom X.env.cells scope.names [])) s3.heap.objs.size X.env)) (compPost (model X.prog X.w) X.A X.xe none (EP X pins σ Q) (.ref D) s3.heap.objs.size) { s3 with heap := pushCells (s3.heap.push { cls := .type "dict", data := .dict #[] }) scope.names }
  have nfp : ∀ b ∈ fp, (upd H2 D (SetO X.w D (fun _ => false) 0)) b = none := fun b hb => (f3 b hb).1.1
  have st3 : tn 0 s3.heap := T.keep _ _ _ st2 fun b _ o e => by rw [h3]; exact Heap.get?_push_of_some _ e
  generalize hce : compEnvC scope (cellsFrom (s3.heap.objs.size + 1) scope.names (cloFrom X.env.cells scope.names [])) s3.heap.objs.size X.env = ce at I4 pg pe ⊢
  have cL : ce.locals = s3.heap.objs.size := by subst hce; rfl
  generalize hH3 : upd H2 D (SetO X.w D (fun _ => false) 0) = H3 at I3 I4 pg pe w0 nfp f3
  generalize hs4 : ({ s3 with heap := pushCells (s3.heap.push { cls := .type "dict", data := .dict #[] }) scope.names } : Shared) = s4 at I4 ⊢
  have st4 : tn 0 s4.heap := T.keep _ _ _ st3 fun b _ o e => by rw [← hs4]; exact pushCells_keeps _ _ _ _ (Heap.get?_push_of_some _ e)
  have stat : ∀ {σ' : L2.St} {H' : Hp} {s' : Shared}, L2.Inv (X.blk s3 H3 scope ce fp) [] σ' H' s' → (∀ b ∈ fp, H' b = none) → ∀ b ∈ fp, FpOk (X.blk s3 H3 scope ce fp) [] H' b := fun {σ' H' s'} I' hn b hb =>
    ⟨hn b hb, (I'.ok.exf b hb).1, I'.ok.exfs b hb, .inl hb, fun x c e => (I'.ok.exf b hb).2 x c e, fun p hp => absurd (show p ∈ ([] : List (Addr × Obj)) ++ [] from hp) (by simp)⟩
  have loop : codeAny (model X.prog X.w) X.A (.compLoop (.SetComp elt [⟨tg, iter, [], 0⟩] scope pos) 0 (.ref it) (.ref D) ce) (compPost (model X.prog X.w) X.A X.xe none (EP X pins σ Q) (.ref D) s3.heap.objs.size) s4 := by
    refine PpSet.compLoopS_any (fun n s' => ∃ i H', L2.Inv (X.blk s3 H3 scope ce fp) [] (wipe σ (own.map (·.2))) H' s' ∧ tn i s'.heap ∧ (∀ b ∈ fp, H' b = none) ∧ W i n H') ?_ m0 ⟨0, H3, I4, st4, nfp, w0⟩
    rintro n s5 ⟨i, H5, I5, st5, n5, w5⟩
    rcases turn i n H5 w5 with ⟨stop, qq⟩ | ⟨go, Nx, hNx, step⟩
    · refine thnF (T.done (X.blk s3 H3 scope ce fp) rfl rfl rfl hc i [] s5 _ H5 (fun _ _ => False) I5 (stat I5 n5) st5 stop) fun r s6 ⟨hr, I6⟩ => ?_
      subst hr
      have I7 : L2.Inv X pins σ H5 s6 := I3.call' (ch := fp) I6.os I6.base I6.hok I6.bare fun b hb => ⟨(f3 b hb).1.2.2.2.1, (f3 b hb).1.2.1, (f3 b hb).1.2.2.2.2.1, (f3 b hb).1.2.2.2.2.2⟩
      have nC : H5 s3.heap.objs.size = none := by
        have z : H5 ce.locals = none := I6.free
        rw [cL] at z
        exact z
      obtain ⟨m, hn, _⟩ := I6.loc
      have hn : s6.heap.Ns ce.locals m := hn
      rw [cL] at hn
      obtain ⟨f0, f1, f2, f3', f4, f5⟩ := I3.fpOk (Nat.le_refl _) nC
      exact ⟨m, hn, fun h'' sb => ⟨.ref D, H5, I7.turned (t' := s6.toks) (fun b o hb e => (sb.2 b hb).trans e) f0 f1 f3' f4 f5, rfl, qq⟩⟩
    · refine thnF (T.item (X.blk s3 H3 scope ce fp) rfl rfl rfl hc i [] s5 _ H5 (fun _ _ => False) I5 (stat I5 n5) st5 go) fun r s6 ⟨u, hr, h6⟩ => ?_
      subst hr
      refine thnF h6 fun _ s7 ⟨x, H7, I7, r7, y7, st7, n7⟩ => ?_
      have I7' := I7.pinned (stat I7 n7) (T.obj _ _ st7)
      refine thnF (pg.run _ s7 _ H7 x u _ I7' r7 (step x H7 y7)) fun _ s8 ⟨σ8, H8, I8, hw8, q8⟩ => ?_
      refine wpAny_tests_nil ?_
      simp only [if_true]
      refine thnF (pe.run _ s8 σ8 H8 _ I8 q8) fun z s10 ⟨yv, H10, I10, r10, cb, S0, n0, ey, hD10, hz10, nx⟩ => ?_
      subst ey
      obtain ⟨tk, rfl⟩ := r10
      refine addI_ok (X := X.blk s3 H3 scope ce fp) I10 hD10 hz10 fun s11 I11 => ?_
      obtain ⟨m', hm, w'⟩ := hNx _ nx
      have pin' : ∀ b ∈ fp, ∀ o, s7.heap.get? b = some o → s11.heap.get? b = some o ∧ (upd H10 D (SetO X.w D (fun j => S0 j || decide (j = cb)) (if S0 cb = true then n0 else n0 + 1))) b = none := fun b hb o e =>
        let z := I11.pin (b, o) (List.mem_append_right _ (List.mem_append_right _ (mem_pinsAt hb e)))
        ⟨z.1, z.2.1⟩
      have hl : (wipe σ (own.map (·.2))).length = σ8.length := by rw [← hw8, wipe_length]
      refine ⟨m', hm, i + 1, _, (I11.unpinned (pins := [])).weak hl (fun j v e => ?_), T.keep _ _ _ st7 fun b hb o e => (pin' b hb o e).1, fun b hb => ?_, w'⟩
      · rw [← hw8] at e
        exact (wipe_some e).1
      · obtain ⟨o, e, _⟩ := T.obj _ _ st7 b hb
        exact (pin' b hb o e).2
  exact PpSet.codeAny_compStart_set loop (T.self X.A 0 _ _ _ st4 loop)
end
section
variable {X : Cx} {ca : Nat → Addr} {W : WX}
theorem itemsAt_len {i : D} : ∀ {l : List D} {ns : List Int}, itemsAt i l = some ns → ns.length = l.length
  | [], ns, h => by simp only [itemsAt] at h; cases h; rfl
  | d :: l, ns, h => by
    simp only [itemsAt] at h
    split at h
    · obtain ⟨ms, h1, rfl⟩ := Option.map_eq_some_iff.mp h
      simp [itemsAt_len h1]
    · cases h
theorem itemsAt_get {i : D} : ∀ {l : List D} {ns : List Int} {k : Nat} {d : D}, itemsAt i l = some ns → l[k]? = some d → ∃ m, ns[k]? = some m ∧ idxD d i = some (.int m)
  | [], _, _, _, _, h2 => by simp at h2
  | d :: l, ns, k, d', h, h2 => by
    simp only [itemsAt] at h
    split at h
    · rename_i m hm
      obtain ⟨ms, h1, rfl⟩ := Option.map_eq_some_iff.mp h
      cases k with
      | zero => simp at h2; subst h2; exact ⟨m, rfl, hm⟩
      | succ k =>
        obtain ⟨m', a, b⟩ := itemsAt_get (k := k) h1 (by simpa using h2)
        exact ⟨m', by simpa using a, b⟩
    · cases h
theorem ed_snoc (l : List Int) (k : Int) : (l ++ [k]).eraseDups.length = if k ∈ l then l.eraseDups.length else l.eraseDups.length + 1 := by
  split
  · rename_i h
    refine (ed_len (nd_ed l.length l (Nat.le_refl _)) fun x => ?_).symm
    rw [List.mem_eraseDups, List.mem_append, List.mem_singleton]
    exact ⟨.inl, fun z => z.elim id fun e => e ▸ h⟩
  · rename_i h
    refine (ed_len (m := k :: l.eraseDups) (List.nodup_cons.mpr ⟨fun z => h (List.mem_eraseDups.mp z), nd_ed l.length l (Nat.le_refl _)⟩) fun x => ?_).symm
    rw [List.mem_cons, List.mem_eraseDups, List.mem_append, List.mem_singleton]
    exact Or.comm
def rLenI (w : World) : List V → Hp → VK → Prop := fun xs H Q => ∃ (a : Addr) (S : Int → Bool) (n : Nat), xs = [V.ref a] ∧ H a = some (SetO w a S n) ∧ Q (.int (n : Nat)) H
theorem cr_lenI : CallR X (.builtin "len") (rLenI X.w) := by
  intro pins s σ H xs us Q I r h
  obtain ⟨a, S, n, rfl, ha, q⟩ := h
  rw [Vals.ref1 r]
  obtain ⟨o, es, ep, t, ho, hex, hd, g, nd, hm, hb, hf, hn, _⟩ := setO_get I ha
  have hb : es.size < 4096 := hb
  refine call_len_set ho hex hd hf (by omega) ⟨.int (n : Nat), H, I.tok _, ⟨_, by rw [hn]⟩, q⟩
theorem noOwn_ok {r : St} (h : r.all noOwn = true) (i : Nat) (l : D) : ownL r[i]? ≠ some l := fun e => by
  cases z : r[i]? with
  | none => rw [z] at e; cases e
  | some s =>
    rw [z] at e
    have := List.all_eq_true.mp h s (List.mem_of_getElem? z)
    cases s <;> simp [ownL, noOwn] at e this
theorem rp_plain {K : PySem.W.Frag} {r : St} {σ : L2.St} {H H' F F' : Hp} (no : ∀ (i : Nat) l, ownL r[i]? ≠ some l) (p : Rp K r σ H F) (s : Same F H') : Rp K r σ H' F :=
  ⟨p.len, s, p.val, fun i l e => absurd e (no i l), fun i _ l _ _ e => absurd e (no i l)⟩
theorem q_lenc {pn sp xn : Str} {v pI j : Nat} {fe : St → R D} {scope : Scope} {p q1 q2 q3 q4 q5 pos pos2 : Pos} (hc : X.calm = true) (k : Ck X 0) (hg : Gl X "len") (hm : X.mg "len" = none) (hN : X.N[v]? = some xn) (hv : Vis X.env.scope xn) (hd : (xn == ("__debug__" : Str)) = false) (hcd : (xn == ("__classdict__" : Str)) = false)
    {ow : List (Str × Nat)} (ok : BlkOk X.N X.env.scope scope ow) (eo : ow.map (·.2) = [pI])
    (hgt : ∀ (s : Shared) (H : Hp) (C : Addr) (cl : List (Str × Addr)) (fp : List Addr), PG (X.blk s H scope (compEnvC scope cl C X.env) fp) (.Name pn q4) (gTg X.K (.one pI)))
    (he : ∀ (s : Shared) (H : Hp) (C : Addr) (cl : List (Str × Addr)) (fp : List Addr), PE (X.blk s H scope (compEnvC scope cl C X.env) fp) (.Subscript (.Name pn q1) (.Name sp q2) q3) (tE X.K ca WF fe))
    (hfe : ∀ d i r m, r[pI]? = some (.val d) → r[j]? = some (.val i) → idxD d i = some (.int m) → fe r = .ok (.int m) r) :
    QE X ca W (.Call (.Name "len" p) [.SetComp (.Subscript (.Name pn q1) (.Name sp q2) q3) [⟨.Name pn q4, .Name xn q5, [], 0⟩] scope pos] [] pos2) (fun r => .of (lencR v pI j r) r) := by
  have base := pe_scI (pos := pos) hc k.nd (qi_e (ca := ca) (W := W) (tg := .Name pn q4) (q_var (pos := q5) hN hv hd hcd)) ok hgt he fun x => rfl
  rw [eo] at base
  refine PE.weak (pe_callB cr_lenI hg hm PySem.boot_len (pa_cons base pa_nil)) fun σ H Q ⟨r, F, p, h⟩ => ?_
  dsimp only at h
  cases e : lencR v pI j r with
  | none => rw [e] at h; exact h.elim
  | some c =>
    rw [e] at h
    unfold lencR at e
    split at e
    case h_2 => cases e
    rename_i l i ev ej
    split at e
    case isFalse => cases e
    rename_i hh
    obtain ⟨h1, h2, h3, h4⟩ := hh
    obtain ⟨ns, hns, rfl⟩ := Option.map_eq_some_iff.mp e
    have no := noOwn_ok h1
    have val : ∀ {a : Nat} {d : D}, pkv a r = some d → r[a]? = some (.val d) := fun {a d} z => by
      unfold pkv at z
      split at z
      · rename_i q; cases z; exact q
      · rename_i q; exact absurd (by rw [q]; rfl) (no a _)
      · rename_i q; exact absurd (by rw [q]; rfl) (no a _)
      · cases z
    have ev := val ev
    have ej := val ej
    refine ⟨r, F, p, ?_⟩
    have ef : ((rdv v r).bind fun d r => R.of (itemsD d) r) = .ok l r := by
      unfold rdv
      rw [ev]
      rfl
    dsimp only
    rw [ef]
    intro J H1 F1 p1 w D hD
    have r0 := p1.rp.wipe [pI]
    have no0 : ∀ (i : Nat) l, ownL (wipeS [pI] r)[i]? ≠ some l := fun i l e => no i l (wipeS_own e).2
    have nO : ∀ {τ : L2.St} {b : Addr}, ¬ Own (wipeS [pI] r) τ b := fun {τ b} ⟨i, l, e, _⟩ => no0 i l e
    have hF : F1 D = none := p1.rp.sub.free hD
    have hl := itemsAt_len hns
    refine ⟨fun i m H => m = l.length - i ∧ i ≤ l.length ∧ Rp X.K (wipeS [pI] r) (wipe σ [pI]) H F1 ∧ (∀ b o, H1 b = some o → H b = some o) ∧ ∃ S, H D = some (SetO X.w D S (ns.take i).eraseDups.length) ∧ ∀ z, S z = true ↔ z ∈ ns.take i,
      ⟨l.length, by simp, Nat.zero_le _, r0.other hF nO, fun b o e => by rw [upd_ne (ne_of_none e hD)]; exact e, fun _ => false, by rw [upd_same]; rfl, by simp⟩, ?_⟩
    rintro i' m H2 ⟨rfl, hi, rp2, k2, S, hS, mS⟩
    by_cases hlt : i' < l.length
    · refine .inr ⟨w.go hlt rp2 fun _ _ e => e, fun H' => i' + 1 ≤ l.length ∧ Rp X.K (wipeS [pI] r) (wipe σ [pI]) H' F1 ∧ (∀ b o, H1 b = some o → H' b = some o) ∧ ∃ S, H' D = some (SetO X.w D S (ns.take (i' + 1)).eraseDups.length) ∧ ∀ z, S z = true ↔ z ∈ ns.take (i' + 1), fun H' w => ⟨l.length - (i' + 1), by omega, rfl, w.1, w.2⟩, fun x H' y => ?_⟩
      obtain ⟨d, F3, hd, p3, q3⟩ := w.yld hlt rp2 (fun _ _ e => e) y
      obtain ⟨m, hm1, hm2⟩ := itemsAt_get hns hd
      have z : setTg (.one pI) d (wipeS [pI] r) = some ((wipeS [pI] r).set pI (.val d)) := by
        show setv pI (.val d) (wipeS [pI] r) = _
        unfold setv
        rw [if_pos (by rw [wipeS_len]; exact h2)]
      have hS3 : H' D = some _ := p3.h D _ hS nO
      refine gTg_okB z p3.rp q3 fun σ4 p4 b4 => ⟨wipe_eq ⟨b4.1, fun j hj => b4.2 j hj⟩, _, F3, p4.rp, ?_⟩
      rw [hfe d i _ m (by rw [List.getElem?_set_self (by rw [wipeS_len]; exact h2)]) (by rw [List.getElem?_set_ne h4, wipeS_out (by simpa using fun e => h4 e.symm)]; exact ej) hm2]
      intro yv H6 F6 p6 q6
      have no4 : ¬ Own ((wipeS [pI] r).set pI (.val d)) σ4 D := fun ⟨a, b, e, _⟩ => by
        by_cases ea : a = pI
        · subst ea
          rw [List.getElem?_set_self (by rw [wipeS_len]; exact h2)] at e
          cases e
        · rw [List.getElem?_set_ne (Ne.symm ea)] at e
          exact no0 _ _ e
      have no4' : ∀ b, ¬ Own ((wipeS [pI] r).set pI (.val d)) σ4 b := fun c ⟨a, b, e, _⟩ => by
        by_cases ea : a = pI
        · subst ea
          rw [List.getElem?_set_self (by rw [wipeS_len]; exact h2)] at e
          cases e
        · rw [List.getElem?_set_ne (Ne.symm ea)] at e
          exact no0 _ _ e
      have hS6 := p6.h D _ hS3 no4
      have htk : ns.take (i' + 1) = ns.take i' ++ [m] := by rw [List.take_succ, hm1]; rfl
      have hsz : (ns.take i').eraseDups.length ≤ 1000 := by
        have := nodup_le _ (ns.take i') (nd_ed _ (ns.take i') (Nat.le_refl _)) fun x hx => List.mem_eraseDups.mp hx
        rw [List.length_take] at this
        omega
      refine ⟨m, S, _, Rep.int_iff.mp q6, hS6, by unfold scanBound; omega, hlt, rp_plain (F' := F1) no0 r0 fun b o e => ?_, fun b o e => ?_, fun j => S j || decide (j = m), ?_, fun z => ?_⟩
      · have hb : b ≠ D := fun z => by subst z; rw [hF] at e; cases e
        rw [upd_ne hb]
        exact p6.rp.sub b o (p6.f b o (p3.f b o e))
      · rw [upd_ne (ne_of_none e hD)]
        exact p6.h b o (p3.h b o (k2 b o e) nO) (no4' b)
      · rw [upd_same, htk, ed_snoc]
        by_cases hm3 : m ∈ List.take i' ns
        · rw [if_pos hm3, if_pos ((mS m).mpr hm3)]
        · rw [if_neg hm3, if_neg fun z => hm3 ((mS m).mp z)]
      · rw [htk, Bool.or_eq_true, decide_eq_true_eq, mS, List.mem_append, List.mem_singleton]
    · have e : i' = l.length := by omega
      refine .inl ⟨w.stop (by omega) rp2 fun _ _ e => e, D, S, _, rfl, hS, h _ _ F1 (p1.trans ⟨rp_plain (F' := F1) no p1.rp rp2.sub, fun _ _ e => e, fun b o e _ => k2 b o e, fun _ _ _ _ _ e => e, fun _ l e => ⟨l, e⟩, fun _ l e => ⟨l, e⟩⟩) (Rep.int_iff.mpr ?_)⟩
      rw [e, ← hl, List.take_length]
end
end Z

/-! ZO: defs that give a new list -/
namespace Z
open PySem PySem.Spec PyProof.Rows L2 TL
/-- what a call of such a def gives: the list is new and the caller's own -/
def SpO (K : PySem.W.Frag) (ca : Nat → Addr) (np : Nat) (c : List Slot → CR) : Sp := fun vs H Q E => ∃ (sl : List Slot) (F : Hp), vs.length = np ∧ Rp K sl (vs.map some) H F ∧ (∀ (i : Nat) (l : D), sl[i]? ≠ some (.own l)) ∧ (∀ (i : Nat) (l : D), sl[i]? = some (.io l) → i = 0) ∧ match c sl with
  | .ret (.lst l) o => ∀ a ws H' F', Pc K sl o (vs.map some) H F H' F' → H' a = none → Reps K F' l ws → Q (.ref a) (upd H' a (.lst ws))
  | .ret _ _ => False
  | .exc x o => ∀ cls dd H' F', Pc K sl o (vs.map some) H F H' F' → RepX K ca H' F' x cls dd → E cls dd H'
  | .bad => False
section
variable {K : PySem.W.Frag} {ca : Nat → Addr} {W : WX} {r r1 : St} {σ σ1 : L2.St} {H F H1 F1 : Hp} {Q : VK}
theorem FiO.shift (p : Ps K r r1 σ H F H1 F1) {y : R D} (h : FiO K ca W y r σ H F Q) : FiO K ca W y r1 σ H1 F1 Q := by
  cases y with
  | ok d r2 =>
    cases d with
    | lst l => exact fun a vs H' F' q e z => h a vs H' F' (p.trans q) e z
    | _ => exact h.elim
  | exc e r2 => exact fun c dd H' F' q z => h c dd H' F' (p.trans q) z
  | bad => exact h
/-- a suite that ends in a new list -/
def FiSO (K : PySem.W.Frag) (ca : Nat → Addr) (W : WX) (x : Z.F) (r : St) (σ : L2.St) (H F : Hp) (D : Ends) : Prop := match x with
  | .rt (.lst l) r' => ∀ a ws σ' H' F', Pt K r r' σ σ' H F H' F' → H' a = none → Reps K F' l ws → D.rt (.ref a) (upd H' a (.lst ws))
  | .exc e r' => ∀ cls dd σ' H' F', Pt K r r' σ σ' H F H' F' → RepX K ca H' F' e cls dd → W cls dd σ' H'
  | _ => False
def tSO (K : PySem.W.Frag) (ca : Nat → Addr) (W : WX) (f : St → Z.F) : TS := fun D σ H => ∃ r F, Rp K r σ H F ∧ FiSO K ca W (f r) r σ H F D
theorem FiSO.shift (p : Pt K r r1 σ σ1 H F H1 F1) {y : Z.F} {D : Ends} (h : FiSO K ca W y r σ H F D) : FiSO K ca W y r1 σ1 H1 F1 D := by
  cases y with
  | rt d r2 =>
    cases d with
    | lst l => exact fun a ws σ' H' F' q e z => h a ws σ' H' F' (p.trans q) e z
    | _ => exact h.elim
  | exc e r2 => exact fun c dd σ' H' F' q z => h c dd σ' H' F' (p.trans q) z
  | _ => exact h.elim
end
section
variable {X : Cx} {ca : Nat → Addr} {W : WX} {pos p : Pos} {k : Nat} {f : Addr} {fd : FuncData} {ps : List Str} {x : Str} {c : List Slot → CR} {e : Expr} {es : List Expr} {fs : St → R (List D)}
theorem o_call (tk : Takes X W) (FO : FnOk X.prog X.w X.K X.mg X.base (L2.CX X.prog X.w) k f fd ps (SpO X.K ca ps.length c)) (hr : Room k X.A) (hg : Gl X x) (hm : X.mg x = some (.ref f)) (hk : PySem.W.keepIn X.K (.ref f) = true) (hb : Binds X.K fd ps [])
    (hd : (x == ("__debug__" : Str)) = false) (ha : QA X ca W (e :: es) fs) (hn : (e :: es).all noStar = true) (hlen : ∀ r l r', fs r = .ok l r' → l.length = ps.length) :
    QO X ca W (.Call (.Name x p) (e :: es) [] pos) (fun r => (fs r).bind fun l r => (c (l.map .val)).val r) := by
  have hn2 := hn
  rw [List.all_cons, Bool.and_eq_true] at hn2
  refine PE.weak (pe_callS FO hr hg hm hk hb (E := WE W) (fun σ => passAt tk σ) ha hd (star_cons hn2.1) (star_any hn2.2)) fun σ H Q ⟨r, F, q, h⟩ => ⟨r, F, q, ?_⟩
  dsimp only at h
  cases e1 : fs r with
  | bad => rw [e1] at h; exact h.elim
  | exc y r1 => rw [e1] at h; exact h
  | ok l r1 =>
    rw [e1] at h
    intro vs H1 F1 p1 q1
    have h := FiO.shift p1 h
    dsimp only [R.bind] at h
    refine ⟨l.map .val, F1, by rw [← q1.length]; exact hlen r l r1 e1, vals_rp p1.rp.sub q1, fun i m z => ?_, fun i m z => ?_, ?_⟩
    · exact vals_noL (i := i) (m := m) (by rw [z]; rfl)
    · exact absurd (show ownL (l.map Slot.val)[i]? = some m by rw [z]; rfl) vals_noL
    · cases e2 : c (l.map .val) with
      | bad => rw [e2] at h; exact h.elim
      | ret d o =>
        rw [e2] at h
        cases d with
        | lst m => exact fun a ws H' F' pc ha q => h a ws H' F' (Pc.ps p1.rp pc) ha q
        | _ => exact h.elim
      | exc y o =>
        rw [e2] at h
        exact fun cls dd H' F' pc q => h cls dd H' F' (Pc.ps p1.rp pc) q
theorem so_ret {e : Expr} {g : St → R D} (he : QO X ca W e g) : PS X (.Return (some e) pos) (tSO X.K ca W fun r => (g r).fl fun d r => .rt d r) :=
  PS.weak (ps_ret he) fun D σ H ⟨r, F, p, h⟩ => ⟨r, F, p, by
    dsimp only at h
    cases e : g r with
    | bad => rw [e] at h; exact h.elim
    | exc x r1 => rw [e] at h; exact fun c dd H' F' q z => h c dd σ H' F' q.pt z
    | ok d r1 =>
      rw [e] at h
      cases d with
      | lst l => exact fun a vs H1 F1 p1 ha q1 => h a vs σ H1 F1 p1.pt ha q1
      | _ => exact h.elim⟩
/-- behind a statement that does not return -/
theorem so_cons {st : Stmt} {sts : List Stmt} {g g2 : St → Z.F} (h1 : QS X ca W st g) (hn : ∀ r, (∃ r', g r = .nx r') ∨ (∃ e r', g r = .exc e r') ∨ g r = .bad) (h2 : PSs X sts (tSO X.K ca W g2)) : PSs X (st :: sts) (tSO X.K ca W fun r => (g r).then g2) := by
  refine PSs.weak (pss_cons h1 h2) fun D σ H ⟨r, F, p, h⟩ => ⟨r, F, p, ?_⟩
  dsimp only at h
  rcases hn r with ⟨r', e⟩ | ⟨x, r', e⟩ | e
  · rw [e] at h ⊢
    intro σ' H' F' pt
    exact ⟨r', F', pt.rp, FiSO.shift pt h⟩
  · rw [e] at h ⊢
    exact h
  · rw [e] at h
    exact h.elim
end
section
variable {X : Cx} {ca : Nat → Addr} {W : WX} {pos p p2 kp : Pos} {a : Expr} {fa : St → R D}
theorem o_srtk {k : Nat} {f0 : Addr} {fd : FuncData} {q x : Str} {C : Calls} {fi : Nat} (FO : FnOk X.prog X.w X.K X.mg X.base (L2.CX X.prog X.w) k f0 fd [q] (SpOf X.K ca 1 (C fi))) (hr : Room (k + 2) X.A) (hb : Binds X.K fd [q] [])
    (hg : Gl X "sorted") (hm : X.mg "sorted" = none) (hg2 : Gl X x) (hm2 : X.mg x = some (.ref f0)) (hd2 : (x == ("__debug__" : Str)) = false) (ha : QE X ca W a fa) (hs : noStar a = true) :
    QO X ca W (.Call (.Name "sorted" p) [a] [⟨some "key", .Name x p2, kp⟩] pos) (fun r => (fa r).bind fun x r => .of (srtR C fi x) r) := by
  have hf : PE X (.Name x p2) (tC (.ref f0)) := pe_glob hg2 hm2 rfl hd2
  refine PE.weak (pe_callBK (cr_sortK FO hr hb) hg hm (by decide +kernel) (pa_cons ha pa_nil (star_cons hs)) (pk_cons hf pk_nil) (by decide) (by decide) (by rw [star_cons hs]; rfl) (by rw [star_cons hs]; rfl) rfl rfl rfl) fun σ H Q ⟨r, F, p0, h⟩ => ⟨r, F, p0, ?_⟩
  dsimp only at h
  cases e0 : fa r with
  | bad => rw [e0] at h; exact h.elim
  | exc z r1 => rw [e0] at h; exact h
  | ok y r1 =>
  rw [e0] at h
  intro v H1 F1 p1 q1
  have h := FiO.shift p1 h
  dsimp only [R.bind] at h
  cases e : srtR C fi y with
  | none => rw [e] at h; exact h.elim
  | some z =>
    rw [e] at h
    unfold srtR at e
    split at e
    · rename_i l
      split at e
      · rename_i ks ek
        split at e
        · rename_i hn
          cases e
          obtain ⟨a1, vs, rfl, s1, z1⟩ := Rep.lst_iff.mp q1
          refine ⟨a1, vs, ks, fun _ H' => ∃ F', Ps X.K r1 r1 σ H1 F1 H' F', rfl, rfl, SqL.up p1.rp.sub s1, by rw [keysC_len ek]; exact z1.length, ⟨F1, Ps.refl p1.rp⟩, fun i v c H2 hv hc ⟨F2, p2⟩ => ?_, fun H2 d zs ⟨F2, p2⟩ hd hp ho => ?_⟩
          · obtain ⟨dd, hdd⟩ : ∃ dd, l[i]? = some dd := ⟨_, List.getElem?_eq_getElem (by rw [z1.length]; exact (List.getElem?_eq_some_iff.mp hv).1)⟩
            obtain ⟨v', hv', rv⟩ := z1.get hdd
            rw [hv] at hv'
            cases hv'
            obtain ⟨o, ec⟩ := keysC_get ek hdd hc
            refine ⟨[dd].map .val, F2, rfl, vals_rp p2.rp.sub (Reps.cons (rv.mono p2.f) Reps.nil), fun i m z => vals_noL (i := i) (m := m) (by rw [z]; rfl), fun i m z => absurd (show ownL ([dd].map Slot.val)[i]? = some m by rw [z]; rfl) vals_noL, ?_⟩
            rw [show [dd].map Slot.val = [.val dd] from rfl, ec]
            exact fun w H3 F3 pc qw => ⟨Rep.int_iff.mp qw, F3, p2.trans (Pc.ps (l := [dd]) p2.rp pc)⟩
          · have z2 := z1.mono p2.f
            have hlk : ks.length = l.length := keysC_len ek
            -- data beside values
            obtain ⟨ys, yp, ye⟩ := perm_lift (fun t : Int × D × V => (t.1, t.2.2)) hp (ks.zip (l.zip vs)) (by
              have e : (ks.zip (l.zip vs)).map (fun t : Int × D × V => (t.1, t.2.2)) = ks.zip ((l.zip vs).map Prod.snd) := by
                rw [List.zip_map_right]; rfl
              rw [e, List.map_snd_zip (by rw [z1.length]; exact Nat.le_refl _)])
            have mem : ∀ y ∈ ys, Rep X.K F2 y.2.1 y.2.2 := fun y hy => by
              obtain ⟨j, hj⟩ := List.mem_iff_getElem?.mp (yp.mem_iff.mp hy)
              obtain ⟨h1, h2⟩ := List.getElem?_zip_eq_some.mp hj
              obtain ⟨h3, h4⟩ := List.getElem?_zip_eq_some.mp h2
              obtain ⟨u, h5, h6⟩ := z2.get h3
              rw [h4] at h5
              cases h5
              exact h6
            have rp : Reps X.K F2 (ys.map fun y => y.2.1) (ys.map fun y => y.2.2) := by
              clear yp ye
              induction ys with
              | nil => exact Reps.nil
              | cons y ys ih => exact Reps.cons (mem y List.mem_cons_self) (ih fun z hz => mem z (List.mem_cons_of_mem _ hz))
            have e1 : zs.map Prod.snd = ys.map fun y => y.2.2 := by rw [← ye, List.map_map]; rfl
            have e2 : srtL ks l = ys.map fun y => y.2.1 := by
              have yq : (ys.map fun y => (y.1, y.2.1)).Perm (ks.zip l) := by
                have h1 := yp.map fun y : Int × D × V => (y.1, y.2.1)
                have e : (ks.zip (l.zip vs)).map (fun p : Int × D × V => (p.1, p.2.1)) = ks.zip ((l.zip vs).map Prod.fst) := by
                  rw [List.zip_map_right]; rfl
                rw [e, List.map_fst_zip (by rw [z1.length]; exact Nat.le_refl _)] at h1
                exact h1
              have yo : (ys.map fun y => (y.1, y.2.1)).Pairwise (fun p q : Int × D => p.1 ≤ q.1) := by
                rw [← ye, List.pairwise_map] at ho
                rw [List.pairwise_map]
                exact ho
              rw [← srtL_eq hn yq yo, List.map_map]
              rfl
            refine h d _ _ _ p2 hd ?_
            have rp2 := rp
            rw [← e1] at rp2
            rw [e2]
            exact rp2
        · cases e
      · cases e
    · cases e
/-! ### enumerate, zip -/
end
section
variable {X : Cx} {ca : Nat → Addr} {W : WX} {pos p p2 px : Pos}
/-- isinstance of a name, its list the frame's own or not: the name is only looked at -/
theorem q_isov {i t : Nat} {x : Str} (ht : t < 5) (hg : Gl X "isinstance") (hm : X.mg "isinstance" = none) (hg2 : Gl X (tyName t : Str)) (hm2 : X.mg (tyName t : Str) = none) (hN : X.N[i]? = some x) (hv : Vis X.env.scope x) (hd : (x == ("__debug__" : Str)) = false) (hcd : (x == ("__classdict__" : Str)) = false) :
    QE X ca W (.Call (.Name "isinstance" p) [.Name x px, .Name (tyName t : Str) p2] [] pos) (fun r => .of ((pkv i r).bind fun d => (isiD d t).map .bl) r) := by
  have hT : PE X (.Name (tyName t : Str) p2) (tC (.ty (tyName t))) := pe_bltn hg2 hm2 (ty_boot t) rfl (ty_ne t) (ty_nd t)
  refine PE.weak (pe_callB call_isi hg hm PyProof.Rows.boot_isinstance (pa_cons (pe_var hN hv hd hcd) (pa_cons hT pa_nil) rfl) (by decide) (by decide) rfl rfl) fun σ H Q ⟨r, F, q, h⟩ => ?_
  dsimp only at h
  cases e0 : pkv i r with
  | none => rw [e0] at h; exact h.elim
  | some d =>
    rw [e0] at h
    cases e : isiD d t with
    | none => simp only [Option.bind, e] at h; exact h.elim
    | some b =>
      simp only [Option.bind, e] at h
      obtain ⟨v, hv, rh⟩ := q.pk e0
      have ty : ∃ s, tyD d = some s ∧ TyX X.K H v (.type s) := by
        rcases rh with rh | ⟨a, ho, rfl, e2, ro⟩
        · exact rep_tyx rh q.sub (fun a b z => by subst z; simp [isiD] at e) (fun a b z => by subst z; simp [isiD] at e)
        · cases d <;> simp only [RepO] at ro
          · obtain ⟨vs, rfl, _⟩ := ro
            exact ⟨_, rfl, .base (.lst e2)⟩
          · simp [isiD] at e
      obtain ⟨s, e1, ty⟩ := ty
      exact ⟨v, hv, v, _, _, _, b, rfl, .ty _, ty, kit_ty (kit_tab ht e1 e), h _ _ _ (Ps.refl q) (Rep.bl_iff.mpr rfl)⟩
end
end Z

/-! ZF: raise C(e), C with an __init__ that calls its base's and keeps e -/
namespace Z
open PySem PySem.Spec PyProof.Rows L2 TL
/-- LossError.__init__(self, ..), found on the class -/
structure LeI (K : PySem.W.Frag) (mg : Str → Option Value) : Prop where
  g : mg "LossError" = some (.ref (xa K 0))
  sp : PySem.W.specialIn K (.ref (xa K 0)) "__getattribute__" = some (some (.builtin "type.__getattribute__"))
  rd : PySem.W.readsIn K (xa K 0) (.type "type") = true
  fc : PySem.W.findCls K (.ref (xa K 0)) (.type "type") "__init__" = some (.val (.builtin "ValueError.__init__"))
section
variable {X : Cx} {ta : TA} {p1 p2 pos : Pos} {e : Expr} {es : List Expr}
theorem pe_leinit (L : LeI X.K X.mg) (hg : Gl X "LossError") (ha : PA X (e :: es) ta) (he : starEach (e :: es) X.env = (false, eval e X.env) :: starEach es X.env) (hpl : (backTo pos (starEach es X.env)).any (·.1) = false)
    (hf : methodCallForm ((e :: es).length + ([] : List Keyword).length) (backTo pos (starEach (e :: es) X.env)) (backToKw pos (keywordEach [] X.env)) = true) (hline : (p2.endLine == pos.line) = true) :
    PE X (.Call (.Attribute (.Name "LossError" p1) "__init__" p2) (e :: es) [] pos) (tVeI X.K ta) := by
  refine ⟨fun pins s σ H Q I h => ?_⟩
  have hp : methodCallPos true (.Name "LossError" p1) X.env p2 pos = pure pos := by unfold methodCallPos; simp [hline]
  rw [arm_eval_Call]
  show wpAny _ _ (eval (.Name "LossError" p1) X.env >>= _) _ _ _
  refine wpAny_bind (ld_glob I hg L.g (wpAny_bind (wpAny_standAt ?_)) (by decide))
  unfold methodCall
  rw [hf]
  refine wpAny_bind (wpAny_holding (PySem.W.method_cls I.kIn L.sp (PySem.W.cls_value I.kIn L.rd L.fc (by decide +kernel) (wpAny_bind (wpAny_of_eq hp ?_)))))
  show wpAny _ _ (callWith pos (Value.builtin "ValueError.__init__") [] (backTo pos (starEach (e :: es) X.env)) []) _ _ _
  refine PyProof.Rows.callWith_method1 (thn (ha.run pos pins _ σ H _ (I.tok _) h) fun us s1 ⟨vs, H1, I1, r1, a, C, ws, ev, hl, T, ea, q⟩ => ?_) he hpl
  subst ev
  cases r1 with
  | @cons _ u0 _ ur ra rw2 =>
    cases (show u0 = Value.ref a from ra)
    exact oinit_ok T I1 ea (by rw [← Paired.length rw2, sizeLine_eq]; omega) fun s' J => ⟨.non, H1, J, rfl, q⟩
end
def scB (N P : List Str) (sc : Scope) : Bool :=
  decide (sc.kind = .function) && !sc.isCoroutine && !sc.isGenerator && decide N.Nodup && decide (N.take P.length = P) && (P.all fun x => decide (sc.names.lookup x = some .local) || decide (sc.names.lookup x = some .cell)) && (sc.names.all fun y => decide (y.2 ≠ .free))
theorem scB_ok {N P : List Str} {sc : Scope} (h : scB N P sc = true) : FnScope N P sc := by
  simp only [scB, Bool.and_eq_true, decide_eq_true_eq, Bool.not_eq_true', List.all_eq_true, Bool.or_eq_true] at h
  obtain ⟨⟨⟨⟨⟨⟨h1, h2⟩, h3⟩, h4⟩, h5⟩, h6⟩, h7⟩ := h
  exact ⟨h1, h2, h3, h4, h5, h6, h7⟩
/-- the form of such an __init__, its field named f -/
def initB (st : Stmt) (f : Str) : Bool := match defBody st with
  | [.Expr (.Call (.Attribute (.Name x _) y pa) [.Name s1 _, .Constant (.str _) _ _] [] pc) _, .Assign [.Attribute (.Name s2 _) g _] (.Name a _) _] => decide (x = ("LossError" : Str)) && decide (y = ("__init__" : Str)) && decide (s1 = ("self" : Str)) && decide (s2 = ("self" : Str)) && decide (g = f) && decide (a = f) &&
    decide (f ≠ ("self" : Str)) && scB ["self", f] ["self", f] (defScope st) && decide ((defScope st).names.lookup ("LossError" : Str) = some .globalImplicit) && decide ((defScope st).names.lookup ("self" : Str) = some .local) && decide ((defScope st).names.lookup f = some .local) && decide (f ≠ ("__debug__" : Str)) && decide (f ≠ ("__classdict__" : Str)) && (pa.endLine == pc.line)
  | _ => false
def spI (K : PySem.W.Frag) (f : Str) : Sp := fun vs H Q _ => ∃ (a C : Addr) (v : V), vs = [.ref a, v] ∧ OexC K C ∧ PySem.W.findIn K (.ref C) f = some none ∧ H a = some (exo a C none) ∧
  ∀ dx, H dx = none → dx ≠ a → Q .non (upd (upd H dx (exd dx [(f, v)])) a (exo a C (some dx)))
section
variable {X : Cx} {f m : Str} {j : Nat} {p1 p2 p3 p4 p5 p6 q1 q2 q3 q4 : Pos}
theorem leinit_args (L : LeI X.K X.mg) (hl : Gl X "LossError") (h0 : X.N[0]? = some ("self" : Str)) (v0 : Vis X.env.scope "self") (hline : (p2.endLine == p5.line) = true) :
    PE X (.Call (.Attribute (.Name "LossError" p1) "__init__" p2) [.Name "self" p3, .Constant (.str m) j p4] [] p5) (tVeI X.K (tCons (tVar 0) (tCons (tC (.str m)) tNil))) :=
  pe_leinit L hl (pa_cons (pe_var h0 v0 (by decide) (by decide)) (pa_cons pe_str pa_nil rfl) rfl) rfl rfl rfl hline
theorem init_body (L : LeI X.K X.mg) (hl : Gl X "LossError") (h0 : X.N[0]? = some ("self" : Str)) (v0 : Vis X.env.scope "self") (h1 : X.N[1]? = some f) (v1 : Vis X.env.scope f) (hd : (f == ("__debug__" : Str)) = false) (hcd : (f == ("__classdict__" : Str)) = false) (hline : (p2.endLine == p5.line) = true) :
    PSs X [.Expr (.Call (.Attribute (.Name "LossError" p1) "__init__" p2) [.Name "self" p3, .Constant (.str m) j p4] [] p5) p6, .Assign [.Attribute (.Name "self" q1) f q2] (.Name f q3) q4]
      (tSeq (fun D σ H => tVeI X.K (tCons (tVar 0) (tCons (tC (.str m)) tNil)) σ H fun _ H1 => D.nx σ H1) (tOst X.K f (tVar 0) (tVar 1))) := by
  have a := ps_expr (pos := p6) (leinit_args (p1 := p1) (p2 := p2) (p3 := p3) (p4 := p4) (p5 := p5) (m := m) (j := j) L hl h0 v0 hline) (no_swap rfl)
  have b := ps_ost (p' := q2) (f := f) (pos := q4) (pe_var (pos := q1) h0 v0 (by decide) (by decide)) (pe_var (pos := q3) h1 v1 hd hcd) (no_swap rfl)
  exact pss_cons a (pss_one b)
end
theorem init_ok {P : Program} {w : World} {K : PySem.W.Frag} {mg : Str → Option Value} {base : Heap} {x q : Str} {dvs : List V} {fI : Addr} {fd : FuncData} {st : Stmt} {f : Str} (F : FunD K x q (defArgs st) (defBody st) (defScope st) dvs [] fI fd) (L : LeI K mg) (hb : initB st f = true) :
    FnOk P w K mg base (L2.CX P w) 1 fI fd ["self", f] (spI K f) := by
  unfold initB at hb
  split at hb
  · rename_i heq
    simp only [Bool.and_eq_true, decide_eq_true_eq] at hb
    obtain ⟨⟨⟨⟨⟨⟨⟨⟨⟨⟨⟨⟨⟨rfl, rfl⟩, rfl⟩, rfl⟩, rfl⟩, rfl⟩, hne⟩, hs⟩, hl⟩, h1⟩, h2⟩, h3⟩, h4⟩, h5⟩ := hb
    rw [heq] at F
    have S := scB_ok hs
    refine F.ok (k := 0) S (fun vs H Q E ⟨a, C, v, e, _⟩ => by rw [e]; rfl) fun cdv A outer s H vs Q E hr ⟨a, C, v, e, T, hno, ha, z⟩ => ?_
    subst e
    refine ⟨_, init_body (X := cxOf (L2.CX P w) P w K mg base ["self", _] q (defScope st) fI cdv A outer s H E) L hl rfl (.inl h1) rfl (.inl h2) (by simpa using h3) (by simpa using h4) h5, ?_⟩
    exact ⟨_, rfl, a, C, _, rfl, by simp, T, ha, _, rfl, _, rfl, a, C, rfl, T, hno, .inl ⟨ha, z⟩⟩
  · cases hb
/-- what is told of an error class with a field -/
def initOf (T : List (Nat × Stmt)) (k : Nat) : Option Stmt := T.lookup k
structure XI (K : PySem.W.Frag) (mg : Str → Option Value) (k : Nat) : Prop where
  le : LeI K mg
  ox : OexC K (xa K k)
  no : PySem.W.findIn K (.ref (xa K k)) (fldN k) = some none
  k17 : 17 ≤ k
  g : mg (exn.getD k "") = some (.ref (xa K k))
  fn : ∃ (st : Stmt) (x q : Str) (fI : Addr) (fd : FuncData), FunD K x q (defArgs st) (defBody st) (defScope st) [.non] [] fI fd ∧ initB st (fldN k) = true ∧ Binds K fd ["self", fldN k] [] ∧ PySem.W.findIn K (.ref (xa K k)) "__init__" = some (some (.ref fI)) ∧ PySem.W.typeIn K (.ref fI) = some (.type "function")
theorem updF_upd {H : Hp} {a : Addr} {o o2 : HO} : upd (upd H a o) a o2 = upd H a o2 := by
  funext b
  by_cases h : b = a
  · subst h; rw [upd_same, upd_same]
  · rw [upd_ne h, upd_ne h, upd_ne h]
section
variable {X : Cx} {ca : Nat → Addr} {W : WX} {pos : Pos} {k : Nat}
theorem s_raisF {x : Str} {e : Expr} {f : St → R D} {p p3 : Pos} (hc : X.calm = true) (tk : Takes X W) (xi : XI X.K X.mg k) (hr : Room 2 X.A) (hx : x = exn.getD k "") (hg : Gl X x) (hd : (x == ("__debug__" : Str)) = false) (ha : QE X ca W e f) (hn : noStar e = true) :
    QS X ca W (.Raise (some (.Call (.Name x p) [e] [] p3)) none pos) (fun r => (f r).fl fun d r => .exc (.exc k [d]) r) := by
  subst hx
  obtain ⟨st, x0, q0, fI, fd, FD, hb, hbd, iC, tI⟩ := xi.fn
  have FO := init_ok (P := X.prog) (w := X.w) (base := X.base) FD xi.le hb
  refine PS.weak (ps_raise hc tk (pmk_oex (dvs := []) xi.ox iC tI FO hr hbd .nil (fun pins σ H s e s' _ z => ?_) hg xi.g (pa_cons ha pa_nil (star_cons hn)) hd (star_cons hn) rfl)) fun D σ H ⟨r, F, p, h⟩ => ⟨r, F, p, FiS.step h fun d r1 v H1 F1 p1 q1 h => ?_⟩
  · obtain ⟨_, _, _, _, _, _, _, _, _, _, _, _, z⟩ := z
    exact z.elim
  · refine ⟨by simp, fun a na => ⟨a, _, v, rfl, xi.ox, xi.no, upd_same, fun dx ndx hne => ?_⟩⟩
    have n1 : H1 dx = none := by rw [upd_ne hne] at ndx; exact ndx
    refine ⟨rfl, dx, [(fldN k, v)], upd_same, by rw [upd_ne hne, upd_same], n1, ?_⟩
    have e1 : upd (del (upd (upd (upd H1 a (exo a (xa X.K k) none)) dx (exd dx [(fldN k, v)])) a (exo a (xa X.K k) (some dx))) a) dx (.xd [(fldN k, v)]) = upd H1 dx (.xd [(fldN k, v)]) := by
      funext b
      by_cases hb : b = dx
      · subst hb; rw [upd_same, upd_same]
      · rw [upd_ne hb, upd_ne hb]
        by_cases hb2 : b = a
        · subst hb2; rw [del_same, na]
        · rw [del_ne hb2, upd_ne hb2, upd_ne hb, upd_ne hb2]
    rw [e1]
    have n2 := p1.rp.new (o := .xd [(fldN k, v)]) n1
    exact h _ _ σ _ _ n2.pt ⟨rfl, [v], Reps.cons (q1.mono n2.f) Reps.nil, .inr ⟨dx, v, rfl, rfl, upd_same⟩⟩
end
end Z

/-! Z13: the checker of core syntax against the model's syntax tree; expressions -/
namespace Z
open PySem PySem.Spec PyProof.Rows L2 TL

def csD : Int ⊕ List Nat → D
  | .inl i => .int i
  | .inr s => .str s
def csOf : D → Option (Int ⊕ List Nat)
  | .int i => some (.inl i)
  | .str s => some (.inr s)
  | _ => none
theorem cs_eq : ∀ {vs : List D} {cs : List (Int ⊕ List Nat)}, vs.map csOf = cs.map some → vs = cs.map csD
  | [], [], _ => rfl
  | [], _ :: _, h => by simp at h
  | _ :: _, [], h => by simp at h
  | v :: vs, c :: cs, h => by
    simp only [List.map_cons, List.cons.injEq] at h
    obtain ⟨h1, h2⟩ := h
    simp only [List.map_cons, List.cons.injEq]
    refine ⟨?_, cs_eq h2⟩
    cases v <;> simp [csOf] at h1 <;> subst h1 <;> rfl
structure Tb where
  glo : List (Nat × Str)
  fns : List (Nat × (Str × Nat))
  kb : List (Nat × List Str × List Nat)
  free : List Str
  dcs : List (Str × (List (List Nat) × List (Int ⊕ List Nat)))
  xcs : List Nat
  fnq : List (Nat × (Str × Nat))
  xis : List Nat
  fno : List Nat
/-- the block's own cells -/
def cellIn (s : Scope) (x : Str) : Bool := s.names.lookup x == some .cell
structure Sc where
  N : List Str
  names : List (Str × NameKind)
  all : Str → Bool
  hot : Bool
def okN (x : Str) : Bool := !(x == ("__debug__" : Str)) && !(x == ("__classdict__" : Str))
def isVis : Option NameKind → Bool
  | some .local => true
  | some .cell => true
  | some .free => true
  | _ => false
def Sc.vis (c : Sc) (i : Nat) (x : Str) : Bool := decide (c.N[i]? = some x) && okN x && isVis (c.names.lookup x)
def Sc.loc (c : Sc) (i : Nat) (x : Str) : Bool := decide (c.N[i]? = some x) && (match c.names.lookup x with
  | some .local => true
  | some .cell => c.all x
  | _ => false)
def Sc.gl (c : Sc) (x : Str) : Bool := okN x && decide (c.names.lookup x = some .globalImplicit)
def relN (names par : List (Str × NameKind)) : List (Str × NameKind) := names.map fun (n, k) => if (k == .free && par.lookup n == some .cell) then (n, .cell) else (n, k)

structure XOk (X : Cx) (c : Sc) : Prop where
  N : X.N = c.N
  names : X.env.scope.names = c.names
  kind : X.env.scope.kind = .function
  all : ∀ x, c.all x = true → X.fn x = true
  calm : c.hot = false → X.calm = true
/-- what the calls, the globals and the free names are -/
structure SemOk (X : Cx) (T : Tb) (C : Calls) (G : List D) (ca : Nat → Addr) (W : WX) : Prop where
  ck : Ck X 0
  glo : ∀ (g : Nat) x, T.glo.lookup g = some x → ∃ d v u, G[g]? = some d ∧ X.mg x = some u ∧ RelV v u ∧ ∀ F, Rep X.K F d v
  fn : X.calm = true → ∀ (f : Nat) x np, T.fns.lookup f = some (x, np) → ∃ k fa fd ps, ps.length = np ∧ FnOk X.prog X.w X.K X.mg X.base (L2.CX X.prog X.w) k fa fd ps (SpOf X.K ca ps.length (C f)) ∧ Room (k + 2) X.A ∧ X.mg x = some (.ref fa) ∧ PySem.W.keepIn X.K (.ref fa) = true ∧ Binds X.K fd ps [] ∧
    (∀ nms ks, (f, nms, ks) ∈ T.kb → ks.length = np ∧ KBinds X.K fd ps nms (gK nms.length ks .none) (gK nms.length ks .non)) ∧ (T.fno.contains f = true → FnOk X.prog X.w X.K X.mg X.base (L2.CX X.prog X.w) k fa fd ps (SpO X.K ca ps.length (C f)))
  fnq : ∀ (f : Nat) x np, T.fnq.lookup f = some (x, np) → ∃ k fa fd ps, ps.length = np ∧ FnQ X.prog X.w X.K X.mg X.base k fa fd ps (SpOf X.K ca ps.length (C f)) ∧ RoomQ (k + 2) X.A ∧ X.mg x = some (.ref fa) ∧ PySem.W.keepIn X.K (.ref fa) = true ∧ Binds X.K fd ps []
  free : ∀ x ∈ T.free, X.mg x = none
  tk : Takes X W
  dcs : ∀ (x : Str) ks cs, T.dcs.lookup x = some (ks, cs) → ∃ a, X.mg x = some (.ref a) ∧ ∀ s d, dlook ks (cs.map csD) s = some d → KDct X.K X.w a ⟨s.toArray⟩ (cvD d) ∧ cOk d = true
  xcs : ∀ k ∈ T.xcs, XF X.K X.mg T.xcs k
  xis : ∀ k ∈ T.xis, XI X.K X.mg k
  rm : X.calm = true → Room 2 X.A
section
variable {X : Cx} {c : Sc} {i : Nat} {x : Str}
theorem okN_iff (h : okN x = true) : (x == ("__debug__" : Str)) = false ∧ (x == ("__classdict__" : Str)) = false := by
  unfold okN at h
  simpa using h
theorem isVis_ok {sc : Scope} (h : isVis (sc.names.lookup x) = true) : Vis sc x := by
  unfold isVis at h
  split at h
  · exact .inl ‹_›
  · exact .inr (.inl ‹_›)
  · exact .inr (.inr ‹_›)
  · cases h
theorem XOk.vis (o : XOk X c) (h : c.vis i x = true) : X.N[i]? = some x ∧ Vis X.env.scope x ∧ (x == ("__debug__" : Str)) = false ∧ (x == ("__classdict__" : Str)) = false := by
  simp only [Sc.vis, Bool.and_eq_true, decide_eq_true_eq] at h
  exact ⟨by rw [o.N]; exact h.1.1, isVis_ok (by rw [o.names]; exact h.2), okN_iff h.1.2⟩
theorem XOk.loc (o : XOk X c) (h : c.loc i x = true) : X.N[i]? = some x ∧ Loc X.env.scope x ∧ (X.fn x = true ∨ X.env.scope.names.lookup x = some .local) := by
  simp only [Sc.loc, Bool.and_eq_true, decide_eq_true_eq] at h
  refine ⟨by rw [o.N]; exact h.1, ?_⟩
  have h2 := h.2
  rw [← o.names] at h2
  split at h2
  · exact ⟨.inl ‹_›, .inr ‹_›⟩
  · exact ⟨.inr ‹_›, .inl (o.all x h2)⟩
  · cases h2
theorem XOk.gl (o : XOk X c) (h : c.gl x = true) : Gl X x ∧ (x == ("__debug__" : Str)) = false := by
  simp only [Sc.gl, Bool.and_eq_true, decide_eq_true_eq] at h
  exact ⟨by unfold Gl Env.kindOf; rw [o.names]; exact h.2, (okN_iff h.1).1⟩
end
/-! ### the checker -/
def tst : Expr → Bool
  | .IfExp _ _ _ _ => false
  | _ => true
def isB : Expr → Bool
  | .BoolOp _ _ _ => true
  | _ => false
def callee : Expr → Bool
  | .Call _ as _ _ => as.isEmpty
  | _ => false
def isNm : Expr → Bool
  | .Name _ _ => true
  | _ => false
def ownOk (N : List Str) (par names : List (Str × NameKind)) (own : List Nat) : Bool :=
  (names.all fun y => decide (names.lookup y.1 = some y.2)) && (own.all fun i => (N[i]?).isSome) &&
  (names.all fun y => if y.2 = .free then decide (par.lookup y.1 = some .cell) || decide (par.lookup y.1 = some .free) else true) &&
  (names.all fun y => if y.2 = .local ∨ y.2 = .cell then (own.any fun i => decide (N[i]? = some y.1)) || !(N.contains y.1) else true)
def notSet : Expr → Bool
  | .Set _ _ _ => false
  | _ => true
def locN (c : Sc) (i : Nat) : Expr → Bool
  | .Name x _ => c.loc i x
  | _ => false
def tgAll (c : Sc) : List Nat → List Expr → Bool
  | [], [] => true
  | i :: is, x :: xs => locN c i x && tgAll c is xs
  | _, _ => false
def chkTg (c : Sc) (t : Tg) (e : Expr) : Bool := match t with
  | .one i => locN c i e
  | .many is => (match e with
    | .Tuple es _ _ => tgAll c is es
    | _ => false)
def isTup : Expr → Bool
  | .Tuple _ _ _ => true
  | _ => false
def tgI : I → Expr → Bool
  | .enum _, t => isTup t
  | .zip _ _, t => isTup t
  | _, _ => true
section
variable (T : Tb)
def tabB (y : Str) (ks : List (List Nat)) (vs : List D) : Bool := match T.dcs.lookup y with
  | some q => decide (q.1 = ks) && decide (vs.map csOf = q.2.map some)
  | none => false
mutual
def chkE : Sc → E → Expr → Bool
  | c, .var i, x => (match x with
    | .Name y _ => c.vis i y
    | _ => false)
  | c, .non, x => (match x with
    | .Constant .none _ _ => true
    | _ => false)
  | c, .bl b, x => (match x with
    | .Constant (.bool b') _ _ => b == b'
    | _ => false)
  | c, .int i, x => (match x with
    | .Constant (.int j) _ _ => i == j
    | _ => false)
  | c, .str s, x => (match x with
    | .Constant (.str y) _ _ => (y == ⟨s.toArray⟩) && s.all (· < 0x110000) && decide (s.length ≤ 10000)
    | _ => false)
  | c, .glo g, x => (match x with
    | .Name y _ => c.gl y && decide (T.glo.lookup g = some y)
    | _ => false)
  | c, .lst es, x => (match x with
    | .List xs _ => chkEs c es xs
    | _ => false)
  | c, .tup es, x => (match x with
    | .Tuple xs _ _ => chkEs c es xs
    | _ => false)
  | c, .bin o a b, x => (match x with
    | .BinOp a' o' b' _ => chkE c a a' && chkE c b b' && decide (o' = o.op)
    | _ => false)
  | c, .lmul es e, x => (match x with
    | .BinOp (.List es' _) .Mult e' _ => chkEs c es es' && chkE c e e'
    | _ => false)
  | c, .neg a, x => (match x with
    | .UnaryOp .USub a' _ => chkE c a a'
    | _ => false)
  | c, .cmp k a b, x => (match x with
    | .Compare a' [k'] [b'] _ => chkE c a a' && chkE c b b' && decide (k' = k.op) && !(behindInMarks k.op b')
    | _ => false)
  | c, .cmp2 k l a b d, x => (match x with
    | .Compare a' [k', l'] [b', d'] _ => chkE c a a' && chkE c b b' && chkE c d d' && decide (k' = k.op) && decide (l' = l.op) && !(lastMarks [k.op, l.op] [b', d'])
    | _ => false)
  | c, .isN a, x => (match x with
    | .Compare a' [.Is] [.Constant .none _ _] _ => chkE c a a'
    | _ => false)
  | c, .notN a, x => (match x with
    | .Compare a' [.IsNot] [.Constant .none _ _] _ => chkE c a a'
    | _ => false)
  | c, .isT a, x => (match x with
    | .Compare a' [.Is] [.Constant (.bool true) _ _] _ => chkE c a a'
    | _ => false)
  | c, .notT a, x => (match x with
    | .Compare a' [.IsNot] [.Constant (.bool true) _ _] _ => chkE c a a'
    | _ => false)
  | c, .eqv v neg e, x => (match x with
    | .Compare (.Name y _) [k'] [e'] _ => c.vis v y && chkE c e e' && decide (k' = if neg then .NotEq else .Eq) && !(behindInMarks (if neg then .NotEq else .Eq) e')
    | _ => false)
  | c, .sidx o e, x => (match x with
    | .Call (.Attribute o' y p) [e'] [] p2 => decide (y = ("index" : Str)) && chkE c o o' && chkE c e e' && noStar e' && !(callee o') && (p.endLine == p2.line)
    | _ => false)
  | c, .srtk f a, x => (match x with
    | .Call (.Name y _) [a'] [⟨some k, .Name z _, _⟩] _ => ((decide (y = ("sorted" : Str)) && c.gl y && T.free.contains y && decide (k = ("key" : Str)) && c.gl z && decide (T.fns.lookup f = some (z, 1)) && chkE c a a' && noStar a') && !c.hot)
    | _ => false)
  | c, .rngl a b, x => (match x with
    | .Call (.Name y _) [.Call (.Name z _) [a', b'] [] _] [] _ => ((decide (y = ("list" : Str)) && c.gl y && T.free.contains y && decide (z = ("range" : Str)) && c.gl z && T.free.contains z && chkE c a a' && chkE c b b' && noStar a' && noStar b') && !c.hot)
    | _ => false)
  | c, .call0 f, x => (match x with
    | .Call (.Name y _) [] [] _ => ((c.gl y && decide (T.fns.lookup f = some (y, 0))) && !c.hot)
    | _ => false)
  | c, .inn a b, x => (match x with
    | .Compare a' [.In] [b'] _ => chkE c a a' && chkE c b b' && !(behindInMarks .In b')
    | _ => false)
  | c, .nin a b, x => (match x with
    | .Compare a' [.NotIn] [b'] _ => chkE c a a' && chkE c b b' && !(behindInMarks .NotIn b')
    | _ => false)
  | c, .and a b, x => (match x with
    | .BoolOp .And (a' :: b' :: xs) p => chkE c a a' && tst a' && (if xs.isEmpty then chkE c b b' && tst b' else chkE c b (.BoolOp .And (b' :: xs) p))
    | _ => false)
  | c, .or a b, x => (match x with
    | .BoolOp .Or (a' :: b' :: xs) p => chkE c a a' && tst a' && (if xs.isEmpty then chkE c b b' && tst b' else chkE c b (.BoolOp .Or (b' :: xs) p))
    | _ => false)
  | c, .not a, x => (match x with
    | .UnaryOp .Not a' _ => chkE c a a' && tst a'
    | _ => false)
  | c, .ite t a b, x => (match x with
    | .IfExp t' a' b' _ => chkE c t t' && tst t' && chkE c a a' && chkE c b b'
    | _ => false)
  | c, .idx a i, x => (match x with
    | .Subscript a' i' _ => chkE c a a' && chkE c i i' && noSlice i'
    | _ => false)
  | c, .idxv v i, x => (match x with
    | .Subscript (.Name y _) i' _ => c.vis v y && chkE c i i' && noSlice i'
    | _ => false)
  | c, .sli a lo hi, x => (match x with
    | .Subscript a' (.Slice lo' hi' none _) _ => chkE c a a' && chkO c lo lo' && chkO c hi hi'
    | _ => false)
  | c, .rev a, x => (match x with
    | .Subscript a' (.Slice none none (some (.UnaryOp .USub (.Constant (.int k) _ _) _)) _) _ => chkE c a a' && isNm a' && (k == 1)
    | _ => false)
  | c, .bi b es, x => (match x with
    | .Call (.Name y _) (e' :: es') [] _ => ((decide (y = (b.name : Str)) && c.gl y && T.free.contains y && chkEs c es (e' :: es')) && !c.hot)
    | _ => false)
  | c, .lenv v, x => (match x with
    | .Call (.Name y _) [.Name z _] [] _ => decide (y = ("len" : Str)) && c.gl y && T.free.contains y && c.vis v z
    | _ => false)
  | c, .isi a t, x => (match x with
    | .Call (.Name y _) [a', .Name z _] [] _ => decide (y = ("isinstance" : Str)) && c.gl y && T.free.contains y && decide (t < 5) && decide (z = (tyName t : Str)) && c.gl z && T.free.contains z && chkE c a a' && noStar a'
    | _ => false)
  | c, .mt m a b, x => (match x with
    | .Call (.Attribute a' y p) [b'] [] p2 => decide (y = (match m with | .index => ("index" : Str) | .join => ("join" : Str) | .count => ("count" : Str))) && !(callee a') && (p.endLine == p2.line) && chkE c a a' && chkE c b b' && noStar b'
    | _ => false)
  | c, .call f es, x => (match x with
    | .Call (.Name y _) (e' :: es') [] _ => c.gl y && decide ((if c.hot then T.fnq else T.fns).lookup f = some (y, es.length)) && chkEs c es (e' :: es')
    | _ => false)
  | c, .callio f v es, x => (match x with
    | .Call (.Name y _) (.Name z _ :: es') [] _ => ((c.gl y && decide (T.fns.lookup f = some (y, es.length + 1)) && c.vis v z && chkEs c es es') && !c.hot)
    | _ => false)
  | c, .callk f es ks, x => (match x with
    | .Call (.Name y _) [] kws _ => ((c.gl y && (match T.fns.lookup f with | some q => decide (q.1 = y) | none => false) && kws.all (·.arg.isSome) && decide (es.length = (kws.filterMap (·.arg)).length) && decide ((f, kws.filterMap (·.arg), ks) ∈ T.kb) && chkK c es kws) && !c.hot)
    | _ => false)
  | c, .isx a ks t, x => (match x with
    | .Call (.Name y _) [a', .Name z _] [] _ => decide (y = ("isinstance" : Str)) && c.gl y && T.free.contains y && chkE c a a' && noStar a' && c.gl z && decide (ks = T.xcs) && ((T.xcs.contains t && decide (z = exn.getD t "")) || (decide (t = 100) && decide (z = ("ValueError" : Str)) && T.free.contains z))
    | _ => false)
  | c, .lcnt o e, x => (match x with
    | .Call (.Attribute o' y p) [e'] [] p2 => decide (y = ("count" : Str)) && chkE c o o' && chkE c e e' && noStar e' && !(callee o') && (p.endLine == p2.line)
    | _ => false)
  | c, .tupOr a b, x => (match x with
    | .Call (.Name y _) [.BoolOp .Or [a', b'] _] [] _ => decide (y = ("tuple" : Str)) && c.gl y && T.free.contains y && chkE c a a' && chkE c b b' && !c.hot
    | _ => false)
  | c, .lens a, x => (match x with
    | .Call (.Name y _) [.Call (.Name z _) [a'] [] _] [] _ => decide (y = ("len" : Str)) && c.gl y && T.free.contains y && decide (z = ("set" : Str)) && c.gl z && T.free.contains z && chkE c a a' && noStar a' && !c.hot
    | _ => false)
  | c, .lenc v p j, x => (match x with
    | .Call (.Name y _) [.SetComp (.Subscript (.Name p1 _) (.Name s1 _) _) [⟨.Name p2 q4, .Name xn _, [], 0⟩] scope _] [] _ => (decide (y = ("len" : Str)) && c.gl y && T.free.contains y && decide (p2 = p1) && c.vis v xn && decide (scope.kind = .function) && ownOk c.N c.names scope.names [p] &&
      chkTg ⟨c.N, relN scope.names c.names, cellIn scope, false⟩ (.one p) (.Name p2 q4) && Sc.vis ⟨c.N, relN scope.names c.names, cellIn scope, false⟩ p p1 && Sc.vis ⟨c.N, relN scope.names c.names, cellIn scope, false⟩ j s1) && !c.hot
    | _ => false)
  | c, .isov v t, x => (match x with
    | .Call (.Name y _) [.Name x1 _, .Name z _] [] _ => decide (y = ("isinstance" : Str)) && c.gl y && T.free.contains y && decide (t < 5) && decide (z = (tyName t : Str)) && c.gl z && T.free.contains z && c.vis v x1
    | _ => false)
  | c, .xfld a k, x => (match x with
    | .Attribute a' y _ => chkE c a a' && !(callee a') && T.xcs.contains k && decide (17 ≤ k) && decide (y = fldN k)
    | _ => false)
  | c, .rep1 v, x => false
  | c, .wfr v w g i ks vs, x => (match x with
    | .IfExp (.Compare (.Constant (.str z0) _ _) [.In] [.Name t1 _] _) (.ListComp (.Call (.Attribute (.Name t2 _) y p) [.Constant (.str z1) _ _, .Name l1 _] [] p2) [⟨.Name l2 _, .Name lt _, [.Compare (.Name l3 _) [.NotEq] [.Subscript (.Name dn _) (.Name wk _) _] _], 0⟩] scope _) (.List [.Name t3 _] _) _ => ((
      decide (z0 = ("?" : Str)) && decide (z1 = ("?" : Str)) && decide (y = ("replace" : Str)) && decide (t2 = t1) && decide (t3 = t1) && decide (l2 = l1) && decide (l3 = l1) && (p.endLine == p2.line) && c.vis v t1 && c.gl lt && decide (T.glo.lookup g = some lt) && tabB T dn ks vs && decide (scope.kind = .function) && ownOk c.N c.names scope.names [i] &&
      Sc.vis ⟨c.N, relN scope.names c.names, cellIn scope, false⟩ v t1 && Sc.vis ⟨c.N, relN scope.names c.names, cellIn scope, false⟩ w wk && Sc.gl ⟨c.N, relN scope.names c.names, cellIn scope, false⟩ dn && decide (c.N[i]? = some l1) && decide ((relN scope.names c.names).lookup l1 = some .local) && okN l1 && decide (v ≠ i) && decide (w ≠ i)) && !c.hot)
    | _ => false)
  | c, .dsub ks vs i, x => (match x with
    | .Subscript (.Dict k' v' _) i' _ => chkE c i i' && noSlice i' && dictB k' v' ks vs && !k'.isEmpty && decide (ks.length ≤ 15) && decide ks.Nodup
    | .Subscript (.Name y _) i' _ => c.gl y && tabB T y ks vs && chkE c i i' && noSlice i'
    | _ => false)
  | c, .dget ks vs i d, x => (match x with
    | .Call (.Attribute (.Dict k' v' _) y p) [i', d'] [] p2 => decide (y = ("get" : Str)) && chkE c i i' && chkE c d d' && noStar i' && noStar d' && (p.endLine == p2.line) && dictB k' v' ks vs && !k'.isEmpty && decide (ks.length ≤ 15) && decide ks.Nodup
    | _ => false)
  | c, .comp elt tg it cond own, x => (match x with
    | .ListComp elt' [⟨tg', it', ifs', 0⟩] scope _ => ((chkI c it it' && tgI it tg' && decide (scope.kind = .function) && ownOk c.N c.names scope.names own && decide (∀ i ∈ tg.is, i ∈ own) &&
      chkTg ⟨c.N, relN scope.names c.names, cellIn scope, false⟩ tg tg' && chkE ⟨c.N, relN scope.names c.names, cellIn scope, false⟩ elt elt' && chkC ⟨c.N, relN scope.names c.names, cellIn scope, false⟩ cond ifs' && notSet it') && !c.hot)
    | _ => false)
  | c, .comp2 elt tg it tg1 it1 own own1, x => (match x with
    | .ListComp elt' [⟨tg', it', [], 0⟩, ⟨tg1', it1', [], 0⟩] scope _ => ((chkI c it it' && tgI it tg' && decide (scope.kind = .function) && ownOk c.N c.names scope.names own && decide (∀ i ∈ tg.is, i ∈ own) &&
      chkTg ⟨c.N, relN scope.names c.names, cellIn scope, false⟩ tg tg' && chkE ⟨c.N, relN scope.names c.names, cellIn scope, false⟩ elt elt' && chkI ⟨c.N, relN scope.names c.names, cellIn scope, false⟩ it1 it1' && tgI it1 tg1' && decide (∀ i ∈ own1, i ∈ own) && decide (∀ i ∈ tg1.is, i ∈ own1) &&
      chkTg ⟨c.N, relN scope.names c.names, cellIn scope, false⟩ tg1 tg1' && notSet it' && notSet it1') && !c.hot)
    | _ => false)
def chkEs : Sc → List E → List Expr → Bool
  | c, [], [] => true
  | c, e :: es, x :: xs => chkE c e x && noStar x && chkEs c es xs
  | _, _, _ => false
def chkK : Sc → List E → List Keyword → Bool
  | c, [], [] => true
  | c, e :: es, x :: xs => chkE c e x.value && chkK c es xs
  | _, _, _ => false
def chkO : Sc → Option E → Option Expr → Bool
  | c, none, none => true
  | c, some e, some x => chkE c e x
  | _, _, _ => false
def chkC : Sc → Option E → List Expr → Bool
  | c, none, [] => true
  | c, some e, [x] => chkE c e x && tst x
  | _, _, _ => false
def chkI : Sc → I → Expr → Bool
  | c, .e e, x => chkE c e x
  | c, .rng1 a, x => (match x with
    | .Call (.Name y _) [a'] [] _ => decide (y = ("range" : Str)) && c.gl y && T.free.contains y && chkE c a a' && noStar a'
    | _ => false)
  | c, .rng2 a b, x => (match x with
    | .Call (.Name y _) [a', b'] [] _ => decide (y = ("range" : Str)) && c.gl y && T.free.contains y && chkE c a a' && noStar a' && chkE c b b' && noStar b'
    | _ => false)
  | c, .rng3 a b, x => (match x with
    | .Call (.Name y _) [a', b', .UnaryOp .USub (.Constant (.int k) _ _) _] [] _ => decide (y = ("range" : Str)) && c.gl y && T.free.contains y && chkE c a a' && noStar a' && chkE c b b' && noStar b' && (k == 1)
    | _ => false)
  | c, .enum e, x => (match x with
    | .Call (.Name y _) [a'] [] _ => decide (y = ("enumerate" : Str)) && c.gl y && T.free.contains y && chkE c e a' && noStar a'
    | _ => false)
  | c, .zip a b, x => (match x with
    | .Call (.Name y _) [a', b'] [] _ => decide (y = ("zip" : Str)) && c.gl y && T.free.contains y && chkE c a a' && noStar a' && chkE c b b' && noStar b'
    | _ => false)
end
end
/-! ### soundness -/
def tv (f : St → R D) : St → R D := fun r => (f r).bind fun y r => .of ((tru y).map .bl) r
structure Snd (X : Cx) (ca : Nat → Addr) (W : WX) (e : Expr) (f : St → R D) : Prop where
  qe : QE X ca W e f
  qt : tst e = true → QT X ca W e (tv f)
  qw : isB e = true → QW X ca W e (tv f)
section
variable {X : Cx} {ca : Nat → Addr} {W : WX} {pos : Pos} {e : Expr} {f g : St → R D}
def plainT : Expr → Bool
  | .UnaryOp op _ _ => (match op with
    | .Not => false
    | _ => true)
  | .BoolOp _ _ _ => false
  | .IfExp _ _ _ _ => false
  | .Compare _ _ _ _ => false
  | _ => true
theorem Snd.plain (h : QE X ca W e f) (hp : plainT e = true) : Snd X ca W e f := by
  refine ⟨h, fun _ => qt_plain h ?_, fun z => ?_⟩
  · intro whole
    cases e with
    | UnaryOp op a p => cases op <;> first | rfl | (simp [plainT] at hp)
    | BoolOp => simp [plainT] at hp
    | IfExp => simp [plainT] at hp
    | Compare => simp [plainT] at hp
    | _ => rfl
  · cases e with
    | BoolOp => simp [plainT] at hp
    | _ => simp [isB] at z
/-- a function that is the other one, or bad -/
def Le {α : Type} (f g : St → R α) : Prop := ∀ r, f r = .bad ∨ f r = g r
theorem QE.le (h : QE X ca W e g) (l : Le f g) : QE X ca W e f := PE.weak h fun σ H Q ⟨r, F, p, h⟩ => ⟨r, F, p, by rcases l r with z | z <;> rw [z] at h; exact h.elim; exact h⟩
theorem QT.le (h : QT X ca W e g) (l : Le f g) : QT X ca W e f := PT.weak h fun σ H Q ⟨r, F, p, h⟩ => ⟨r, F, p, by rcases l r with z | z <;> rw [z] at h; exact h.elim; exact h⟩
theorem QW.le (h : QW X ca W e g) (l : Le f g) : QW X ca W e f := PW.weak h fun σ H Q ⟨r, F, p, h⟩ => ⟨r, F, p, by rcases l r with z | z <;> rw [z] at h; exact h.elim; exact h⟩
theorem Le.of {α : Type} {f g : St → R α} (h : f = g) : Le f g := fun r => .inr (by rw [h])
theorem Snd.cmp {a : Expr} {ops : List CmpOp} {bs : List Expr} (h : QE X ca W (.Compare a ops bs pos) f) (h2 : QT X ca W (.Compare a ops bs pos) f) : Snd X ca W (.Compare a ops bs pos) f := ⟨h, fun _ => bt_of h2, fun z => by cases z⟩
theorem le_not : Le (tv fun r => (f r).bind fun x r => match x with | .bl b => .ok (.bl !b) r | _ => .bad) (fun r => (tv f r).bind fun x r => match x with | .bl b => .ok (.bl !b) r | _ => .bad) := by
  intro r
  unfold tv
  dsimp only
  cases f r with
  | bad => exact .inl rfl
  | exc x r1 => exact .inr rfl
  | ok d r1 => cases d <;> first | exact .inl rfl | exact .inr rfl
theorem le_ite {fa fb : St → R D} : Le (fun r => (f r).bind fun x r => match x with | .bl true => fa r | .bl false => fb r | _ => .bad) (fun r => (tv f r).bind fun x r => match x with | .bl true => fa r | .bl false => fb r | _ => .bad) := by
  intro r
  unfold tv
  dsimp only
  cases f r with
  | bad => exact .inl rfl
  | exc x r1 => exact .inr rfl
  | ok d r1 => cases d <;> first | exact .inl rfl | exact .inr rfl
theorem le_and {fa fb : St → R D} : Le (tv (andF fa fb)) (andF (tv fa) (tv fb)) := by
  intro r
  unfold tv andF
  dsimp only
  cases fa r with
  | bad => exact .inl rfl
  | exc x r1 => exact .inr rfl
  | ok d r1 =>
    cases d with
    | bl b =>
      cases b with
      | false => exact .inr rfl
      | true =>
        cases e : fb r1 with
        | bad => left; simp [R.bind, tru, R.of, e]
        | exc x r2 => right; simp [R.bind, tru, R.of, e]
        | ok d r2 => cases d <;> first | (left; simp [R.bind, tru, R.of, e]; done) | (right; simp [R.bind, tru, R.of, e]; done)
    | _ => exact .inl rfl
theorem le_or {fa fb : St → R D} : Le (tv (orF fa fb)) (orF (tv fa) (tv fb)) := by
  intro r
  unfold tv orF
  dsimp only
  cases fa r with
  | bad => exact .inl rfl
  | exc x r1 => exact .inr rfl
  | ok d r1 =>
    cases d with
    | bl b =>
      cases b with
      | true => exact .inr rfl
      | false =>
        cases e : fb r1 with
        | bad => left; simp [R.bind, tru, R.of, e]
        | exc x r2 => right; simp [R.bind, tru, R.of, e]
        | ok d r2 => cases d <;> first | (left; simp [R.bind, tru, R.of, e]; done) | (right; simp [R.bind, tru, R.of, e]; done)
    | _ => exact .inl rfl
theorem compB_tv {t : Tg} {fc fe : St → R D} {ow : List Nat} : compB t (tv fc) fe ow = compB t fc fe ow := by
  funext x r
  unfold compB tv
  cases setTg t x r with
  | none => rfl
  | some r1 =>
    dsimp only
    cases fc r1 with
    | bad => rfl
    | exc y r2 => rfl
    | ok d r2 => cases d <;> rfl
end

section
variable {X : Cx} {T : Tb} {C : Calls} {G : List D} {ca : Nat → Addr} {W : WX} {c : Sc}
theorem SemOk.blk (m : SemOk X T C G ca W) {s : Shared} {H : Hp} {scope : Scope} {cenv : Env} {fp : List Addr} : SemOk (X.blk s H scope cenv fp) T C G ca WF :=
  ⟨⟨m.ck.nd, m.ck.room⟩, m.glo, m.fn, m.fnq, m.free, fun u s' ⟨_, _, _, _, _, _, _, _, _, _, _, _, _, _, _, _, w⟩ => w.elim, m.dcs, m.xcs, m.xis, m.rm⟩
theorem relN_eq {scope sc : Scope} (h : sc.kind = .function) : (relS scope sc).names = relN scope.names sc.names := by
  unfold relS relN
  have e : (ScopeKind.function == ScopeKind.function) = true := rfl
  simp only [h, e, Bool.and_true]
theorem XOk.blk (o : XOk X c) (hc : X.calm = true) {s : Shared} {H : Hp} {scope : Scope} {cl : List (Str × Addr)} {Ca : Addr} {fp : List Addr} (hk : scope.kind = .function) :
    XOk (X.blk s H scope (compEnvC scope cl Ca X.env) fp) ⟨c.N, relN scope.names c.names, cellIn scope, false⟩ :=
  ⟨o.N, by rw [← o.names]; exact relN_eq o.kind, hk, fun _ z => z, fun _ => hc⟩
theorem SemOk.free' (m : SemOk X T C G ca W) {x : Str} (h : T.free.contains x = true) : X.mg x = none := m.free x (by simpa using h)
theorem evs_len {es : List E} : ∀ {r r' : St} {l : List D}, evs C G es r = .ok l r' → l.length = es.length := by
  induction es with
  | nil => intro r r' l h; simp only [evs] at h; cases h; rfl
  | cons e es ih =>
    intro r r' l h
    simp only [evs] at h
    cases e1 : ev C G e r with
    | bad => rw [e1] at h; cases h
    | exc x r1 => rw [e1] at h; cases h
    | ok d r1 =>
      rw [e1] at h
      dsimp only [R.bind] at h
      cases e2 : evs C G es r1 with
      | bad => rw [e2] at h; cases h
      | exc x r2 => rw [e2] at h; cases h
      | ok l2 r2 =>
        rw [e2] at h
        cases h
        simp [ih e2]
theorem chkEs_len : ∀ {es : List E} {xs : List Expr}, chkEs T c es xs = true → es.length = xs.length ∧ xs.all noStar = true
  | [], [], _ => ⟨rfl, rfl⟩
  | e :: es, x :: xs, h => by
    simp only [chkEs, Bool.and_eq_true] at h
    obtain ⟨a, b⟩ := chkEs_len h.2
    exact ⟨by simp [a], by simp only [List.all_cons, h.1.2, b]; rfl⟩
  | [], _ :: _, h | _ :: _, [], h => by simp [chkEs] at h
theorem chkK_len : ∀ {es : List E} {xs : List Keyword}, chkK T c es xs = true → es.length = xs.length
  | [], [], _ => rfl
  | e :: es, x :: xs, h => by
    simp only [chkK, Bool.and_eq_true] at h
    simp [chkK_len h.2]
  | [], _ :: _, h | _ :: _, [], h => by simp [chkK] at h
theorem blkOk_of {X : Cx} {scope : Scope} {own : List Nat} (o : XOk X c) (hk : scope.kind = .function) (h : ownOk c.N c.names scope.names own = true) : ∃ ow : List (Str × Nat), ow.map (·.2) = own ∧ BlkOk X.N X.env.scope scope ow := by
  simp only [ownOk, Bool.and_eq_true] at h
  obtain ⟨⟨⟨h1, h2⟩, h3⟩, h4⟩ := h
  refine ⟨own.map fun i => (c.N.getD i default, i), by rw [List.map_map]; exact List.map_id' own, ⟨hk, fun y hy => by simpa using (List.all_eq_true.mp h1) y hy, fun p hp => ?_, fun y hy e => ?_, fun y hy e => ?_⟩⟩
  · obtain ⟨i, hi, rfl⟩ := List.mem_map.mp hp
    obtain ⟨x, hx⟩ := Option.isSome_iff_exists.mp ((List.all_eq_true.mp h2) i hi)
    rw [o.N, hx, List.getD_eq_getElem?_getD, hx]
    rfl
  · have := (List.all_eq_true.mp h3) y hy
    rw [if_pos e] at this
    rw [o.names]
    simpa using this
  · have := (List.all_eq_true.mp h4) y hy
    rw [if_pos e] at this
    rw [o.N]
    rcases (Bool.or_eq_true _ _).mp this with z | z
    · obtain ⟨i, hi, e2⟩ := List.any_eq_true.mp z
      left
      rw [List.map_map]
      refine List.mem_map.mpr ⟨i, hi, ?_⟩
      have e2 : c.N[i]? = some y.1 := by simpa using e2
      show c.N.getD i default = y.1
      rw [List.getD_eq_getElem?_getD, e2]
      rfl
    · right
      simpa using z
theorem locN_ok {i : Nat} {e : Expr} (h : locN c i e = true) : ∃ x p, e = .Name x p ∧ c.loc i x = true := by
  cases e with
  | Name x p => exact ⟨x, p, rfl, h⟩
  | _ => cases h
theorem pgs_of {X : Cx} (o : XOk X c) (nd : X.N.Nodup) : ∀ {is : List Nat} {es : List Expr}, tgAll c is es = true → PGs X es (gAll is) ∧ (assignEach es X.env).length = is.length ∧ (assignEach es X.env).findIdx? (·.1) = none
  | [], [], _ => ⟨pgs_nil, rfl, rfl⟩
  | i :: is, e :: es, h => by
    simp only [tgAll, Bool.and_eq_true] at h
    obtain ⟨a, b, d⟩ := pgs_of o nd h.2
    obtain ⟨x, p, rfl, h1⟩ := locN_ok h.1
    obtain ⟨h2, h3, h4⟩ := o.loc h1
    refine ⟨pgs_cons (pg_name nd h2 h3 h4) a rfl, ?_, ?_⟩
    · show (assignEach es X.env).length + 1 = is.length + 1
      rw [b]
    · show List.findIdx? (·.1) ((false, assign (.Name x p) X.env) :: assignEach es X.env) = none
      rw [List.findIdx?_cons, d]
      rfl
  | [], _ :: _, h | _ :: _, [], h => by simp [tgAll] at h
theorem tg_of {X : Cx} (o : XOk X c) (hc : X.calm = true) (m : Ck X 0) {t : Tg} {e : Expr} (h : chkTg c t e = true) : PG X e (gTg X.K t) := by
  cases t with
  | one i =>
    obtain ⟨x, p, rfl, h1⟩ := locN_ok h
    obtain ⟨h2, h3, h4⟩ := o.loc h1
    exact pg_one m.nd h2 h3 h4
  | many is =>
    cases e with
    | Tuple es k p =>
      obtain ⟨a, b, d⟩ := pgs_of o m.nd h
      exact pg_or (pg_tup hc a b d) (pg_unl hc a b d)
    | _ => cases h
theorem noBehind {b : Bool} (h : (!b) = true) : b = false := by simpa using h

theorem inn_eq {a b : E} : ev C G (.inn a b) = fun r => (ev C G a r).bind fun x r => (ev C G b r).bind fun y r => .of (((inD x y).map fun b => if false then !b else b).map .bl) r := by
  funext r
  simp only [ev]
  congr 1
  funext x r
  congr 1
  funext y r
  congr 1
  cases inD x y <;> rfl
theorem nin_eq {a b : E} : ev C G (.nin a b) = fun r => (ev C G a r).bind fun x r => (ev C G b r).bind fun y r => .of (((inD x y).map fun b => if true then !b else b).map .bl) r := by
  funext r
  simp only [ev]
  congr 1
  funext x r
  congr 1
  funext y r
  congr 1
  cases inD x y <;> rfl
theorem qt_isT {X : Cx} {pos : Pos} {a : Expr} {fa : St → R D} {j : Nat} {p2 : Pos} (ha : QE X ca W a fa) : QT X ca W (.Compare a [.Is] [.Constant (.bool true) j p2] pos) (fun r => (fa r).bind fun x r => match x with | .bl b => .ok (.bl b) r | _ => .bad) := by
  refine PT.weak (pt_cmpR op_isB ha pe_bl rfl) fun σ H Q ⟨r, F, p, h⟩ => ⟨r, F, p, h.step fun x r1 v H1 F1 p1 q1 h => ?_⟩
  cases x with
  | bl b =>
    refine ⟨b, true, Rep.bl_iff.mp q1, rfl, _, rfl, h _ _ _ (Ps.refl p1.rp) ?_⟩
    cases b <;> rfl
  | _ => exact h.elim
theorem room1 (k : Ck X 0) : X.A.units + 1 < cLine := by have := k.room.un; omega
theorem pe_neg1 {X : Cx} {k : Nat} {p1 p2 : Pos} : PE X (.UnaryOp .USub (.Constant (.int 1) k p1) p2) (fun _ H Q => Q (.int (-1)) H) := PE.weak (pe_un un_neg pe_int) fun σ H Q h => ⟨1, rfl, h⟩
theorem comp_eq {elt : E} {tg : Tg} {it : I} {cond : Option E} {own : List Nat} : ev C G (.comp elt tg it cond own) = fun r => (compR (evi C G it) tg (tv (evc C G cond)) (ev C G elt) own r).bind fun d r => match d with | .lst l => .ok (.lst l) r | _ => .bad := by
  funext r
  simp only [ev, compR, compB_tv]
  cases evi C G it r with
  | bad => rfl
  | exc x r1 => rfl
  | ok xs r1 =>
    simp only [R.bind_ok]
    cases compL (compB tg (evc C G cond) (ev C G elt) own) xs [] (wipeS own r1) <;> rfl
theorem comp2_eq {elt : E} {tg tg1 : Tg} {it it1 : I} {own own1 : List Nat} : ev C G (.comp2 elt tg it tg1 it1 own own1) = fun r => (compR2 (evi C G it) tg (evi C G it1) tg1 (ev C G elt) own own1 r).bind fun d r => match d with | .lst l => .ok (.lst l) r | _ => .bad := by
  funext r
  simp only [ev, compR2]
  cases evi C G it r with
  | bad => rfl
  | exc x r1 => rfl
  | ok xs r1 =>
    simp only [R.bind_ok]
    cases compL2 tg (evi C G it1) tg1 (ev C G elt) own own1 xs [] (wipeS own r1) <;> rfl
theorem foldSet' {it : Expr} {env : Env} (h : notSet it = true) (x : Value) : foldedSetIterable it env x = pure x := by
  cases it <;> first | rfl | cases h
theorem comp_of {X : Cx} {W : WX} {pos : Pos} {scope : Scope} {ow : List (Str × Nat)} {tg : Tg} {tg' it' elt' : Expr} {ifs' : List Expr} {fi : St → R (List D)} {fe fc : St → R D} (o : XOk X c) (hc : X.calm = true) (m : SemOk X T C G ca W) (ok : BlkOk X.N X.env.scope scope ow) (h2 : scope.kind = .function)
    (h4 : ∀ i ∈ tg.is, i ∈ ow.map (·.2)) (h5 : chkTg ⟨c.N, relN scope.names c.names, cellIn scope, false⟩ tg tg' = true) (hi : QI X ca W tg' it' fi)
    (he : ∀ X', XOk X' ⟨c.N, relN scope.names c.names, cellIn scope, false⟩ → SemOk X' T C G ca WF → Snd X' ca WF elt' fe)
    (hf : ∀ X', XOk X' ⟨c.N, relN scope.names c.names, cellIn scope, false⟩ → SemOk X' T C G ca WF → PTs X' ifs' (tT X'.K ca WF fc))
    (h8 : notSet it' = true) : QO X ca W (.ListComp elt' [⟨tg', it', ifs', 0⟩] scope pos) (compR fi tg fc fe (ow.map (·.2))) :=
  o_comp hc m.ck.nd hi ok (fun s H Ca cl fp => tg_of (o.blk hc h2) hc m.blk.ck h5) (fun s H Ca cl fp => hf _ (o.blk hc h2) m.blk) (fun s H Ca cl fp => (he _ (o.blk hc h2) m.blk).qe)
    (fun x => by cases it' <;> first | rfl | cases h8) h4
theorem noBase2 {o : Expr} {nm : Str} {env : Env} (h : callee o = false) : attributeBase o nm env (eval o env) = eval o env := by
  cases o with
  | Call g as ks p =>
    cases as with
    | nil => simp [callee] at h
    | cons a as => cases g <;> rfl
  | _ => rfl
theorem beq_str {a b : Str} (h : (a == b) = true) : a = b := eq_of_beq h
theorem ns {b : Bool} (h : (!b) = true) : b = false := by simpa using h
mutual
theorem sndE : ∀ {e : E} {x : Expr} {X : Cx} {W : WX} {c : Sc}, XOk X c → SemOk X T C G ca W → chkE T c e x = true → Snd X ca W x (ev C G e)
  | .var i, x, X, W, c, o, m, h => by
    unfold chkE at h
    split at h <;> try contradiction
    obtain ⟨a, b, d, f⟩ := o.vis h
    exact .plain (q_var a b d f) rfl
  | .non, x, X, W, c, o, m, h => by
    unfold chkE at h
    split at h <;> try contradiction
    exact .plain q_none rfl
  | .bl b, x, X, W, c, o, m, h => by
    unfold chkE at h
    split at h <;> try contradiction
    rw [eq_of_beq h]
    exact .plain q_bool rfl
  | .int j, x, X, W, c, o, m, h => by
    unfold chkE at h
    split at h <;> try contradiction
    rw [eq_of_beq h]
    exact .plain q_int rfl
  | .str s, x, X, W, c, o, m, h => by
    unfold chkE at h
    split at h <;> try contradiction
    simp only [Bool.and_eq_true, decide_eq_true_eq] at h
    exact .plain (q_str (eq_of_beq h.1.1) ⟨h.1.2, by have := h.2; unfold LINE; omega⟩) rfl
  | .glo g, x, X, W, c, o, m, h => by
    unfold chkE at h
    split at h <;> try contradiction
    simp only [Bool.and_eq_true, decide_eq_true_eq] at h
    obtain ⟨d, v, u, e1, e2, e3, e4⟩ := m.glo _ _ h.2
    have e : ev C G (.glo g) = fun r => .ok d r := by
      funext r
      simp only [ev, e1, R.of_some]
    rw [e]
    exact .plain (q_glo (o.gl h.1).1 e2 e3 e4 (o.gl h.1).2) rfl
  | .lst es, x, X, W, c, o, m, h => by
    unfold chkE at h
    split at h <;> try contradiction
    exact .plain (q_lst (sndEs o m h)) rfl
  | .tup es, x, X, W, c, o, m, h => by
    unfold chkE at h
    split at h <;> try contradiction
    exact .plain (q_tup (sndEs o m h)) rfl
  | .bin k a b, x, X, W, c, o, m, h => by
    unfold chkE at h
    split at h <;> try contradiction
    simp only [Bool.and_eq_true, decide_eq_true_eq] at h
    obtain ⟨⟨h1, h2⟩, rfl⟩ := h
    obtain ⟨rd, z⟩ := opS_all (X := X) k
    exact .plain (q_bin z (sndE o m h1).qe (sndE o m h2).qe) rfl
  | .lmul es e, x, X, W, c, o, m, h => by
    unfold chkE at h
    split at h <;> try contradiction
    simp only [Bool.and_eq_true] at h
    exact .plain (q_lmul (sndEs o m h.1) (sndE o m h.2).qe) rfl
  | .neg a, x, X, W, c, o, m, h => by
    unfold chkE at h
    split at h <;> try contradiction
    exact .plain (q_neg (sndE o m h).qe) rfl
  | .cmp k a b, x, X, W, c, o, m, h => by
    unfold chkE at h
    split at h <;> try contradiction
    simp only [Bool.and_eq_true, decide_eq_true_eq] at h
    obtain ⟨⟨⟨h1, h2⟩, rfl⟩, h3⟩ := h
    obtain ⟨rd, z⟩ := cpS_all m.ck k
    exact .cmp (q_cmp z (sndE o m h1).qe (sndE o m h2).qe (ns h3)) (qt_cmp z (sndE o m h1).qe (sndE o m h2).qe (ns h3))
  | .cmp2 k l a b d, x, X, W, c, o, m, h => by
    unfold chkE at h
    split at h <;> try contradiction
    simp only [Bool.and_eq_true, decide_eq_true_eq] at h
    obtain ⟨⟨⟨⟨⟨h1, h2⟩, h3⟩, rfl⟩, rfl⟩, h4⟩ := h
    obtain ⟨rd, z⟩ := cpS_all m.ck k
    obtain ⟨rd', z'⟩ := cpS_all m.ck l
    exact .cmp (q_cmp2 z z' (sndE o m h1).qe (sndE o m h2).qe (sndE o m h3).qe (ns h4)) (qt_cmp2 z z' (sndE o m h1).qe (sndE o m h2).qe (sndE o m h3).qe (ns h4))
  | .isN a, x, X, W, c, o, m, h => by
    unfold chkE at h
    split at h <;> try contradiction
    exact .cmp (q_isN (sndE o m h).qe) (qt_isN (sndE o m h).qe)
  | .notN a, x, X, W, c, o, m, h => by
    unfold chkE at h
    split at h <;> try contradiction
    exact .cmp (q_notN (sndE o m h).qe) (qt_notN (sndE o m h).qe)
  | .isT a, x, X, W, c, o, m, h => by
    unfold chkE at h
    split at h <;> try contradiction
    exact .cmp (q_isT (sndE o m h).qe) (qt_isT (sndE o m h).qe)
  | .notT a, x, X, W, c, o, m, h => by
    unfold chkE at h
    split at h <;> try contradiction
    exact .cmp (q_notT (sndE o m h).qe) (qt_notT (sndE o m h).qe)
  | .eqv v neg e, x, X, W, c, o, m, h => by
    unfold chkE at h
    split at h <;> try contradiction
    simp only [Bool.and_eq_true, decide_eq_true_eq] at h
    obtain ⟨⟨⟨h1, h2⟩, h3⟩, h4⟩ := h
    subst h3
    obtain ⟨a, b, d, f⟩ := o.vis h1
    exact .cmp (q_eqv neg m.ck a b d f (sndE o m h2).qe (ns h4)) (qt_eqv neg m.ck a b d f (sndE o m h2).qe (ns h4))
  | .sidx o e, x, X, W, c, oo, m, h => by
    unfold chkE at h
    split at h <;> try contradiction
    simp only [Bool.and_eq_true, decide_eq_true_eq] at h
    obtain ⟨⟨⟨⟨⟨h1, h2⟩, h3⟩, h4⟩, h5⟩, h6⟩ := h
    subst h1
    rename_i a' _ _ _
    exact .plain (q_sidx m.ck (sndE oo m h2).qe (sndE oo m h3).qe h4 (noBase2 (ns h5)) h6) rfl
  | .srtk f a, x, X, W, c, o, m, h => by
    unfold chkE at h
    split at h <;> try contradiction
    simp only [Bool.and_eq_true, decide_eq_true_eq] at h
    have hc := o.calm (ns h.2)
    replace h := h.1
    obtain ⟨⟨⟨⟨⟨⟨⟨rfl, h1⟩, h2⟩, rfl⟩, h3⟩, h4⟩, h5⟩, h6⟩ := h
    obtain ⟨k, fa, fd, ps, e1, FO, hr, hm, hk, hb, _⟩ := m.fn hc _ _ _ h4
    match ps, e1, FO, hb with
    | [q], _, FO, hb => exact .plain (q_srtk FO hr hb (o.gl h1).1 (m.free' h2) (o.gl h3).1 hm (o.gl h3).2 (sndE o m h5).qe h6) rfl
  | .rngl a b, x, X, W, c, o, m, h => by
    unfold chkE at h
    split at h <;> try contradiction
    simp only [Bool.and_eq_true, decide_eq_true_eq] at h
    have hc := o.calm (ns h.2)
    replace h := h.1
    obtain ⟨⟨⟨⟨⟨⟨⟨⟨⟨rfl, h1⟩, h2⟩, rfl⟩, h3⟩, h4⟩, h5⟩, h6⟩, h7⟩, h8⟩ := h
    exact .plain (q_rngl hc (o.gl h1).1 (m.free' h2) (o.gl h3).1 (m.free' h4) (sndE o m h5).qe (sndE o m h6).qe h7 h8) rfl
  | .call0 f, x, X, W, c, o, m, h => by
    unfold chkE at h
    split at h <;> try contradiction
    simp only [Bool.and_eq_true, decide_eq_true_eq] at h
    have hc := o.calm (ns h.2)
    replace h := h.1
    obtain ⟨k, fa, fd, ps, e1, FO, hr, hm, hk, hb, _⟩ := m.fn hc _ _ _ h.2
    match ps, e1, FO, hb with
    | [], _, FO, hb => exact .plain (q_call0 FO (hr.mono (Nat.le_add_right _ 2)) (o.gl h.1).1 hm hk hb (o.gl h.1).2) rfl
  | .inn a b, x, X, W, c, o, m, h => by
    unfold chkE at h
    split at h <;> try contradiction
    simp only [Bool.and_eq_true] at h
    obtain ⟨⟨h1, h2⟩, h3⟩ := h
    obtain ⟨rd, z⟩ := inS_all m.ck false
    exact .cmp ((q_cmp z (sndE o m h1).qe (sndE o m h2).qe (ns h3)).le (.of (inn_eq))) ((qt_cmp z (sndE o m h1).qe (sndE o m h2).qe (ns h3)).le (.of inn_eq))
  | .nin a b, x, X, W, c, o, m, h => by
    unfold chkE at h
    split at h <;> try contradiction
    simp only [Bool.and_eq_true] at h
    obtain ⟨⟨h1, h2⟩, h3⟩ := h
    obtain ⟨rd, z⟩ := inS_all m.ck true
    exact .cmp ((q_cmp z (sndE o m h1).qe (sndE o m h2).qe (ns h3)).le (.of (nin_eq))) ((qt_cmp z (sndE o m h1).qe (sndE o m h2).qe (ns h3)).le (.of nin_eq))
  | .and a b, x, X, W, c, o, m, h => by
    unfold chkE at h
    split at h <;> try contradiction
    simp only [Bool.and_eq_true] at h
    obtain ⟨⟨h1, h2⟩, h3⟩ := h
    have sa := sndE o m h1
    rename_i a' b' xs p
    have sb : QE X ca W (.BoolOp .And (b' :: xs) p) (ev C G b) ∧ QW X ca W (.BoolOp .And (b' :: xs) p) (tv (ev C G b)) := by
      cases xs with
      | nil =>
        simp only [List.isEmpty_nil, if_true, Bool.and_eq_true] at h3
        have s := sndE o m h3.1
        exact ⟨q_one s.qe, qw_and1 (s.qt h3.2)⟩
      | cons y ys =>
        simp only [List.isEmpty_cons, Bool.false_eq_true, if_false] at h3
        have s := sndE o m h3
        exact ⟨s.qe, s.qw rfl⟩
    have w := (qw_and (sa.qt h2) sb.2).le le_and
    exact ⟨q_and1 sa.qe sb.1, fun _ => w.pt, fun _ => w⟩
  | .or a b, x, X, W, c, o, m, h => by
    unfold chkE at h
    split at h <;> try contradiction
    simp only [Bool.and_eq_true] at h
    obtain ⟨⟨h1, h2⟩, h3⟩ := h
    have sa := sndE o m h1
    rename_i a' b' xs p
    have sb : QE X ca W (.BoolOp .Or (b' :: xs) p) (ev C G b) ∧ QW X ca W (.BoolOp .Or (b' :: xs) p) (tv (ev C G b)) := by
      cases xs with
      | nil =>
        simp only [List.isEmpty_nil, if_true, Bool.and_eq_true] at h3
        have s := sndE o m h3.1
        exact ⟨q_one s.qe, qw_or1 (s.qt h3.2)⟩
      | cons y ys =>
        simp only [List.isEmpty_cons, Bool.false_eq_true, if_false] at h3
        have s := sndE o m h3
        exact ⟨s.qe, s.qw rfl⟩
    have w := (qw_or (sa.qt h2) sb.2).le le_or
    exact ⟨q_or1 sa.qe sb.1, fun _ => w.pt, fun _ => w⟩
  | .not a, x, X, W, c, o, m, h => by
    unfold chkE at h
    split at h <;> try contradiction
    simp only [Bool.and_eq_true] at h
    have sa := sndE o m h.1
    exact ⟨q_not sa.qe, fun _ => (qt_not (sa.qt h.2)).le le_not, fun z => by cases z⟩
  | .ite t a b, x, X, W, c, o, m, h => by
    unfold chkE at h
    split at h <;> try contradiction
    simp only [Bool.and_eq_true] at h
    obtain ⟨⟨⟨h1, h2⟩, h3⟩, h4⟩ := h
    exact ⟨(q_ite ((sndE o m h1).qt h2) (sndE o m h3).qe (sndE o m h4).qe).le le_ite, fun z => (by cases z), fun z => (by cases z)⟩
  | .idx a i, x, X, W, c, o, m, h => by
    unfold chkE at h
    split at h <;> try contradiction
    simp only [Bool.and_eq_true] at h
    exact .plain (q_idx (sndE o m h.1.1).qe (sndE o m h.1.2).qe h.2) rfl
  | .idxv v i, x, X, W, c, o, m, h => by
    unfold chkE at h
    split at h <;> try contradiction
    simp only [Bool.and_eq_true] at h
    obtain ⟨a, b, d, f⟩ := o.vis h.1.1
    exact .plain (q_idxv a b d f (sndE o m h.1.2).qe h.2) rfl
  | .sli a lo hi, x, X, W, c, o, m, h => by
    unfold chkE at h
    split at h <;> try contradiction
    simp only [Bool.and_eq_true] at h
    exact .plain (q_sli (sndE o m h.1.1).qe (sndO o m h.1.2) (sndO o m h.2)) rfl
  | .rev a, x, X, W, c, o, m, h => by
    unfold chkE at h
    split at h <;> try contradiction
    simp only [Bool.and_eq_true] at h
    obtain ⟨⟨h1, h2⟩, h3⟩ := h
    have e := eq_of_beq h3
    subst e
    refine .plain (q_revA (sndE o m h1).qe ?_) rfl
    intro u v
    rename_i a' _ _ _ _ _
    cases a' with
    | Name => rfl
    | _ => cases h2
  | .bi b es, x, X, W, c, o, m, h => by
    unfold chkE at h
    split at h <;> try contradiction
    simp only [Bool.and_eq_true, decide_eq_true_eq] at h
    have hc := o.calm (ns h.2)
    replace h := h.1
    obtain ⟨⟨⟨rfl, h1⟩, h2⟩, h3⟩ := h
    exact .plain (q_bi hc (o.gl h1).1 (m.free' h2) (sndEs o m h3) (chkEs_len h3).2) rfl
  | .lenv v, x, X, W, c, o, m, h => by
    unfold chkE at h
    split at h <;> try contradiction
    simp only [Bool.and_eq_true, decide_eq_true_eq] at h
    obtain ⟨⟨⟨rfl, h1⟩, h2⟩, h3⟩ := h
    obtain ⟨a, b, d, f⟩ := o.vis h3
    exact .plain (q_lenv a b d f (o.gl h1).1 (m.free' h2)) rfl
  | .isi a t, x, X, W, c, o, m, h => by
    unfold chkE at h
    split at h <;> try contradiction
    simp only [Bool.and_eq_true, decide_eq_true_eq] at h
    obtain ⟨⟨⟨⟨⟨⟨⟨⟨rfl, h1⟩, h2⟩, h3⟩, rfl⟩, h4⟩, h5⟩, h6⟩, h7⟩ := h
    exact .plain (q_isi h3 (o.gl h1).1 (m.free' h2) (o.gl h4).1 (m.free' h5) (sndE o m h6).qe h7) rfl
  | .mt k a b, x, X, W, c, o, m, h => by
    unfold chkE at h
    split at h <;> try contradiction
    simp only [Bool.and_eq_true, decide_eq_true_eq] at h
    obtain ⟨⟨⟨⟨⟨h0, h1⟩, h2⟩, h3⟩, h4⟩, h5⟩ := h
    subst h0
    rename_i a' _ b' _
    have hb : ∀ nm : Str, attributeBase a' nm X.env (eval a' X.env) = eval a' X.env := fun nm => by
      cases a' with
      | Call g as ks p =>
        cases as with
        | nil => simp [callee] at h1
        | cons a as => cases g <;> rfl
      | _ => rfl
    cases k with
    | index => exact .plain (q_sindex (sndE o m h3).qe (sndE o m h4).qe h5 (hb _) h2) rfl
    | join => exact .plain (q_join (sndE o m h3).qe (sndE o m h4).qe h5 (hb _) h2) rfl
    | count => exact .plain (q_scount (sndE o m h3).qe (sndE o m h4).qe h5 (hb _) h2) rfl
  | .call f es, x, X, W, c, o, m, h => by
    unfold chkE at h
    split at h <;> try contradiction
    simp only [Bool.and_eq_true, decide_eq_true_eq] at h
    obtain ⟨⟨h1, h2⟩, h3⟩ := h
    cases hh : c.hot with
    | true =>
      rw [hh, if_pos rfl] at h2
      obtain ⟨k, fa, fd, ps, e1, FO, hr, hm, hk, hb⟩ := m.fnq _ _ _ h2
      exact .plain (q_callq m.tk FO (hr.mono (Nat.le_add_right _ 2)) (o.gl h1).1 hm hk hb (o.gl h1).2 (sndEs o m h3) (chkEs_len h3).2 fun r l r' z => by rw [evs_len z, e1]) rfl
    | false =>
    have hc := o.calm hh
    rw [hh, if_neg (by decide)] at h2
    obtain ⟨k, fa, fd, ps, e1, FO, hr, hm, hk, hb, _⟩ := m.fn hc _ _ _ h2
    exact .plain (q_call m.tk FO (hr.mono (Nat.le_add_right _ 2)) (o.gl h1).1 hm hk hb (o.gl h1).2 (sndEs o m h3) (chkEs_len h3).2 fun r l r' z => by rw [evs_len z, e1]) rfl
  | .callio f v es, x, X, W, c, o, m, h => by
    unfold chkE at h
    split at h <;> try contradiction
    simp only [Bool.and_eq_true, decide_eq_true_eq] at h
    have hc := o.calm (ns h.2)
    replace h := h.1
    obtain ⟨⟨⟨h1, h2⟩, h3⟩, h4⟩ := h
    obtain ⟨k, fa, fd, ps, e1, FO, hr, hm, hk, hb, _⟩ := m.fn hc _ _ _ h2
    obtain ⟨a, b, d, g⟩ := o.vis h3
    exact .plain (q_callio m.tk FO (hr.mono (Nat.le_add_right _ 2)) (o.gl h1).1 hm hk hb (o.gl h1).2 a b d g (sndEs o m h4) (chkEs_len h4).2 fun r l r' z => by rw [evs_len z, e1]) rfl
  | .callk f es ks, x, X, W, c, o, m, h => by
    unfold chkE at h
    split at h <;> try contradiction
    simp only [Bool.and_eq_true, decide_eq_true_eq] at h
    have hc := o.calm (ns h.2)
    replace h := h.1
    obtain ⟨⟨⟨⟨⟨h1, h2⟩, h3⟩, h4⟩, h5⟩, h6⟩ := h
    split at h2 <;> try contradiction
    rename_i q hq
    obtain ⟨y, np⟩ := q
    have h2 := of_decide_eq_true h2
    dsimp only at h2
    subst h2
    obtain ⟨k, fa, fd, ps, e1, FO, hr, hm, hk, hb, hkb, _⟩ := m.fn hc _ _ _ hq
    obtain ⟨e2, e3⟩ := hkb _ _ h5
    exact .plain (q_callk FO (hr.mono (Nat.le_add_right _ 2)) (o.gl h1).1 hm hk e3 (o.gl h1).2 (sndK o m h6) h3 rfl (fun r l r' z => by rw [evs_len z, h4]) (by rw [e2, e1])) rfl
  | .isx a ks t, x, X, W, c, o, m, h => by
    unfold chkE at h
    split at h <;> try contradiction
    simp only [Bool.and_eq_true, decide_eq_true_eq, Bool.or_eq_true] at h
    obtain ⟨⟨⟨⟨⟨⟨⟨rfl, h1⟩, h2⟩, h3⟩, h4⟩, h5⟩, rfl⟩, h6⟩ := h
    refine .plain (q_isx m.xcs ?_ (o.gl h1).1 (m.free' h2) (o.gl h5).1 (o.gl h5).2 (sndE o m h3).qe h4) rfl
    rcases h6 with ⟨h7, h8⟩ | ⟨⟨h7, h8⟩, h9⟩
    · have h7 : t ∈ T.xcs := by simpa using h7
      exact .inl ⟨h7, h8, by rw [h8]; exact (m.xcs t h7).g⟩
    · exact .inr ⟨h7, h8, m.free' h9⟩
  | .lcnt o e, x, X, W, c, oo, m, h => by
    unfold chkE at h
    split at h <;> try contradiction
    simp only [Bool.and_eq_true, decide_eq_true_eq] at h
    obtain ⟨⟨⟨⟨⟨h1, h2⟩, h3⟩, h4⟩, h5⟩, h6⟩ := h
    subst h1
    exact .plain (q_lcnt m.ck (sndE oo m h2).qe (sndE oo m h3).qe h4 (noBase2 (ns h5)) h6) rfl
  | .tupOr a b, x, X, W, c, o, m, h => by
    unfold chkE at h
    split at h <;> try contradiction
    simp only [Bool.and_eq_true, decide_eq_true_eq] at h
    obtain ⟨⟨⟨⟨⟨rfl, h1⟩, h2⟩, h3⟩, h4⟩, h5⟩ := h
    refine .plain ((q_bi (b := .tuple) (o.calm (ns h5)) (o.gl h1).1 (m.free' h2) (qa_cons (q_orL (sndE o m h3).qe (sndE o m h4).qe) qa_nil rfl) rfl).le fun r => ?_) rfl
    simp only [ev]
    show (orF' (ev C G a) (ev C G b) r).bind _ = _ ∨ _ = ((orF' (ev C G a) (ev C G b) r).bind _).bind _
    cases orF' (ev C G a) (ev C G b) r with
    | bad => exact .inl rfl
    | exc x r1 => exact .inr rfl
    | ok d r1 => cases d <;> first | exact .inr rfl | exact .inl rfl
  | .lens a, x, X, W, c, o, m, h => by
    unfold chkE at h
    split at h <;> try contradiction
    simp only [Bool.and_eq_true, decide_eq_true_eq] at h
    obtain ⟨⟨⟨⟨⟨⟨⟨⟨rfl, h1⟩, h2⟩, rfl⟩, h3⟩, h4⟩, h5⟩, h6⟩, h7⟩ := h
    exact .plain (q_lens (o.calm (ns h7)) m.ck (o.gl h1).1 (m.free' h2) (o.gl h3).1 (m.free' h4) (sndE o m h5).qe h6) rfl
  | .lenc v p j, x, X, W, c, o, m, h => by
    unfold chkE at h
    split at h <;> try contradiction
    simp only [Bool.and_eq_true, decide_eq_true_eq] at h
    have hc := o.calm (ns h.2)
    replace h := h.1
    obtain ⟨⟨⟨⟨⟨⟨⟨⟨⟨rfl, h1⟩, h2⟩, rfl⟩, h3⟩, h4⟩, h5⟩, h6⟩, h7⟩, h8⟩ := h
    obtain ⟨ow, eo, ok⟩ := blkOk_of o h4 h5
    obtain ⟨v1, v2, v3, v4⟩ := o.vis h3
    refine .plain (q_lenc (j := j) (fe := fun r => if (pkv p r).isSome then (rdv j r).bind fun y r => .of ((pkv p r).bind fun x => idxD x y) r else .bad) hc m.ck (o.gl h1).1 (m.free' h2) v1 v2 v3 v4 ok eo (fun s H Ca cl fp => tg_of (o.blk hc h4) hc m.blk.ck h6) (fun s H Ca cl fp => ?_) fun d i r mm e1 e2 e3 => ?_) rfl
    · obtain ⟨a1, a2, a3, a4⟩ := (o.blk (s := s) (H := H) (cl := cl) (Ca := Ca) (fp := fp) hc h4).vis h7
      obtain ⟨b1, b2, b3, b4⟩ := (o.blk (s := s) (H := H) (cl := cl) (Ca := Ca) (fp := fp) hc h4).vis h8
      exact q_idxv (fb := rdv j) a1 a2 a3 a4 (q_var b1 b2 b3 b4) rfl
    · simp [pkv, rdv, e1, e2, e3, R.bind, R.of]
  | .isov v t, x, X, W, c, o, m, h => by
    unfold chkE at h
    split at h <;> try contradiction
    simp only [Bool.and_eq_true, decide_eq_true_eq] at h
    obtain ⟨⟨⟨⟨⟨⟨⟨rfl, h1⟩, h2⟩, h3⟩, rfl⟩, h4⟩, h5⟩, h6⟩ := h
    obtain ⟨v1, v2, v3, v4⟩ := o.vis h6
    exact .plain (q_isov h3 (o.gl h1).1 (m.free' h2) (o.gl h4).1 (m.free' h5) v1 v2 v3 v4) rfl
  | .xfld a k, x, X, W, c, o, m, h => by
    unfold chkE at h
    split at h <;> try contradiction
    simp only [Bool.and_eq_true, decide_eq_true_eq] at h
    obtain ⟨⟨⟨⟨h1, h2⟩, h3⟩, h4⟩, h5⟩ := h
    have h3 : k ∈ T.xcs := by simpa using h3
    have xf := m.xcs k h3
    subst h5
    exact .plain (q_xfld ⟨xf.ec.hg, xf.ec.hk, xf.ec.hs, xf.ec.hd⟩ (xf.no h4) rfl (sndE o m h1).qe (noBase2 (ns h2))) rfl
  | .rep1 v, x, X, W, c, o, m, h => by (unfold chkE at h; simp at h)
  | .wfr v w g i ks vs, x, X, W, c, o, m, h => by
    unfold chkE at h
    split at h <;> try contradiction
    simp only [Bool.and_eq_true, decide_eq_true_eq] at h
    have hc := o.calm (ns h.2)
    replace h := h.1
    obtain ⟨h, h22⟩ := h
    obtain ⟨h, h21⟩ := h
    obtain ⟨h, h20⟩ := h
    obtain ⟨h, h19⟩ := h
    obtain ⟨h, h18⟩ := h
    obtain ⟨h, h17⟩ := h
    obtain ⟨h, h16⟩ := h
    obtain ⟨h, h15⟩ := h
    obtain ⟨h, h14⟩ := h
    obtain ⟨h, h13⟩ := h
    obtain ⟨h, h12⟩ := h
    obtain ⟨h, h11⟩ := h
    obtain ⟨h, h10⟩ := h
    obtain ⟨h, h9⟩ := h
    obtain ⟨⟨⟨⟨⟨⟨⟨rfl, rfl⟩, rfl⟩, rfl⟩, rfl⟩, rfl⟩, rfl⟩, h8⟩ := h
    unfold tabB at h12
    split at h12
    · rename_i q hq
      obtain ⟨k2, cs⟩ := q
      simp only [Bool.and_eq_true, decide_eq_true_eq] at h12
      obtain ⟨rfl, h5⟩ := h12
      rw [cs_eq h5]
      obtain ⟨a, e1, e2⟩ := m.dcs _ _ _ hq
      obtain ⟨ow, eo, ok⟩ := blkOk_of o h13 h14
      obtain ⟨v1, v2, v3, v4⟩ := o.vis h9
      have o0 : ∀ (s : Shared) (H : Hp) (Ca : Addr) (cl : List (Str × Addr)) (fp : List Addr), XOk (X.blk s H _ (compEnvC _ cl Ca X.env) fp) ⟨c.N, relN _ c.names, cellIn _, false⟩ := fun s H Ca cl fp => o.blk hc h13
      have w1 := (o0 X.s_0 (fun _ => none) 0 [] []).vis h16
      have d1 := (o0 X.s_0 (fun _ => none) 0 [] []).gl h17
      refine ⟨q_wfr hc m.ck.nd (o.gl h10).1 (m.glo _ _ h11) ok (by rw [o.N]; exact h18) v1 w1.1 v2 (by rw [eo]; simpa using h21) (by rw [eo]; simpa using h22) (by rw [eo]; simp) h21 h22
        (fun s H Ca cl fp => ⟨by rw [(o0 s H Ca cl fp).names]; exact h19, ((o0 s H Ca cl fp).vis h15).2.1, ((o0 s H Ca cl fp).vis h16).2.1, ((o0 s H Ca cl fp).gl h17).1⟩) e1 e2 (o.gl h10).2 (okN_iff h20).1 v3 w1.2.2.1 d1.2 v4 w1.2.2.2 h8, fun z => (by cases z), fun z => (by cases z)⟩
    · cases h12
  | .dsub ks vs i, x, X, W, c, o, m, h => by
    unfold chkE at h
    split at h
    · simp only [Bool.and_eq_true, decide_eq_true_eq] at h
      obtain ⟨⟨⟨⟨⟨h1, h2⟩, h3⟩, h4⟩, h5⟩, h6⟩ := h
      exact .plain (q_dsub (room1 m.ck) h3 (fun z => by rw [z] at h4; cases h4) h5 h6 (sndE o m h1).qe h2) rfl
    · simp only [Bool.and_eq_true] at h
      obtain ⟨⟨⟨h1, h2⟩, h3⟩, h4⟩ := h
      unfold tabB at h2
      split at h2
      · rename_i q hq
        obtain ⟨k2, cs⟩ := q
        simp only [Bool.and_eq_true, decide_eq_true_eq] at h2
        obtain ⟨rfl, h5⟩ := h2
        rw [cs_eq h5]
        obtain ⟨a, e1, e2⟩ := m.dcs _ _ _ hq
        exact .plain (q_dtab (o.gl h1).1 e1 (o.gl h1).2 e2 (sndE o m h3).qe h4) rfl
      · cases h2
    · cases h
  | .dget ks vs i d, x, X, W, c, o, m, h => by
    unfold chkE at h
    split at h <;> try contradiction
    simp only [Bool.and_eq_true, decide_eq_true_eq] at h
    obtain ⟨⟨⟨⟨⟨⟨⟨⟨⟨rfl, h1⟩, h2⟩, h3⟩, h4⟩, h5⟩, h6⟩, h7⟩, h8⟩, h9⟩ := h
    exact .plain (q_dget (room1 m.ck) h6 (fun z => by rw [z] at h7; cases h7) h8 h9 (sndE o m h1).qe (sndE o m h2).qe h3 h4 h5) rfl
  | .comp elt tg it cond own, x, X, W, c, o, m, h => by
    unfold chkE at h
    split at h <;> try contradiction
    simp only [Bool.and_eq_true, decide_eq_true_eq] at h
    have hc := o.calm (ns h.2)
    replace h := h.1
    obtain ⟨⟨⟨⟨⟨⟨⟨⟨h1, ht⟩, h2⟩, h3⟩, h4⟩, h5⟩, h6⟩, h7⟩, h8⟩ := h
    obtain ⟨ow, e1, ok⟩ := blkOk_of o h2 h3
    subst e1
    exact .plain ((o_share (comp_of o hc m ok h2 h4 h5 (sndI o m h1 ht) (fun X' o' m' => sndE o' m' h6) (fun X' o' m' => sndC o' m' h7) h8)).le (.of comp_eq)) rfl
  | .comp2 elt tg it tg1 it1 own own1, x, X, W, c, o, m, h => by
    unfold chkE at h
    split at h <;> try contradiction
    simp only [Bool.and_eq_true, decide_eq_true_eq] at h
    have hc := o.calm (ns h.2)
    replace h := h.1
    obtain ⟨⟨⟨⟨⟨⟨⟨⟨⟨⟨⟨⟨⟨h1, ht⟩, h2⟩, h3⟩, h4⟩, h5⟩, h6⟩, i1⟩, i2⟩, i3⟩, i4⟩, i5⟩, i6⟩, i7⟩ := h
    obtain ⟨ow, e1, ok⟩ := blkOk_of o h2 h3
    subst e1
    exact .plain ((o_share (o_comp2 hc m.ck.nd (sndI o m h1 ht) ok i3 (fun s H Ca cl fp => tg_of (o.blk hc h2) hc m.blk.ck h5) (fun s H Ca cl fp => sndI (o.blk hc h2) m.blk i1 i2) (fun s H Ca cl fp => tg_of (o.blk hc h2) hc m.blk.ck i5)
      (fun s H Ca cl fp => (sndE (o.blk hc h2) m.blk h6).qe) (fun x => foldSet' i6 x) (fun env x => foldSet' i7 x) h4 i4)).le (.of comp2_eq)) rfl
theorem sndEs : ∀ {es : List E} {xs : List Expr} {X : Cx} {W : WX} {c : Sc}, XOk X c → SemOk X T C G ca W → chkEs T c es xs = true → QA X ca W xs (evs C G es)
  | [], [], X, W, c, o, m, h => qa_nil
  | e :: es, x :: xs, X, W, c, o, m, h => by
    simp only [chkEs, Bool.and_eq_true] at h
    exact qa_cons (sndE o m h.1.1).qe (sndEs o m h.2) h.1.2
  | [], _ :: _, X, W, c, o, m, h | _ :: _, [], X, W, c, o, m, h => by simp [chkEs] at h
theorem sndK : ∀ {es : List E} {xs : List Keyword} {X : Cx} {W : WX} {c : Sc}, XOk X c → SemOk X T C G ca W → chkK T c es xs = true → QK X ca W xs (evs C G es)
  | [], [], X, W, c, o, m, h => qk_nil
  | e :: es, ⟨nm, x, p⟩ :: xs, X, W, c, o, m, h => by
    simp only [chkK, Bool.and_eq_true] at h
    exact qk_cons (sndE o m h.1).qe (sndK o m h.2)
  | [], _ :: _, X, W, c, o, m, h | _ :: _, [], X, W, c, o, m, h => by simp [chkK] at h
theorem sndO : ∀ {es : Option E} {xs : Option Expr} {X : Cx} {W : WX} {c : Sc}, XOk X c → SemOk X T C G ca W → chkO T c es xs = true → PO X xs (tO X.K ca W (evo C G es))
  | none, none, X, W, c, o, m, h => qo_none
  | some e, some x, X, W, c, o, m, h => by
    simp only [chkO] at h
    exact qo_some (sndE o m h).qe
  | none, some _, X, W, c, o, m, h | some _, none, X, W, c, o, m, h => by simp [chkO] at h
theorem sndC : ∀ {es : Option E} {xs : List Expr} {X : Cx} {W : WX} {c : Sc}, XOk X c → SemOk X T C G ca W → chkC T c es xs = true → PTs X xs (tT X.K ca W (tv (evc C G es)))
  | none, [], X, W, c, o, m, h => pts_no
  | some e, [x], X, W, c, o, m, h => by
    simp only [chkC, Bool.and_eq_true] at h
    exact pts_one ((sndE o m h.1).qt h.2)
  | none, _ :: _, X, W, c, o, m, h | some _, [], X, W, c, o, m, h | some _, _ :: _ :: _, X, W, c, o, m, h => by simp [chkC] at h
theorem sndI : ∀ {i : I} {x : Expr} {X : Cx} {W : WX} {c : Sc} {tg : Expr}, XOk X c → SemOk X T C G ca W → chkI T c i x = true → tgI i tg = true → QI X ca W tg x (evi C G i)
  | .e e, x, X, W, c, tg, o, m, h, ht => by
    simp only [chkI] at h
    exact qi_e (sndE o m h).qe
  | .rng1 a, x, X, W, c, tg, o, m, h, ht => by
    simp only [chkI] at h
    split at h <;> try contradiction
    simp only [Bool.and_eq_true, decide_eq_true_eq] at h
    obtain ⟨⟨⟨⟨rfl, h1⟩, h2⟩, h3⟩, h4⟩ := h
    exact qi_rng1 (o.gl h1).1 (m.free' h2) (sndE o m h3).qe h4
  | .rng2 a b, x, X, W, c, tg, o, m, h, ht => by
    simp only [chkI] at h
    split at h <;> try contradiction
    simp only [Bool.and_eq_true, decide_eq_true_eq] at h
    obtain ⟨⟨⟨⟨⟨⟨rfl, h1⟩, h2⟩, h3⟩, h4⟩, h5⟩, h6⟩ := h
    exact qi_rng2 (o.gl h1).1 (m.free' h2) (sndE o m h3).qe (sndE o m h5).qe h4 h6
  | .rng3 a b, x, X, W, c, tg, o, m, h, ht => by
    simp only [chkI] at h
    split at h <;> try contradiction
    simp only [Bool.and_eq_true, decide_eq_true_eq] at h
    obtain ⟨⟨⟨⟨⟨⟨⟨rfl, h1⟩, h2⟩, h3⟩, h4⟩, h5⟩, h6⟩, h7⟩ := h
    have e := eq_of_beq h7
    subst e
    exact qi_rng3 (o.gl h1).1 (m.free' h2) (sndE o m h3).qe (sndE o m h5).qe (pe_neg1) h4 h6 rfl
  | .enum e, x, X, W, c, tg, o, m, h, ht => by
    simp only [chkI] at h
    split at h <;> try contradiction
    simp only [Bool.and_eq_true, decide_eq_true_eq] at h
    obtain ⟨⟨⟨⟨rfl, h1⟩, h2⟩, h3⟩, h4⟩ := h
    cases tg <;> first | (simp [tgI, isTup] at ht; done) | skip
    exact qi_enum (o.gl h1).1 (m.free' h2) (sndE o m h3).qe h4
  | .zip a b, x, X, W, c, tg, o, m, h, ht => by
    simp only [chkI] at h
    split at h <;> try contradiction
    simp only [Bool.and_eq_true, decide_eq_true_eq] at h
    obtain ⟨⟨⟨⟨⟨⟨rfl, h1⟩, h2⟩, h3⟩, h4⟩, h5⟩, h6⟩ := h
    cases tg <;> first | (simp [tgI, isTup] at ht; done) | skip
    exact qi_zip (o.gl h1).1 (m.free' h2) (sndE o m h3).qe (sndE o m h5).qe h4 h6
end
/-- expressions whose list is new -/
def chkOw (T : Tb) (c : Sc) : E → Expr → Bool
  | .srtk f a, x => chkE T c (.srtk f a) x
  | .call f es, x => chkE T c (.call f es) x && (T.fno.contains f && !c.hot)
  | _, _ => false
theorem sndOw {e : E} {x : Expr} {X : Cx} {W : WX} {c : Sc} (o : XOk X c) (m : SemOk X T C G ca W) (h : chkOw T c e x = true) : QO X ca W x (ev C G e) := by
  cases e with
  | srtk f a =>
    simp only [chkOw] at h
    unfold chkE at h
    split at h <;> try contradiction
    simp only [Bool.and_eq_true, decide_eq_true_eq] at h
    have hc := o.calm (ns h.2)
    replace h := h.1
    obtain ⟨⟨⟨⟨⟨⟨⟨rfl, h1⟩, h2⟩, rfl⟩, h3⟩, h4⟩, h5⟩, h6⟩ := h
    obtain ⟨k, fa, fd, ps, e1, FO, hr, hm, hk, hb, _⟩ := m.fn hc _ _ _ h4
    match ps, e1, FO, hb with
    | [q], _, FO, hb => exact o_srtk FO hr hb (o.gl h1).1 (m.free' h2) (o.gl h3).1 hm (o.gl h3).2 (sndE o m h5).qe h6
  | call f es =>
    simp only [chkOw, Bool.and_eq_true] at h
    obtain ⟨h, ho, hh⟩ := h
    have hc := o.calm (ns hh)
    unfold chkE at h
    split at h <;> try contradiction
    simp only [Bool.and_eq_true, decide_eq_true_eq] at h
    obtain ⟨⟨h1, h2⟩, h3⟩ := h
    rw [ns hh, if_neg (by decide)] at h2
    obtain ⟨k, fa, fd, ps, e1, _, hr, hm, hk, hb, _, FO⟩ := m.fn hc _ _ _ h2
    exact o_call m.tk (FO ho) (hr.mono (Nat.le_add_right _ 2)) (o.gl h1).1 hm hk hb (o.gl h1).2 (sndEs o m h3) (chkEs_len h3).2 fun r l r' z => by rw [evs_len z, e1]
  | _ => simp [chkOw] at h
end
end Z

/-! Z14: the checker of statements and defs; soundness -/
namespace Z
open PySem PySem.Spec PyProof.Rows L2 TL

def swB (names : List (Str × NameKind)) (x : Str) (px vp : Pos) (sn : List (Str × NameKind)) : Bool :=
  (names.lookup x == some .local) && px.line == vp.line && !(sn.any fun (n, k) => n == x && (k == .local || k == .cell))
def isComp : E → Bool
  | .comp _ _ _ _ _ => true
  | _ => false
/-- how the stores of a tuple of targets go: 0 by a tuple, 1 swapped, 2 not told -/
def lcl (names : List (Str × NameKind)) (line : Nat) : Expr → Option Str
  | .Name id pos => if names.lookup id == some .local && pos.line == line then some id else none
  | _ => none
def isStar : Expr → Bool
  | .Starred .. => true
  | _ => false
def swpK (names : List (Str × NameKind)) (ts vs : List Expr) : Nat :=
  if !(ts.length == 2 || ts.length == 3) || vs.length != ts.length then 0
  else if vs.any isStar then 0
  else if (ts.filterMap (lcl names ((ts.head?.map (·.pos.line)).getD 0))).length != ts.length || (ts.filterMap (lcl names ((ts.head?.map (·.pos.line)).getD 0))).eraseDups.length != (ts.filterMap (lcl names ((ts.head?.map (·.pos.line)).getD 0))).length then 0
  else if vs.all (foldedForSure 8) then 0
  else if vs.all (constantsAlone 8) then 2
  else 1
def swpOk (c : Sc) (is : List Nat) (ts vs : List Expr) : Bool := match is, ts, vs with
  | [i, j], [.Name x _, .Name y _], [_, _] => decide (i ≠ j) && decide (c.names.lookup x = some .local) && decide (c.names.lookup y = some .local)
  | [i, j, k], [.Name x _, .Name y _, .Name z _], [_, _, _] => decide (i ≠ j) && decide (i ≠ k) && decide (j ≠ k) && decide (c.names.lookup x = some .local) && decide (c.names.lookup y = some .local) && decide (c.names.lookup z = some .local)
  | _, _, _ => false
def noSeq : Expr → Bool
  | .Tuple _ _ _ => false
  | .List _ _ => false
  | _ => true
/-- a, b = v[k], ..; if A or not f(b.replace("?", "-")) or B: return .. -/
def chkV (T : Tb) (c : Sc) (s s2 : S) (x x2 : Stmt) : Bool := match s, s2, x, x2 with
  | .par [i, j] [e1, e2], .cond (.or a (.or (.not (.call f [.rep1 t])) b)) [.ret r] [], .Assign [.Tuple [.Name n1 px, .Name n2 py] kt pt] (.Tuple [.Subscript a1 (.Constant (.int k1) j1 p1) p1', v2] k2 pt2) _,
    .If (.BoolOp .Or [a', .UnaryOp .Not (.Call (.Name y _) [.Call (.Attribute (.Name tx _) z p) [.Constant (.str z0) _ _, .Constant (.str z1) _ _] [] p2] [] _) _, b'] _) [.Return (some r') _] [] _ =>
    decide (z = ("replace" : Str)) && decide (z0 = ("?" : Str)) && decide (z1 = ("-" : Str)) && chkE T c e1 (.Subscript a1 (.Constant (.int k1) j1 p1) p1') && chkE T c e2 v2 && noStar v2 && locN c i (.Name n1 px) && locN c j (.Name n2 py) && (decide (swpK c.names [.Name n1 px, .Name n2 py] [.Subscript a1 (.Constant (.int k1) j1 p1) p1', v2] = 0) || (decide (swpK c.names [.Name n1 px, .Name n2 py] [.Subscript a1 (.Constant (.int k1) j1 p1) p1', v2] = 1) && decide (i ≠ j) && decide (c.names.lookup n1 = some .local) && decide (c.names.lookup n2 = some .local))) &&
    chkE T c a a' && tst a' && c.gl y && decide (T.fns.lookup f = some (y, 1)) && c.vis t tx && (p.endLine == p2.line) && chkE T c b b' && tst b' && chkE T c r r' && !c.hot
  | _, _, _, _ => false
section
variable (T : Tb)
mutual
def chkS : Sc → S → Stmt → Bool
  | c, .bad, _ => true
  | c, .set i e, s => (match s with
    | .Assign [.Name x px] v ps => locN c i (.Name x px) && chkE T c e v && (match v with
      | .ListComp _ _ sc vp => isComp e && !c.hot
      | v => noComp v)
    | _ => false)
  | c, .own i e, s => (match s with
    | .Assign [.Name x px] v ps => locN c i (.Name x px) && chkE T c e v && (match e with
      | .lst _ => true
      | .comp _ _ _ _ _ => !c.hot
      | .bin .add _ _ => noComp v
      | .call f _ => T.fno.contains f && !c.hot && noComp v
      | _ => false)
    | _ => false)
  | c, .setT is e, s => (match s with
    | .Assign [tg] v _ => chkTg c (.many is) tg && chkE T c e v && noComp v && noSeq v && !c.hot
    | _ => false)
  | c, .par is es, s => (match s with
    | .Assign [.Tuple ts kt pt] (.Tuple vs k2 pt2) _ => tgAll c is ts && chkEs T c es vs && decide (is.length ≤ 100) && (match swpK c.names ts vs with
      | 0 => true
      | 1 => swpOk c is ts vs
      | _ => false) && !c.hot
    | _ => false)
  | c, .aug i k e, s => (match s with
    | .AugAssign t k' v _ => locN c i t && chkE T c e v && (match k with | .add => decide (k' = .Add) | .sub => decide (k' = .Sub) | _ => false)
    | _ => false)
  | c, .exp e, s => (match s with
    | .Expr v _ => chkE T c e v && noComp v
    | _ => false)
  | c, .ret e, s => (match s with
    | .Return (some v) _ => chkE T c e v
    | _ => false)
  | c, .retN, s => (match s with
    | .Return none _ => true
    | _ => false)
  | c, .pass, s => (match s with
    | .Pass _ => true
    | _ => false)
  | c, .brk, s => (match s with
    | .Break _ => true
    | _ => false)
  | c, .cont, s => (match s with
    | .Continue _ => true
    | _ => false)
  | c, .cond t a b, s => (match s with
    | .If t' a' b' _ => chkE T c t t' && tst t' && chkSs c a a' && chkSs c b b'
    | _ => false)
  | c, .loop tg it b, s => (match s with
    | .For tg' it' b' [] _ => chkTg c tg tg' && chkI T c it it' && chkSs c b b' && notSet it' && tgI it tg' && !c.hot
    | _ => false)
  | c, .whil t b, s => (match s with
    | .While t' b' [] _ => chkE T c t t' && tst t' && chkSs c b b' && !c.hot
    | _ => false)
  | c, .app v e, s => (match s with
    | .Expr (.Call (.Attribute (.Name x _) y p) [e'] [] p2) _ => decide (y = ("append" : Str)) && c.vis v x && chkE T c e e' && noStar e' && (p.endLine == p2.line)
    | _ => false)
  | c, .put v i e, s => (match s with
    | .Assign [.Subscript (.Name x _) i' _] e' _ => c.vis v x && chkE T c i i' && chkE T c e e' && noComp e' && noSlice i' && noSeq e'
    | _ => false)
  | c, .rais k es, s => (match es, s with
    | [], .Raise (some (.Call (.Name y _) [.Constant (.str _) _ _] [] _)) none _ => T.xcs.contains k && decide (k < 17) && decide (y = exn.getD k "") && c.gl y && !c.hot
    | [e], .Raise (some (.Call (.Name y _) [e'] [] _)) none _ => T.xis.contains k && decide (y = exn.getD k "") && c.gl y && chkE T c e e' && noStar e' && !c.hot
    | _, _ => false)
  | c, .tryA b ks k i v, _ => false
  | c, .hand _ _ _, _ => false
  | c, .tryG b ks hs, s => (match s with
    | .Try b' (h' :: hs') [] [] _ => chkSs c b b' && decide (ks = T.xcs) && chkHs c hs (h' :: hs') && !c.hot
    | _ => false)
/-- the clauses of a try -/
def chkHs : Sc → List S → List ExceptHandler → Bool
  | c, [], [] => true
  | c, h :: hs, x :: xs => chkH c h x && chkHs c hs xs
  | _, _, _ => false
def chkH : Sc → S → ExceptHandler → Bool
  | c, .hand k i b, x => (match i, x with
    | none, .ExceptHandler (some (.Name y _)) none (b0 :: b') _ => T.xcs.contains k && decide (y = exn.getD k "") && c.gl y && chkSs ⟨c.N, c.names, c.all, true⟩ b (b0 :: b')
    | some i, .ExceptHandler (some (.Name y _)) (some n) (b0 :: b') _ => T.xcs.contains k && decide (y = exn.getD k "") && c.gl y && c.loc i n && decide (c.names.lookup n = some .local) && chkSs ⟨c.N, c.names, c.all, true⟩ b (b0 :: b')
    | _, _ => false)
  | _, _, _ => false
def chkSs : Sc → List S → List Stmt → Bool
  | c, [], [] => true
  | c, s :: ss, x :: xs => (chkS c s x && chkSs c ss xs) || (match ss, xs with
    | s2 :: ss2, x2 :: xs2 => chkV T c s s2 x x2 && chkSs c ss2 xs2
    | _, _ => false)
  | _, _, _ => false
end
end
section
variable {X : Cx} {T : Tb} {C : Calls} {G : List D} {ca : Nat → Addr} {W : WX} {c : Sc} {st : Stmt}
def LeS (f g : St → F) : Prop := ∀ r, f r = .bad ∨ f r = g r
theorem QS.le {f g : St → F} (h : QS X ca W st g) (l : LeS f g) : QS X ca W st f := PS.weak h fun D σ H ⟨r, F, p, h⟩ => ⟨r, F, p, by rcases l r with z | z <;> rw [z] at h; exact h.elim; exact h⟩
theorem foldSet {it : Expr} {env : Env} (h : notSet it = true) (x : Value) : foldedSetIterable it env x = pure x := by
  cases it with
  | Set => simp [notSet] at h
  | _ => rfl
theorem s_bad : QS X ca W st (fun _ => .bad) := ⟨fun pins s σ H D I ⟨r, F, p, h⟩ => h.elim⟩
theorem le_cond {f : St → R D} {a b : St → F} : LeS (fun r => (f r).fl fun d r => match d with | .bl true => a r | .bl false => b r | _ => .bad) (fun r => (tv f r).fl fun d r => match d with | .bl true => a r | .bl false => b r | _ => .bad) := by
  intro r
  unfold tv
  dsimp only
  cases f r with
  | bad => exact .inl rfl
  | exc x r1 => exact .inr rfl
  | ok d r1 => cases d <;> first | exact .inl rfl | exact .inr rfl
theorem whileL_tv {f : St → R D} {b : St → F} : ∀ (n : Nat) (r : St), whileL f b n r = whileL (tv f) b n r
  | 0, r => rfl
  | n + 1, r => by
    simp only [whileL, tv]
    cases f r with
    | bad => rfl
    | exc x r1 => rfl
    | ok d r1 =>
      cases d with
      | bl k =>
        cases k with
        | false => rfl
        | true =>
          show (match b r1 with | .nx r => whileL f b n r | .ct r => whileL f b n r | .bk r => .nx r | x => x) = (match b r1 with | .nx r => whileL (tv f) b n r | .ct r => whileL (tv f) b n r | .bk r => .nx r | x => x)
          cases b r1 <;> first | rfl | exact whileL_tv n _
      | _ => rfl
theorem sw_eq (o : XOk X c) {elt : Expr} {gens : List Comprehension} {scope : Scope} {vp px : Pos} {x : Str} {l : Nat} : swapsWith (.ListComp elt gens scope vp) (some (.Name x px)) l X.env = pure (swB c.names x px vp scope.names) := by
  have hk : X.env.blockKind = .function := by
    unfold Env.blockKind
    rw [o.kind]
    rfl
  show (pure (X.env.blockKind == .function && X.env.kindOf x == some .local && px.line == vp.line && !(scope.names.any fun (n, k) => n == x && (k == .local || k == .cell))) : Sem Bool) = _
  rw [hk]
  unfold swB Env.kindOf
  rw [o.names]
  congr 1
theorem setc {i : Nat} {x : Str} {px spos : Pos} {elt : Expr} {gens : List Comprehension} {scope : Scope} {vp : Pos} {cE : E} (o : XOk X c) (hq : X.calm = true) (m : SemOk X T C G ca W) (hl : c.loc i x = true) (hc : chkE T c cE (.ListComp elt gens scope vp) = true) (hcomp : isComp cE = true) :
    ∃ f : St → R D, PS X (.Assign [.Name x px] (.ListComp elt gens scope vp) spos) (tAsg (tO' X.K ca W f) (gName i)) ∧ (∀ r d r', f r = .ok d r' → ∃ l, d = .lst l) ∧ ev C G cE = fun r => (f r).bind fun d r => match d with | .lst l => .ok (.lst l) r | _ => .bad := by
  cases cE <;> first | (simp [isComp] at hcomp; done) | skip
  rename_i elt' tg it cond own
  unfold chkE at hc
  split at hc <;> try contradiction
  rename_i e1
  simp only [Expr.ListComp.injEq] at e1
  obtain ⟨rfl, rfl, rfl, rfl⟩ := e1
  simp only [Bool.and_eq_true, decide_eq_true_eq] at hc
  replace hc := hc.1
  obtain ⟨⟨⟨⟨⟨⟨⟨⟨h1, ht⟩, h2⟩, h3⟩, h4⟩, h5⟩, h6⟩, h7⟩, h8⟩ := hc
  obtain ⟨ow, e1, ok⟩ := blkOk_of o h2 h3
  subst e1
  refine ⟨compR (evi C G it) tg (tv (evc C G cond)) (ev C G elt') (ow.map (·.2)), ?_, fun r d r' z => compR_lst z, comp_eq⟩
  obtain ⟨a1, a2, a3⟩ := o.loc hl
  cases hb : swB c.names x px vp scope.names with
  | true =>
    have hlo : X.env.scope.names.lookup x = some .local := by
      have hb2 := hb
      simp only [swB, Bool.and_eq_true] at hb2
      rw [o.names]
      exact eq_of_beq hb2.1.1
    exact s_comp hq m.ck.nd a1 hlo ((sw_eq o).trans (by rw [hb])) (sndI o m h1 ht) ok (fun s H Ca cl fp => tg_of (o.blk hq h2) hq m.blk.ck h5) (fun s H Ca cl fp => sndC (o.blk hq h2) m.blk h7) (fun s H Ca cl fp => (sndE (o.blk hq h2) m.blk h6).qe)
      (foldSet h8) h4
  | false =>
    exact ps_set m.ck.nd a1 a2 (comp_of o hq m ok h2 h4 h5 (sndI o m h1 ht) (fun X' o' m' => sndE o' m' h6) (fun X' o' m' => sndC o' m' h7) h8) ((sw_eq o).trans (by rw [hb])) a3
theorem le_set {f g : St → R D} {i : Nat} (hg : g = fun r => (f r).bind fun d r => match d with | D.lst l => .ok (D.lst l) r | _ => .bad) : LeS (fun r => (g r).fl fun d r => match setv i (.val d) r with | some r => .nx r | none => .bad) (fun r => (f r).fl fun d r => match setv i (.val d) r with | some r => .nx r | none => .bad) := by
  subst hg
  intro r
  dsimp only
  cases f r with
  | bad => exact .inl rfl
  | exc x r1 => exact .inr rfl
  | ok d r1 => cases d <;> first | exact .inl rfl | exact .inr rfl
theorem le_own {f g : St → R D} {i : Nat} (hg : g = fun r => (f r).bind fun d r => match d with | D.lst l => .ok (D.lst l) r | _ => .bad) : LeS (fun r => (g r).fl fun (d : D) r => match d with | D.lst l => (match setv i (.own (.lst l)) r with | some r => .nx r | none => .bad) | _ => .bad) (fun r => (f r).fl fun (d : D) r => match d with | D.lst l => (match setv i (.own (.lst l)) r with | some r => .nx r | none => .bad) | _ => .bad) := by
  subst hg
  intro r
  dsimp only
  cases f r with
  | bad => exact .inl rfl
  | exc x r1 => exact .inr rfl
  | ok d r1 => cases d <;> first | exact .inl rfl | exact .inr rfl
theorem setT_ok {is : List Nat} {tg v : Expr} {f : St → R D} {pos : Pos} (hg : PG X tg (gTg X.K (.many is))) (hv : QE X ca W v f) (hn : noComp v = true) (hs : noSeq v = true) (htg : ∃ es k p, tg = .Tuple es k p) :
    QS X ca W (.Assign [tg] v pos) (fun r => (f r).fl fun d r => match setTg (.many is) d r with | some r => .nx r | none => .bad) := by
  obtain ⟨es, k, p, rfl⟩ := htg
  have hw : swapsWithSole [.Tuple es k p] v pos.line X.env = pure false := by
    show swapsWith v (some (.Tuple es k p)) pos.line X.env = pure false
    exact no_swap hn
  refine PS.weak (ps_asg hv hg hw (by cases v <;> first | rfl | cases hs) rfl) fun D σ H ⟨r, F, p, h⟩ => ⟨r, F, p, FiS.step h fun d r1 v H1 F1 p1 q1 h => ?_⟩
  try dsimp only at h
  cases z : setTg (.many is) d r1 with
  | none => simp only [z] at h; exact h.elim
  | some r2 =>
    simp only [z] at h
    exact gTg_ok z p1.rp q1 fun σ' p2 => h _ _ _ p2
theorem swp_eq {X : Cx} (o : XOk X c) (ts vs : List Expr) (kt k2 : Nat) (pt pt2 : Pos) : swappedStores [.Tuple ts kt pt] (.Tuple vs k2 pt2) X.env = (match swpK c.names ts vs with
    | 0 => pure none
    | 1 => pure (some (ts.filterMap (lcl c.names ((ts.head?.map (·.pos.line)).getD 0))))
    | _ => unsupported "assign.tuple-of-constant-expressions:order-of-the-stores") := by
  have hk : X.env.blockKind = .function := by
    unfold Env.blockKind
    rw [o.kind]
    rfl
  have hl : (fun t : Expr => match t with
    | .Name id pos => if X.env.kindOf id == some .local && pos.line == (ts.head?.map (·.pos.line)).getD 0 then some id else none
    | _ => none) = lcl c.names ((ts.head?.map (·.pos.line)).getD 0) := by
    funext t
    cases t <;> first | rfl | (simp only [lcl, Env.kindOf, o.names])
  have hs : (fun t : Expr => match t with | .Starred .. => true | _ => false) = isStar := by
    funext t
    cases t <;> rfl
  show (if (!(ts.length == 2 || ts.length == 3) || vs.length != ts.length || X.env.blockKind != .function) = true then (pure none : Sem (Option (List Str)))
    else if (vs.any (fun t : Expr => match t with | .Starred .. => true | _ => false)) = true then pure none
    else if ((ts.filterMap (fun t : Expr => match t with
      | .Name id pos => if X.env.kindOf id == some .local && pos.line == (ts.head?.map (·.pos.line)).getD 0 then some id else none
      | _ => none)).length != ts.length || (ts.filterMap (fun t : Expr => match t with
      | .Name id pos => if X.env.kindOf id == some .local && pos.line == (ts.head?.map (·.pos.line)).getD 0 then some id else none
      | _ => none)).eraseDups.length != (ts.filterMap (fun t : Expr => match t with
      | .Name id pos => if X.env.kindOf id == some .local && pos.line == (ts.head?.map (·.pos.line)).getD 0 then some id else none
      | _ => none)).length) = true then pure none
    else if (vs.all (foldedForSure 8)) = true then pure none
    else if (vs.all (constantsAlone 8)) = true then unsupported "assign.tuple-of-constant-expressions:order-of-the-stores"
    else pure (some (ts.filterMap (fun t : Expr => match t with
      | .Name id pos => if X.env.kindOf id == some .local && pos.line == (ts.head?.map (·.pos.line)).getD 0 then some id else none
      | _ => none)))) = _
  rw [hk, hl, hs]
  have hb : (ScopeKind.function != ScopeKind.function) = false := by decide
  rw [hb, Bool.or_false]
  unfold swpK
  split
  · rfl
  · split
    · rfl
    · split
      · rfl
      · split
        · rfl
        · split <;> rfl
theorem swp_none {X : Cx} (o : XOk X c) {ts vs : List Expr} {kt k2 : Nat} {pt pt2 : Pos} (h : swpK c.names ts vs = 0) : swappedStores [.Tuple ts kt pt] (.Tuple vs k2 pt2) X.env = pure none := by rw [swp_eq o, h]; rfl
theorem swp_some {X : Cx} (o : XOk X c) {ts vs : List Expr} {kt k2 : Nat} {pt pt2 : Pos} {ns : List Str} (h : swpK c.names ts vs = 1) (hf : ∀ l, ts.filterMap (lcl c.names l) ≠ [] → True) (hn : ∀ l, (ts.filterMap (lcl c.names l)).length = ts.length → ts.filterMap (lcl c.names l) = ns) : swappedStores [.Tuple ts kt pt] (.Tuple vs k2 pt2) X.env = pure (some ns) := by
  rw [swp_eq o, h]
  show pure (some _) = pure (some _)
  rw [hn _ ?_]
  unfold swpK at h
  split at h
  · cases h
  · split at h
    · cases h
    · split at h
      · cases h
      · rename_i h3
        simp only [Bool.or_eq_true, bne_iff_ne, not_or, Decidable.not_not] at h3
        exact h3.1
theorem lcl_name {names : List (Str × NameKind)} {l : Nat} {x y : Str} {p : Pos} (h : lcl names l (.Name x p) = some y) : y = x := by
  simp only [lcl] at h
  split at h
  · exact (Option.some.inj h).symm
  · cases h
theorem lcl_names {names : List (Str × NameKind)} {l : Nat} : ∀ {ts : List Expr} {xs : List Str}, ts.length = xs.length → (∀ (i : Nat) t x, ts[i]? = some t → xs[i]? = some x → ∃ p, t = .Name x p) → (ts.filterMap (lcl names l)).length = ts.length → ts.filterMap (lcl names l) = xs
  | [], [], _, _, _ => rfl
  | t :: ts, x :: xs, hl, hn, h => by
    obtain ⟨p, rfl⟩ := hn 0 t x rfl rfl
    have le := List.length_filterMap_le (lcl names l) ts
    cases e : lcl names l (.Name x p) with
    | none =>
      rw [List.filterMap_cons_none e] at h
      simp only [List.length_cons] at h
      omega
    | some y =>
      rw [List.filterMap_cons_some e] at h ⊢
      rw [lcl_name e]
      congr 1
      exact lcl_names (by simpa using hl) (fun i t x h1 h2 => hn (i + 1) t x h1 h2) (by simpa using h)
  | [], _ :: _, hl, _, _ | _ :: _, [], hl, _, _ => by simp at hl
def StkOk (X : Cx) : Prop := X.stack = X.env :: X.outer ∧ X.env.frame = some X.env.locals
theorem SemOk.tr (m : SemOk X T C G ca W) {pn : List (Addr × Obj)} {xe : Value → Shared → Prop} {W' : WX} (tk : Takes (X.tr pn xe) W') : SemOk (X.tr pn xe) T C G ca W' :=
  ⟨⟨m.ck.nd, m.ck.room⟩, m.glo, m.fn, m.fnq, m.free, tk, m.dcs, m.xcs, m.xis, m.rm⟩
theorem XOk.tr (o : XOk X c) {pn : List (Addr × Obj)} {xe : Value → Shared → Prop} : XOk (X.tr pn xe) c := ⟨o.N, o.names, o.kind, o.all, o.calm⟩
/-- a suite's context -/
theorem SemOk.suite (m : SemOk X T C G ca W) {a : Addr} {pn : List (Addr × Obj)} : SemOk (X.suite a pn) T C G ca WF :=
  ⟨⟨m.ck.nd, ⟨m.ck.room.dp, m.ck.room.un⟩⟩, m.glo, fun z => (by cases (show false = true from z)), fun f x np h => by
    obtain ⟨k, fa, fd, ps, e1, FO, hr, h3⟩ := m.fnq f x np h
    exact ⟨k, fa, fd, ps, e1, FO, ⟨hr.dp, hr.un⟩, h3⟩, m.free, fun u s' ⟨_, _, _, _, _, _, _, _, _, _, _, _, _, _, _, _, w⟩ => w.elim, m.dcs, m.xcs, m.xis, fun z => by cases (show false = true from z)⟩
theorem XOk.suite (o : XOk X c) {a : Addr} {pn : List (Addr × Obj)} : XOk (X.suite a pn) ⟨c.N, c.names, c.all, true⟩ := ⟨o.N, o.names, o.kind, o.all, fun z => by cases z⟩
/-! #### clauses -/
section
variable {pos pos' np : Pos} {x n : Str} {i k : Nat} {b₀ : Stmt} {suite : List Stmt} {rest : List ExceptHandler} {g : St → F} {gr : Nat → List D → St → F} {ks : List Nat}
theorem qh_nil (hs : X.stack = X.env :: X.outer) (hf : X.env.frame = some X.env.locals) (tk : Takes X W) : PHs X [] (tH X.K ca W ks fun k fs r => .exc (.exc k fs) r) := by
  refine PHs.weak (ph_nil hs hf tk) fun cls d D σ H ⟨r, F, k, fs, ws, p, hk, ec, rw1, xd, h⟩ => ?_
  exact h cls d σ H F (Pt.refl p) ⟨ec, ws, rw1, xd⟩
theorem qh_no (hs : X.stack = X.env :: X.outer) (hX : ∀ k ∈ ks, XF X.K X.mg ks k) (hck : k ∈ ks) (hx : x = exn.getD k "") (hg : Gl X x) (hd : (x == ("__debug__" : Str)) = false) (hsu : ∀ (a : Addr) (pn : List (Addr × Obj)), QSs (X.suite a pn) ca WF (b₀ :: suite) g) (hr : PHs X rest (tH X.K ca W ks gr)) :
    PHs X (.ExceptHandler (some (.Name x np)) none (b₀ :: suite) pos' :: rest) (tH X.K ca W ks fun c fs r => hanF k none g c fs r (gr c fs r)) := by
  subst hx
  refine PHs.weak (ph_no (ts := tS X.K ca WF g) hs ⟨hg, hd, .inl (hX k hck).g⟩ hsu hr) fun cls d D σ H ⟨r, F, c, fs, ws, p, hk, ec, rw1, xd, h⟩ => ?_
  subst ec
  refine ⟨subX c k, ((hX c hk).em k hck).1, fun e => ⟨r, F, p, ?_⟩, fun e => ⟨r, F, c, fs, ws, p, hk, rfl, rw1, xd, ?_⟩⟩
  · dsimp only [hanF] at h
    rw [e, if_pos rfl] at h
    cases z : g r with
    | exc y r1 => rw [z] at h; exact h.elim
    | nx r1 => rw [z] at h; exact h
    | rt y r1 => rw [z] at h; exact h
    | bk r1 => rw [z] at h; exact h
    | ct r1 => rw [z] at h; exact h
    | bad => rw [z] at h; exact h.elim
  · dsimp only [hanF] at h
    rw [e, if_neg (by decide)] at h
    exact h
theorem qh_as (hs : X.stack = X.env :: X.outer) (hN : X.N.Nodup) (hi : X.N[i]? = some n) (hln : X.env.kindOf n = some .local) (hX : ∀ k ∈ ks, XF X.K X.mg ks k) (hck : k ∈ ks) (hx : x = exn.getD k "") (hg : Gl X x) (hd : (x == ("__debug__" : Str)) = false)
    (hsu : ∀ (a : Addr) (pn : List (Addr × Obj)), QSs (X.suite a pn) ca WF (b₀ :: suite) g) (hr : PHs X rest (tH X.K ca W ks gr)) :
    PHs X (.ExceptHandler (some (.Name x np)) (some n) (b₀ :: suite) pos' :: rest) (tH X.K ca W ks fun c fs r => hanF k (some i) g c fs r (gr c fs r)) := by
  subst hx
  refine PHs.weak (ph_as (ts := tS X.K ca WF g) hs hN hi hln ⟨hg, hd, .inl (hX k hck).g⟩ hsu hr) fun cls d D σ H ⟨r, F, c, fs, ws, p, hk, ec, rw1, xd, h⟩ => ?_
  subst ec
  refine ⟨subX c k, ((hX c hk).em k hck).1, fun e a na => ?_, fun e => ⟨r, F, c, fs, ws, p, hk, rfl, rw1, xd, ?_⟩⟩
  · dsimp only [hanF] at h
    rw [e, if_pos rfl] at h
    split at h
    · rename_i hl
      have n1 := p.new (o := XO (.ref (xa X.K c)) d a) na
      have rep : Rep X.K (upd F a (XO (.ref (xa X.K c)) d a)) (.exc c fs) (.ref a) := by
        simp only [Rep]
        exact ⟨a, d, ws, rfl, upd_same, rw1.mono n1.f, xd.fx (Fx.of n1.f)⟩
      have t1 := n1.rp.put hl rep
      have tt := n1.pt.trans t1
      refine ⟨_, _, t1.rp, ?_⟩
      cases z : g (r.set i (.val (.exc c fs))) with
      | exc y r1 => rw [z] at h; exact h.elim
      | bad => rw [z] at h; exact h.elim
      | nx r1 => rw [z] at h; exact fun σ' H' F' q => h _ H' F' (tt.trans (q.trans (Rp.drop q.rp i)))
      | bk r1 => rw [z] at h; exact fun σ' H' F' q => h _ H' F' (tt.trans (q.trans (Rp.drop q.rp i)))
      | ct r1 => rw [z] at h; exact fun σ' H' F' q => h _ H' F' (tt.trans (q.trans (Rp.drop q.rp i)))
      | rt y r1 => rw [z] at h; exact fun v σ' H' F' q e => h v _ H' F' (tt.trans (q.trans (Rp.drop q.rp i))) e
    · exact h.elim
  · dsimp only [hanF] at h
    rw [e, if_neg (by decide)] at h
    exact h
theorem s_tryG {h₀ : ExceptHandler} {body : List Stmt} (hs : X.stack = X.env :: X.outer) (hf : X.env.frame = some X.env.locals) (hX : ∀ k ∈ ks, XF X.K X.mg ks k) (hh : PHs X (h₀ :: rest) (tH X.K ca W ks gr))
    (hb : ∀ (W : WX) (pn : List (Addr × Obj)) (xe : Value → Shared → Prop), Takes (X.tr pn xe) W → PassesOwn (model X.prog X.w) X.A X.env xe → QSs (X.tr pn xe) ca W body g) :
    QS X ca W (.Try body (h₀ :: rest) [] [] pos) (fun r => tryH ks gr (g r)) := by
  refine PS.weak (ps_tryG (tb := fun W => tS X.K ca W g) hs hf hh fun W pn xe t p => hb W pn xe t p) fun D σ H ⟨r, F, p, h⟩ => ⟨r, F, p, ?_⟩
  dsimp only at h
  cases e : g r with
  | nx r1 => rw [e] at h; exact h
  | rt d r1 => rw [e] at h; exact h
  | bk r1 => rw [e] at h; exact h
  | ct r1 => rw [e] at h; exact h
  | bad => rw [e] at h; exact h.elim
  | exc z r1 =>
    rw [e] at h
    intro cls dd σ' H' F' pt rx
    cases z with
    | exc k fs =>
      obtain ⟨rfl, ws, rw1, xd⟩ := rx
      simp only [tryH] at h
      split at h
      · rename_i hk
        exact ⟨r1, F', k, fs, ws, pt.rp, by simpa using hk, rfl, rw1, xd, FiS.shift pt h⟩
      · exact h.elim
    | _ => exact rx.elim
end
/-- the sum of two lists is new -/
theorem o_cat {pos : Pos} {a b : Expr} {fa fb : St → R D} (ha : QE X ca W a fa) (hb : QE X ca W b fb) : QO X ca W (.BinOp a .Add b pos) (fun r => (fa r).bind fun x r => (fb r).bind fun y r => match x, y with
    | .lst l, .lst m => if l.length + m.length ≤ LINE then .ok (.lst (l ++ m)) r else .bad
    | _, _ => .bad) := by
  refine PE.weak (pe_op op_catG ha hb) fun σ H Q ⟨r, F, p, h⟩ => ⟨r, F, p, ?_⟩
  cases e : fa r with
  | bad => simp only [e] at h; exact h.elim
  | exc x r1 => simp only [e] at h; exact h
  | ok x r1 =>
    simp only [e, R.bind_ok] at h
    intro v H1 F1 p1 q1
    refine ⟨r1, F1, p1.rp, ?_⟩
    cases e2 : fb r1 with
    | bad => simp only [e2] at h; exact h.elim
    | exc y r2 => simp only [e2] at h; exact fun c dd H2 F2 p2 z => h c dd H2 F2 (p1.trans p2) z
    | ok y r2 =>
      simp only [e2, R.bind_ok] at h
      intro w H2 F2 p2 q2
      cases x <;> try exact h.elim
      cases y <;> try exact h.elim
      rename_i l m
      dsimp only at h
      split at h
      · rename_i hl
        obtain ⟨a, xs, rfl, s1, z1⟩ := Rep.lst_iff.mp (q1.mono p2.f)
        obtain ⟨b, ys, rfl, s2, z2⟩ := Rep.lst_iff.mp q2
        exact ⟨a, b, xs, ys, rfl, rfl, SqL.up p2.rp.sub s1, SqL.up p2.rp.sub s2, by rw [← z1.length, ← z2.length, ← LINE_eq]; exact hl, fun q hq => h q (xs ++ ys) H2 F2 (p1.trans p2) hq (z1.append z2)⟩
      · exact h.elim
theorem le_cat {f : St → R D} {fa fb : St → R D} {i : Nat} (hg : f = fun r => (fa r).bind fun x r => (fb r).bind fun y r => .of (Op.g .add x y) r) :
    LeS (fun r => (f r).fl fun (d : D) r => match d with | D.lst l => (match setv i (.own (.lst l)) r with | some r => .nx r | none => .bad) | _ => .bad)
      (fun r => ((fa r).bind fun x r => (fb r).bind fun y r => match x, y with
        | .lst l, .lst m => if l.length + m.length ≤ LINE then .ok (.lst (l ++ m)) r else .bad
        | _, _ => .bad).fl fun (d : D) r => match d with | D.lst l => (match setv i (.own (.lst l)) r with | some r => .nx r | none => .bad) | _ => .bad) := by
  subst hg
  intro r
  dsimp only
  cases fa r with
  | bad => exact .inl rfl
  | exc x r1 => exact .inr rfl
  | ok x r1 =>
    simp only [R.bind_ok]
    cases fb r1 with
    | bad => exact .inl rfl
    | exc x r1 => exact .inr rfl
    | ok y r2 =>
      simp only [R.bind_ok]
      cases x <;> cases y <;> try exact .inl rfl
      · rename_i a b
        show (R.of (if a.length + b.length ≤ LINE then some (D.str (a ++ b)) else none) r2).fl _ = _ ∨ _
        split <;> exact .inl rfl
      · rename_i a b
        right
        by_cases hl : a.length + b.length ≤ LINE
        · have e1 : Op.g .add (D.lst a) (D.lst b) = some (.lst (a ++ b)) := if_pos hl
          rw [e1]
          simp only [if_pos hl]
          rfl
        · have e1 : Op.g .add (D.lst a) (D.lst b) = none := if_neg hl
          rw [e1]
          simp only [if_neg hl]
          rfl
      · rename_i a b
        show (R.of (if a.length + b.length ≤ LINE then some (D.tup (a ++ b)) else none) r2).fl _ = _ ∨ _
        split <;> exact .inl rfl
theorem Le.trans {α : Type} {f g h : St → R α} (a : Le f g) (b : Le g h) : Le f h := fun r => by
  rcases a r with z | z
  · exact .inl z
  · rcases b r with y | y
    · exact .inl (z.trans y)
    · exact .inr (z.trans y)
theorem Le.orL {fa ga fb : St → R D} (h : Le fa ga) : Le (orF fa fb) (orF ga fb) := fun r => by
  unfold orF
  rcases h r with z | z
  · exact .inl (by rw [z]; rfl)
  · exact .inr (by rw [z])
theorem Le.orR {fa fb gb : St → R D} (h : Le fb gb) : Le (orF fa fb) (orF fa gb) := fun r => by
  unfold orF
  cases fa r with
  | bad => exact .inl rfl
  | exc x r => exact .inr rfl
  | ok d r =>
    simp only [R.bind_ok]
    cases d <;> first | exact .inl rfl | skip
    rename_i b
    cases b with
    | true => exact .inr rfl
    | false =>
      rcases h r with z | z
      · exact .inl (by simp only [z]; rfl)
      · exact .inr (by simp only [z])
theorem PAO.weak {X : Cx} {es : List Expr} {t t' : TA} (h : PAO X es t) (w : ∀ σ H Q, t' σ H Q → t σ H Q) : PAO X es t' := fun pos pins s σ H Q I q => h pos pins s σ H Q I (w σ H Q q)
theorem qao_cons {X : Cx} {W : WX} {e : Expr} {es : List Expr} {f : St → R D} {g : St → R (List D)} (h1 : PEO X e (tE X.K ca W f)) (h2 : QA X ca W es g) (hn : noStar e = true) :
    PAO X (e :: es) (tAs X.K ca W (fun r => (f r).bind fun d r => (g r).bind fun l r => .ok (d :: l) r)) := by
  refine PAO.weak (pao_cons h1 h2 (star_cons hn)) fun σ H Q ⟨r, F, p, h⟩ => ⟨r, F, p, h.step fun d r1 v H1 F1 p1 q1 h => ⟨r1, F1, p1.rp, h.step fun l r2 vs H2 F2 p2 q2 h => ?_⟩⟩
  exact h (v :: vs) H2 F2 (Ps.refl p2.rp) (Reps.cons (q1.mono p2.f) q2)
theorem peo_tup {X : Cx} {es : List Expr} {t : TA} {x1 : Nat} {pos : Pos} (h : PAO X es t) : PEO X (.Tuple es x1 pos) (tTup t) := by
  intro pins s σ H Q I hq
  refine wpAny_Tuple_spliced (thn (h pos pins s σ H _ I hq) fun us s1 ⟨k1, xs, H1, I1, r, z, q⟩ => ⟨by rw [← r.length]; exact z, ?_⟩)
  have hf : H1 s1.heap.objs.size = none := I1.hok.fresh (Nat.le_refl _)
  refine ⟨k1, .ref s1.heap.objs.size, upd H1 s1.heap.objs.size (.tup xs), I1.laid (t' := s1.toks) (fun b u e => Heap.get?_push_of_some _ e) (Nat.le_refl _) ?_, rfl, q _ hf⟩
  exact ⟨z, us, r, ⟨_, Heap.get?_push_size _ rfl, rfl, _, rfl⟩⟩
theorem pss_asgO {X : Cx} {tg e : Expr} {te : TE} {g : TG} {u : TS} {rest : List Stmt} {pos : Pos} (he : PEO X e te) (hg : PG X tg g) (hs : swapsWithSole [tg] e pos.line X.env = pure false) (hw : swappedStores [tg] e X.env = pure none)
    (h1 : (assignEach [tg] X.env).map (·.2) = [assign tg X.env]) (hr : PSsT X rest u) : PSs X (.Assign [tg] e pos :: rest) (tSeq (tAsg te g) u) := by
  refine ⟨fun pins s σ H D I h => ?_⟩
  refine wpAny_execs_cons ?_
  refine wpAny_Assign_stores (thn (he pins s σ H _ I h) fun v s1 ⟨k1, x, H1, I1, r1, q1⟩ => ?_) hs hw
  rw [h1]
  exact thnT k1 (hg.run pins s1 σ H1 x v _ I1 r1 q1) fun _ s2 k2 ⟨σ2, H2, I2, q2⟩ => hr pins s2 σ2 H2 D k2 I2 q2
theorem parT_w {X : Cx} {W : WX} {is : List Nat} {fs : St → R (List D)} : ∀ D σ H, tS X.K ca W (fun r => (fs r).fl fun l r => match setAll is l r with | some r => .nx r | none => .bad) D σ H → is.length ≤ 100 → tAsg (tTup (tAs X.K ca W fs)) (gTg X.K (.many is)) D σ H := by
  intro D σ H ⟨r, F, p, h⟩ hlen
  refine ⟨r, F, p, FiS.step h fun l r1 vs H1 F1 p1 q1 h => ?_⟩
  cases e : setAll is l r1 with
  | none => simp only [e] at h; exact h.elim
  | some r2 =>
    simp only [e] at h
    have hl := setAll_len e
    refine ⟨by rw [← q1.length, ← hl, sizeLine_eq]; omega, fun a ha => ?_⟩
    have hn := p1.rp.new (o := .tup vs) ha
    exact gTg_ok (t := .many is) (d := .tup l) e hn.rp (Rep.tup_iff.mpr ⟨a, _, rfl, SqT.of upd_same, q1.mono hn.f⟩) fun σ' p2 => h _ _ _ (hn.pt.trans p2)
theorem ss_viewT {X : Cx} {W : WX} {is : List Nat} {ts vs : List Expr} {st : Stmt} {rest : List Stmt} {fs : St → R (List D)} {f2 f3 : St → F} {kt k2 : Nat} {pt pt2 spos : Pos} (hg : PG X (.Tuple ts kt pt) (gTg X.K (.many is))) (ha : PAO X vs (tAs X.K ca W fs))
    (hw : swappedStores [.Tuple ts kt pt] (.Tuple vs k2 pt2) X.env = pure none) (hlen : is.length ≤ 100) (h2 : PST X st (tS X.K ca W f2)) (h3 : QSs X ca W rest f3) :
    QSs X ca W (.Assign [.Tuple ts kt pt] (.Tuple vs k2 pt2) spos :: st :: rest) (fun r => ((fs r).fl fun l r => match setAll is l r with | some r => .nx r | none => .bad).then fun r => (f2 r).then f3) := by
  refine PSs.weak (pss_asgO (peo_tup ha) hg rfl hw rfl (psst_cons h2 (PSsT.of h3))) fun D σ H ⟨r, F, p, h⟩ => ?_
  refine parT_w { D with nx := tSeq (tS X.K ca W f2) (tS X.K ca W f3) D } σ H ⟨r, F, p, FiS.then h (fun r1 σ1 H1 F1 p1 h => ?_) rfl rfl rfl⟩ hlen
  exact ⟨r1, F1, p1.rp, FiS.then h (fun r2 σ2 H2 F2 p2 h => ⟨r2, F2, p2.rp, h⟩) rfl rfl rfl⟩
theorem sndV {X : Cx} {W : WX} {c : Sc} {s s2 : S} {x x2 : Stmt} {xs : List Stmt} {f3 : St → F} (o : XOk X c) (m : SemOk X T C G ca W) (h : chkV T c s s2 x x2 = true) (h3 : QSs X ca W xs f3) :
    QSs X ca W (x :: x2 :: xs) (fun r => (ex C G s r).then fun r => (ex C G s2 r).then f3) := by
  unfold chkV at h
  split at h <;> try contradiction
  simp only [Bool.and_eq_true, Bool.or_eq_true, decide_eq_true_eq] at h
  obtain ⟨h, h22⟩ := h
  have hcalm := o.calm (ns h22)
  obtain ⟨h, h21⟩ := h
  obtain ⟨h, h20⟩ := h
  obtain ⟨h, h19⟩ := h
  obtain ⟨h, h18⟩ := h
  obtain ⟨h, h17⟩ := h
  obtain ⟨h, h16⟩ := h
  obtain ⟨h, h15⟩ := h
  obtain ⟨h, h14⟩ := h
  obtain ⟨h, h13⟩ := h
  obtain ⟨h, h9⟩ := h
  obtain ⟨h, h8⟩ := h
  obtain ⟨h, h7⟩ := h
  obtain ⟨h, h6⟩ := h
  obtain ⟨h, h5⟩ := h
  obtain ⟨⟨⟨rfl, rfl⟩, rfl⟩, h4⟩ := h
  rename_i i j e1 e2 a f t b rr n1 px n2 py kt pt a1 k1 j1 p1 p1' v2 k2 pt2 P9 a' y P8 tx P7 p K1 P6 K0 P5 p2 P4 P3 b' P2 r' P1 P0
  obtain ⟨g1, _, g3⟩ := o.loc h7
  obtain ⟨g4, _, g6⟩ := o.loc h8
  have s1 := sndE o m h4
  have ha : PAO X [.Subscript a1 (.Constant (.int k1) j1 p1) p1', v2] (tAs X.K ca W (evs C G [e1, e2])) := qao_cons (peo_of s1.qe) (sndEs o m (by simp only [chkEs, h5, h6, Bool.and_self])) rfl
  obtain ⟨b1, b2, b3, b4⟩ := o.vis h17
  obtain ⟨k0, fa, fd, ps0, e9, FO, hr, hm, hk, hb, _⟩ := m.fn hcalm _ _ _ h16
  have c1 := qet_call1 (pos := P4) (p := P8) m.tk FO (hr.mono (Nat.le_add_right _ 2)) (o.gl h15).1 hm hk hb (o.gl h15).2 (qet_rep1 (ca := ca) (W := W) (j0 := K1) (j1 := K0) (q1 := P7) (q3 := P6) (q4 := P5) b1 b2 b3 b4 h18) rfl e9
  have c2 := qtt_not (pos := P3) (qtt_val c1 fun _ => rfl)
  have c3 := qwt_or1 (pos := P2) ((sndE o m h13).qt h14) (qwt_or2 (pos := P2) c2 (qw_or1 ((sndE o m h19).qt h20)))
  have h2 := qst_if (pos := P0) (fun pins s σ H Q k I q => c3 _ pins s σ H Q k I q) (ss_cons (s_ret (pos := P1) (sndE o m h21).qe) ss_nil)
  have L : LeS (ex C G (.cond (.or a (.or (.not (.call f [.rep1 t])) b)) [.ret rr] [])) (fun r => (orF (tv (ev C G a)) (orF (fun r => (tv (fun r => (R.of (rep1D (vlv t r)) r).bind fun d r => (C f [.val d]).val r) r).bind fun x r => match x with | .bl b => .ok (.bl !b) r | _ => .bad) (tv (ev C G b))) r).fl fun d r => match d with
      | .bl true => ((ev C G rr r).fl fun d r => .rt d r).then fun r => .nx r
      | .bl false => .nx r
      | _ => .bad) := by
    have e4 : ev C G (.call f [.rep1 t]) = fun r => (R.of (rep1D (vlv t r)) r).bind fun d r => (C f [.val d]).val r := by
      funext r
      simp only [ev, evs]
      cases rep1D (vlv t r) <;> rfl
    have L1 : Le (tv (ev C G (.or a (.or (.not (.call f [.rep1 t])) b)))) (orF (tv (ev C G a)) (tv (ev C G (.or (.not (.call f [.rep1 t])) b)))) := by
      have : ev C G (.or a (.or (.not (.call f [.rep1 t])) b)) = orF (ev C G a) (ev C G (.or (.not (.call f [.rep1 t])) b)) := by funext r; simp only [ev]; rfl
      rw [this]
      exact le_or
    have L2 : Le (tv (ev C G (.or (.not (.call f [.rep1 t])) b))) (orF (tv (ev C G (.not (.call f [.rep1 t])))) (tv (ev C G b))) := by
      have : ev C G (.or (.not (.call f [.rep1 t])) b) = orF (ev C G (.not (.call f [.rep1 t]))) (ev C G b) := by funext r; simp only [ev]; rfl
      rw [this]
      exact le_or
    have L3 : Le (tv (ev C G (.not (.call f [.rep1 t])))) (fun r => (tv (fun r => (R.of (rep1D (vlv t r)) r).bind fun d r => (C f [.val d]).val r) r).bind fun x r => match x with | .bl b => .ok (.bl !b) r | _ => .bad) := by
      have : ev C G (.not (.call f [.rep1 t])) = fun r => (ev C G (.call f [.rep1 t]) r).bind fun x r => match x with | .bl b => .ok (.bl !b) r | _ => .bad := by funext r; rw [ev] <;> rfl
      rw [this, e4]
      exact le_not
    have L5 := L1.trans ((L2.trans L3.orL).orR)
    intro r
    have e5 : ex C G (.cond (.or a (.or (.not (.call f [.rep1 t])) b)) [.ret rr] []) r = (ev C G (.or a (.or (.not (.call f [.rep1 t])) b)) r).fl fun d r => match d with
        | .bl true => ((ev C G rr r).fl fun d r => .rt d r).then fun r => .nx r
        | .bl false => .nx r
        | _ => .bad := by
      rw [ex]
      congr 1
    rw [e5]
    rcases le_cond (f := ev C G (.or a (.or (.not (.call f [.rep1 t])) b))) (a := fun r => ((ev C G rr r).fl fun d r => .rt d r).then fun r => .nx r) (b := fun r => .nx r) r with z | z
    · exact .inl z
    · rcases L5 r with y | y
      · refine .inl (z.trans ?_)
        dsimp only
        rw [y]
        rfl
      · refine .inr (z.trans ?_)
        dsimp only
        rw [y]
  have h2' : PST X _ (tS X.K ca W (ex C G (.cond (.or a (.or (.not (.call f [.rep1 t])) b)) [.ret rr] []))) := PST.weak h2 fun D σ H ⟨r, F, p, h⟩ => ⟨r, F, p, by rcases L r with z | z <;> rw [z] at h; exact h.elim; exact h⟩
  have e1 : ex C G (.par [i, j] [e1, e2]) = fun r => (evs C G [e1, e2] r).fl fun l r => match setAll [i, j] l r with | some r => .nx r | none => .bad := by
    funext r
    rw [ex] <;> rfl
  rw [e1]
  rcases h9 with h9 | ⟨⟨⟨h9, h10⟩, h11⟩, h12⟩
  · obtain ⟨t1, t2, t3⟩ := pgs_of (is := [i, j]) (es := [.Name n1 px, .Name n2 py]) o m.ck.nd (by simp only [tgAll, h7, h8, Bool.and_self])
    exact ss_viewT (spos := P9) (pg_or (pg_tup hcalm t1 t2 t3) (pg_unl hcalm t1 t2 t3)) ha (swp_none o h9) (by simp) h2' h3
  · have w := swp_some (kt := kt) (k2 := k2) (pt := pt) (pt2 := pt2) o h9 (fun _ _ => trivial) (ns := [n1, n2]) fun l => lcl_names rfl fun i t x h1 h2 => by rcases i with _ | _ | i <;> simp at h1 h2 <;> (subst h1 h2; exact ⟨_, rfl⟩)
    exact ss_view (spos := P9) hcalm m.ck.nd g1 g4 h10 (by rw [o.names]; exact h11) (by rw [o.names]; exact h12) ha w h2' h3
mutual
theorem sndS : ∀ {s : S} {x : Stmt} {X : Cx} {W : WX} {c : Sc}, XOk X c → SemOk X T C G ca W → (X.calm = true → PassesOwn (model X.prog X.w) X.A X.env X.xe) → StkOk X → chkS T c s x = true → QS X ca W x (ex C G s)
  | .bad, x, X, W, c, o, m, hp, hq, h => s_bad
  | .set i e, x, X, W, c, o, m, hp, hq, h => by
    unfold chkS at h
    split at h <;> try contradiction
    simp only [Bool.and_eq_true] at h
    obtain ⟨⟨h1, h2⟩, h3⟩ := h
    split at h3
    · rw [Bool.and_eq_true] at h3
      obtain ⟨f, a, b, d⟩ := setc o (o.calm (ns h3.2)) m h1 h2 h3.1
      exact (s_setT a b).le (le_set d)
    · obtain ⟨a1, a2, a3⟩ := o.loc h1
      exact s_set m.ck.nd a1 a2 a3 (sndE o m h2).qe h3
  | .own i e, x, X, W, c, o, m, hp, hq, h => by
    unfold chkS at h
    split at h <;> try contradiction
    simp only [Bool.and_eq_true] at h
    obtain ⟨⟨h1, h2⟩, h3⟩ := h
    obtain ⟨a1, a2, a3⟩ := o.loc h1
    cases e <;> first | (simp at h3; done) | skip
    · rename_i es
      unfold chkE at h2
      split at h2 <;> try contradiction
      exact s_own m.ck.nd a1 a2 a3 (o_lst (sndEs o m h2)) rfl
    · rename_i k a b
      cases k <;> first | (simp at h3; done) | skip
      unfold chkE at h2
      split at h2 <;> try contradiction
      simp only [Bool.and_eq_true, decide_eq_true_eq] at h2
      obtain ⟨⟨h4, h5⟩, h6⟩ := h2
      subst h6
      refine QS.le (s_own m.ck.nd a1 a2 a3 (o_cat (sndE o m h4).qe (sndE o m h5).qe) h3) (le_cat ?_)
      funext r
      simp only [ev]
    · rename_i f es
      simp only [Bool.and_eq_true] at h3
      exact s_own m.ck.nd a1 a2 a3 (sndOw o m (by simp only [chkOw, h2, h3.1.1, h3.1.2, Bool.and_self])) h3.2
    · rename_i elt tg it cond own
      have h4 := h2
      unfold chkE at h4
      split at h4 <;> try contradiction
      obtain ⟨f, a, b, d⟩ := setc o (o.calm (ns h3)) m h1 h2 rfl
      exact (s_ownT a).le (le_own d)
  | .setT is e, x, X, W, c, o, m, hp, hq, h => by
    unfold chkS at h
    split at h <;> try contradiction
    simp only [Bool.and_eq_true] at h
    obtain ⟨⟨⟨⟨h1, h2⟩, h3⟩, h4⟩, h5⟩ := h
    refine setT_ok (tg_of o (o.calm (ns h5)) m.ck h1) (sndE o m h2).qe h3 h4 ?_
    rename_i tg v _
    cases tg with
    | Tuple es k p => exact ⟨_, _, _, rfl⟩
    | _ => simp [chkTg] at h1
  | .par is es, x, X, W, c, o, m, hp, hq, h => by
    unfold chkS at h
    split at h <;> try contradiction
    simp only [Bool.and_eq_true, decide_eq_true_eq] at h
    obtain ⟨⟨⟨⟨h1, h2⟩, h3⟩, h4⟩, h5⟩ := h
    have hcalm := o.calm (ns h5)
    have ha := sndEs o m h2
    split at h4
    · rename_i hk
      refine s_parT ?_ ha (swp_none o hk) h3
      obtain ⟨a, b, d⟩ := pgs_of o m.ck.nd h1
      exact pg_or (pg_tup hcalm a b d) (pg_unl hcalm a b d)
    · rename_i hk
      unfold swpOk at h4
      split at h4
      · simp only [Bool.and_eq_true, decide_eq_true_eq] at h4
        simp only [tgAll, locN, Bool.and_eq_true] at h1
        exact s_par2 hcalm m.ck.nd (o.loc h1.1).1 (o.loc h1.2.1).1 h4.1.1 (by rw [o.names]; exact h4.1.2) (by rw [o.names]; exact h4.2) ha (swp_some o hk (fun _ _ => trivial) fun l => lcl_names rfl fun i t x h1 h2 => by rcases i with _ | _ | i <;> simp at h1 h2 <;> (subst h1 h2; exact ⟨_, rfl⟩))
      · simp only [Bool.and_eq_true, decide_eq_true_eq] at h4
        simp only [tgAll, locN, Bool.and_eq_true] at h1
        exact s_par3 hcalm m.ck.nd (o.loc h1.1).1 (o.loc h1.2.1).1 (o.loc h1.2.2.1).1 h4.1.1.1.1.1 h4.1.1.1.1.2 h4.1.1.1.2 (by rw [o.names]; exact h4.1.1.2) (by rw [o.names]; exact h4.1.2) (by rw [o.names]; exact h4.2) ha (swp_some o hk (fun _ _ => trivial) fun l => lcl_names rfl fun i t x h1 h2 => by rcases i with _ | _ | _ | i <;> simp at h1 h2 <;> (subst h1 h2; exact ⟨_, rfl⟩))
      · cases h4
    · cases h4
  | .aug i k e, x, X, W, c, o, m, hp, hq, h => by
    unfold chkS at h
    split at h <;> try contradiction
    simp only [Bool.and_eq_true] at h
    obtain ⟨⟨h1, h2⟩, h3⟩ := h
    obtain ⟨y, p, rfl, h4⟩ := locN_ok h1
    obtain ⟨a1, a2, a3⟩ := o.loc h4
    cases k <;> first | (simp at h3; done) | skip
    · rw [of_decide_eq_true h3]
      exact s_aug auS_add m.ck.nd a1 a2 a3 (sndE o m h2).qe
    · rw [of_decide_eq_true h3]
      exact s_aug auS_sub m.ck.nd a1 a2 a3 (sndE o m h2).qe
  | .exp e, x, X, W, c, o, m, hp, hq, h => by
    unfold chkS at h
    split at h <;> try contradiction
    simp only [Bool.and_eq_true] at h
    exact s_exp (sndE o m h.1).qe h.2
  | .ret e, x, X, W, c, o, m, hp, hq, h => by
    unfold chkS at h
    split at h <;> try contradiction
    exact s_ret (sndE o m h).qe
  | .retN, x, X, W, c, o, m, hp, hq, h => by
    unfold chkS at h
    split at h <;> try contradiction
    exact s_retN
  | .pass, x, X, W, c, o, m, hp, hq, h => by
    unfold chkS at h
    split at h <;> try contradiction
    exact s_pass
  | .brk, x, X, W, c, o, m, hp, hq, h => by
    unfold chkS at h
    split at h <;> try contradiction
    exact s_brk
  | .cont, x, X, W, c, o, m, hp, hq, h => by
    unfold chkS at h
    split at h <;> try contradiction
    exact s_cont
  | .cond t a b, x, X, W, c, o, m, hp, hq, h => by
    unfold chkS at h
    split at h <;> try contradiction
    simp only [Bool.and_eq_true] at h
    obtain ⟨⟨⟨h1, h2⟩, h3⟩, h4⟩ := h
    exact (s_if ((sndE o m h1).qt h2) (sndSs o m hp hq h3) (sndSs o m hp hq h4)).le le_cond
  | .loop tg it b, x, X, W, c, o, m, hp, hq, h => by
    unfold chkS at h
    split at h <;> try contradiction
    simp only [Bool.and_eq_true] at h
    obtain ⟨⟨⟨⟨⟨h1, h2⟩, h3⟩, h4⟩, h5⟩, h6⟩ := h
    have hcalm := o.calm (ns h6)
    exact s_for (hp hcalm) hcalm (sndI o m h2 h5) (tg_of o hcalm m.ck h1) (sndSs o m hp hq h3) (foldSet h4)
  | .whil t b, x, X, W, c, o, m, hp, hq, h => by
    unfold chkS at h
    split at h <;> try contradiction
    simp only [Bool.and_eq_true] at h
    obtain ⟨⟨⟨h1, h2⟩, h3⟩, h4⟩ := h
    exact (s_while (hp (o.calm (ns h4))) ((sndE o m h1).qt h2) (sndSs o m hp hq h3)).le fun r => .inr (whileL_tv _ _)
  | .app v e, x, X, W, c, o, m, hp, hq, h => by
    unfold chkS at h
    split at h <;> try contradiction
    simp only [Bool.and_eq_true, decide_eq_true_eq] at h
    obtain ⟨⟨⟨⟨rfl, h1⟩, h2⟩, h3⟩, h4⟩ := h
    obtain ⟨a, b, d, f⟩ := o.vis h1
    exact s_app a b d f (sndE o m h2).qe h3 h4
  | .put v i e, x, X, W, c, o, m, hp, hq, h => by
    unfold chkS at h
    split at h <;> try contradiction
    simp only [Bool.and_eq_true, decide_eq_true_eq] at h
    obtain ⟨⟨⟨⟨⟨h1, h2⟩, h3⟩, h4⟩, h5⟩, h6⟩ := h
    obtain ⟨a, b, d, f⟩ := o.vis h1
    exact s_put a b d f (sndE o m h3).qe (sndE o m h2).qe h4 h5
  | .rais k es, x, X, W, c, o, m, hp, hq, h => by
    unfold chkS at h
    split at h <;> try contradiction
    · simp only [Bool.and_eq_true, decide_eq_true_eq] at h
      obtain ⟨⟨⟨⟨h1, h2⟩, h3⟩, h4⟩, h5⟩ := h
      have hcalm := o.calm (ns h5)
      have h1 : k ∈ T.xcs := by simpa using h1
      have e : ex C G (.rais k []) = fun r => .exc (.exc k []) r := by
        funext r
        simp only [ex, evs, R.fl_ok]
      rw [e]
      exact s_rais hcalm m.tk (m.xcs k h1) h2 h3 (o.gl h4).1 (o.gl h4).2
    · simp only [Bool.and_eq_true, decide_eq_true_eq] at h
      obtain ⟨⟨⟨⟨⟨h1, h2⟩, h3⟩, h4⟩, h5⟩, h6⟩ := h
      have hcalm := o.calm (ns h6)
      have h1 : k ∈ T.xis := by simpa using h1
      have e : ∀ a : E, ex C G (.rais k [a]) = fun r => (ev C G a r).fl fun d r => .exc (.exc k [d]) r := fun a => by
        funext r
        simp only [ex, evs]
        cases ev C G a r <;> rfl
      rw [e]
      exact s_raisF hcalm m.tk (m.xis k h1) (m.rm hcalm) h2 (o.gl h3).1 (o.gl h3).2 (sndE o m h4).qe h5
  | .tryA b ks k i v, x, X, W, c, o, m, hp, hq, h => by (unfold chkS at h; simp at h)
  | .hand _ _ _, x, X, W, c, o, m, hp, hq, h => by (unfold chkS at h; simp at h)
  | .tryG b ks hs, x, X, W, c, o, m, hp, hq, h => by
    unfold chkS at h
    split at h <;> try contradiction
    simp only [Bool.and_eq_true, decide_eq_true_eq] at h
    obtain ⟨⟨⟨h1, rfl⟩, h3⟩, h4⟩ := h
    have e : ex C G (.tryG b T.xcs hs) = fun r => tryH T.xcs (exhs C G hs) (exs C G b r) := by
      funext r
      simp only [ex]
    rw [e]
    exact s_tryG hq.1 hq.2 m.xcs (sndHs o m hq (o.calm (ns h4)) h3) fun W pn xe t p => sndSs (X := X.tr pn xe) o.tr (m.tr t) (fun _ => p) hq h1
theorem sndHs : ∀ {hs : List S} {x : List ExceptHandler} {X : Cx} {W : WX} {c : Sc}, XOk X c → SemOk X T C G ca W → StkOk X → X.calm = true → chkHs T c hs x = true → PHs X x (tH X.K ca W T.xcs (exhs C G hs))
  | [], [], X, W, c, o, m, hq, hc, h => by
    have e : exhs C G [] = fun k fs r => .exc (.exc k fs) r := by
      funext k fs r
      simp only [exhs]
    rw [e]
    exact qh_nil hq.1 hq.2 m.tk
  | hd :: hs, x :: xs, X, W, c, o, m, hq, hc, h => by
    simp only [chkHs, Bool.and_eq_true] at h
    have e : exhs C G (hd :: hs) = fun k fs r => exh C G hd k fs r (exhs C G hs k fs r) := by
      funext k fs r
      simp only [exhs]
    rw [e]
    exact sndH o m hq hc h.1 (sndHs o m hq hc h.2)
  | [], _ :: _, X, W, c, o, m, hq, hc, h | _ :: _, [], X, W, c, o, m, hq, hc, h => by simp [chkHs] at h
theorem sndH : ∀ {hd : S} {x : ExceptHandler} {xs : List ExceptHandler} {gr : Nat → List D → St → F} {X : Cx} {W : WX} {c : Sc}, XOk X c → SemOk X T C G ca W → StkOk X → X.calm = true → chkH T c hd x = true → PHs X xs (tH X.K ca W T.xcs gr) →
    PHs X (x :: xs) (tH X.K ca W T.xcs fun k fs r => exh C G hd k fs r (gr k fs r))
  | .hand k i b, x, xs, gr, X, W, c, o, m, hq, hc, h, hr => by
    have e : (fun c fs r => exh C G (.hand k i b) c fs r (gr c fs r)) = fun c fs r => hanF k i (exs C G b) c fs r (gr c fs r) := by
      funext c fs r
      simp only [exh]
    rw [e]
    simp only [chkH] at h
    split at h <;> try contradiction
    · simp only [Bool.and_eq_true, decide_eq_true_eq] at h
      obtain ⟨⟨⟨h1, h2⟩, h3⟩, h4⟩ := h
      have h1 : k ∈ T.xcs := by simpa using h1
      exact qh_no hq.1 m.xcs h1 h2 (o.gl h3).1 (o.gl h3).2 (fun a pn => sndSs (X := X.suite a pn) o.suite m.suite (fun z => by cases (show false = true from z)) hq h4) hr
    · simp only [Bool.and_eq_true, decide_eq_true_eq] at h
      obtain ⟨⟨⟨⟨⟨h1, h2⟩, h3⟩, h4⟩, h5⟩, h6⟩ := h
      have h1 : k ∈ T.xcs := by simpa using h1
      obtain ⟨a1, a2, a3⟩ := o.loc h4
      exact qh_as hq.1 m.ck.nd a1 (by unfold Env.kindOf; rw [o.names]; exact h5) m.xcs h1 h2 (o.gl h3).1 (o.gl h3).2 (fun a pn => sndSs (X := X.suite a pn) o.suite m.suite (fun z => by cases (show false = true from z)) hq h6) hr
  | .set _ _, x, xs, gr, X, W, c, o, m, hq, hc, h, hr => by simp [chkH] at h
  | .own _ _, x, xs, gr, X, W, c, o, m, hq, hc, h, hr => by simp [chkH] at h
  | .setT _ _, x, xs, gr, X, W, c, o, m, hq, hc, h, hr => by simp [chkH] at h
  | .par _ _, x, xs, gr, X, W, c, o, m, hq, hc, h, hr => by simp [chkH] at h
  | .aug _ _ _, x, xs, gr, X, W, c, o, m, hq, hc, h, hr => by simp [chkH] at h
  | .exp _, x, xs, gr, X, W, c, o, m, hq, hc, h, hr => by simp [chkH] at h
  | .ret _, x, xs, gr, X, W, c, o, m, hq, hc, h, hr => by simp [chkH] at h
  | .retN, x, xs, gr, X, W, c, o, m, hq, hc, h, hr => by simp [chkH] at h
  | .pass, x, xs, gr, X, W, c, o, m, hq, hc, h, hr => by simp [chkH] at h
  | .brk, x, xs, gr, X, W, c, o, m, hq, hc, h, hr => by simp [chkH] at h
  | .cont, x, xs, gr, X, W, c, o, m, hq, hc, h, hr => by simp [chkH] at h
  | .cond _ _ _, x, xs, gr, X, W, c, o, m, hq, hc, h, hr => by simp [chkH] at h
  | .loop _ _ _, x, xs, gr, X, W, c, o, m, hq, hc, h, hr => by simp [chkH] at h
  | .whil _ _, x, xs, gr, X, W, c, o, m, hq, hc, h, hr => by simp [chkH] at h
  | .app _ _, x, xs, gr, X, W, c, o, m, hq, hc, h, hr => by simp [chkH] at h
  | .put _ _ _, x, xs, gr, X, W, c, o, m, hq, hc, h, hr => by simp [chkH] at h
  | .rais _ _, x, xs, gr, X, W, c, o, m, hq, hc, h, hr => by simp [chkH] at h
  | .bad, x, xs, gr, X, W, c, o, m, hq, hc, h, hr => by simp [chkH] at h
  | .tryA _ _ _ _ _, x, xs, gr, X, W, c, o, m, hq, hc, h, hr => by simp [chkH] at h
  | .tryG _ _ _, x, xs, gr, X, W, c, o, m, hq, hc, h, hr => by simp [chkH] at h
theorem sndSs : ∀ {s : List S} {x : List Stmt} {X : Cx} {W : WX} {c : Sc}, XOk X c → SemOk X T C G ca W → (X.calm = true → PassesOwn (model X.prog X.w) X.A X.env X.xe) → StkOk X → chkSs T c s x = true → QSs X ca W x (exs C G s)
  | [], [], X, W, c, o, m, hp, hq, h => ss_nil
  | [s], x :: xs, X, W, c, o, m, hp, hq, h => by
    simp only [chkSs, Bool.or_eq_true, Bool.and_eq_true, Bool.false_eq_true, or_false, Bool.or_false] at h
    exact ss_cons (sndS o m hp hq h.1) (sndSs o m hp hq h.2)
  | s :: s2 :: ss2, [x], X, W, c, o, m, hp, hq, h => by
    simp only [chkSs, Bool.or_eq_true, Bool.and_eq_true, Bool.false_eq_true, or_false, Bool.or_false] at h
    exact h.2.elim
  | s :: s2 :: ss2, x :: x2 :: xs2, X, W, c, o, m, hp, hq, h => by
    rw [chkSs, Bool.or_eq_true, Bool.and_eq_true, Bool.and_eq_true] at h
    rcases h with h | h
    · exact ss_cons (sndS o m hp hq h.1) (sndSs o m hp hq h.2)
    · exact sndV o m h.1 (sndSs o m hp hq h.2)
  | [], _ :: _, X, W, c, o, m, hp, hq, h | _ :: _, [], X, W, c, o, m, hp, hq, h => by simp [chkSs] at h
end
end
end Z

/-! Z15: defs -/
namespace Z
open PySem PySem.Spec PyProof.Rows L2 TL

/-- a def: its names, its parameters' number, its core -/
structure DefS where
  name : Str
  st : Stmt
  N : List Str
  np : Nat
  body : List S
instance : Inhabited DefS := ⟨⟨default, .Pass ⟨0, 0, 0, 0⟩, [], 0, []⟩⟩
def DefS.fn (d : DefS) : Fn := ⟨d.np, d.N.length, d.body⟩
def DefS.ps (d : DefS) : List Str := d.N.take d.np
def DefS.ok (T : Tb) (d : DefS) : Bool := scB d.N d.ps (defScope d.st) && decide (d.np ≤ d.N.length) && chkSs T ⟨d.N, (defScope d.st).names, fun _ => true, false⟩ d.body (defBody d.st)
/-- the same, of a def that is called while an error is being handled -/
def DefS.okQ (T : Tb) (d : DefS) : Bool := scB d.N d.ps (defScope d.st) && decide (d.np ≤ d.N.length) && chkSs T ⟨d.N, (defScope d.st).names, fun _ => true, true⟩ d.body (defBody d.st)
def plainS : S → Bool
  | .exp _ => true
  | .set _ _ => true
  | _ => false
/-- a def whose result is a new list -/
def DefS.okO (T : Tb) (d : DefS) : Bool := match d.body, defBody d.st with
  | [s, .ret e], [x, .Return (some e') _] => plainS s && chkS T ⟨d.N, (defScope d.st).names, fun _ => true, false⟩ s x && chkOw T ⟨d.N, (defScope d.st).names, fun _ => true, false⟩ e e'
  | _, _ => false
section
variable {K : PySem.W.Frag} {F H : Hp}
theorem start_rp {sl : List Slot} {vs : List V} {n : Nat} (p : Rp K sl (vs.map some) H F) : Rp K (sl ++ List.replicate n .no) (vs.map some ++ List.replicate n none) H F := by
  have get : ∀ (i : Nat) s, (sl ++ List.replicate n Slot.no)[i]? = some s → s ≠ .no → sl[i]? = some s ∧ ∀ v, (vs.map some)[i]? = some v → (vs.map some ++ List.replicate n none)[i]? = some v := fun i s e hs => by
    have hi : i < sl.length := by
      refine Nat.lt_of_not_le fun hn => hs ?_
      rw [List.getElem?_append_right hn, List.getElem?_replicate] at e
      split at e <;> cases e
      rfl
    rw [List.getElem?_append_left hi] at e
    exact ⟨e, fun v hv => by rw [List.getElem?_append_left (by have := p.len; omega)]; exact hv⟩
  have own : ∀ (i : Nat) l, ownL (sl ++ List.replicate n Slot.no)[i]? = some l → ownL sl[i]? = some l ∧ ∀ v, (vs.map some)[i]? = some v → (vs.map some ++ List.replicate n none)[i]? = some v := fun i l e => by
    cases h : (sl ++ List.replicate n Slot.no)[i]? with
    | none => rw [h] at e; cases e
    | some s =>
      obtain ⟨a, b⟩ := get i s h (fun z => by rw [h, z] at e; cases e)
      rw [h] at e
      exact ⟨by rw [a]; exact e, b⟩
  refine ⟨by rw [List.length_append, List.length_append, p.len, List.length_replicate, List.length_replicate], p.sub, fun i d e => ?_, fun i l e => ?_, fun i j l m a e1 e2 z1 z2 => ?_⟩
  · obtain ⟨a, b⟩ := get i _ e (by simp)
    obtain ⟨v, e1, q⟩ := p.val i d a
    exact ⟨v, b _ e1, q⟩
  · obtain ⟨a, b⟩ := own i l e
    obtain ⟨x, ws, e1, e2, e3, q⟩ := p.own i l a
    exact ⟨x, ws, b _ e1, e2, e3, q⟩
  · obtain ⟨a1, b1⟩ := own i l e1
    obtain ⟨a2, b2⟩ := own j m e2
    obtain ⟨x, _, y1, _⟩ := p.own i l a1
    obtain ⟨x', _, y2, _⟩ := p.own j m a2
    rw [b1 _ y1] at z1
    rw [b2 _ y2] at z2
    cases z1
    cases z2
    exact p.apart i j l m _ a1 a2 y1 y2
theorem start_pc {sl : List Slot} {vs : List V} {n : Nat} {r' : St} {σ' : L2.St} {H' F' : Hp} {o : D} (p : Rp K sl (vs.map some) H F) (h0 : ∀ (i : Nat) l, sl[i]? = some (.io l) → i = 0)
    (pt : Pt K (sl ++ List.replicate n .no) r' (vs.map some ++ List.replicate n none) σ' H F H' F') (e : outOf sl r' = some o) : Pc K sl o (vs.map some) H F H' F' := by
  have own : ∀ b, Own (sl ++ List.replicate n .no) (vs.map some ++ List.replicate n none) b → Own sl (vs.map some) b := fun b ⟨i, l, e1, e2⟩ => by
    have hi : i < sl.length := by
      refine Nat.lt_of_not_le fun hn => ?_
      rw [List.getElem?_append_right hn, List.getElem?_replicate] at e1
      split at e1 <;> cases e1
    rw [List.getElem?_append_left hi] at e1
    rw [List.getElem?_append_left (by have := p.len; omega)] at e2
    exact ⟨i, l, e1, e2⟩
  refine ⟨pt.f, pt.rp.sub, fun b u z n => pt.h b u z fun w => n (own b w), fun b u z m n w => pt.n b u z m (fun w => n (own b w)) w, fun l z => ?_⟩
  cases sl with
  | nil => cases z
  | cons s sl =>
    cases z
    cases r' with
    | nil => simp [outOf] at e
    | cons s' r' =>
      cases s' <;> simp only [outOf, Option.some.injEq, reduceCtorEq] at e
      subst e
      obtain ⟨_, e2⟩ := pt.io 0 _ rfl
      obtain ⟨a, ws, e3, e4, e5, q⟩ := pt.rp.own 0 _ rfl
      rw [e2, List.getElem?_append_left (by have := p.len; simp only [List.length_cons] at this; omega)] at e3
      exact ⟨a, ws, e3, e4, e5, q⟩
end
section
variable {P : Program} {w : World} {K : PySem.W.Frag} {mg : Str → Option Value} {base : Heap} {ca : Nat → Addr}
/-- the promise that is kept where nothing is asked -/
theorem fnOk0 {k : Nat} {fa : Addr} {fd : FuncData} {ps : List Str} : FnOk P w K mg base (L2.CX P w) k fa fd ps (SpOf K ca ps.length (fun _ => .bad)) :=
  ⟨fun vs H Q E ⟨sl, F, h, _⟩ => h, fun A outer s H args us vs Q E hr he hb hv ⟨sl, F, h1, h2, h3, h4, h5⟩ => h5.elim⟩
theorem fnO0 {k : Nat} {fa : Addr} {fd : FuncData} {ps : List Str} : FnOk P w K mg base (L2.CX P w) k fa fd ps (SpO K ca ps.length (fun _ => .bad)) :=
  ⟨fun vs H Q E ⟨sl, F, h, _⟩ => h, fun A outer s H args us vs Q E hr he hb hv ⟨sl, F, h1, h2, h3, h4, h5⟩ => h5.elim⟩
theorem fnQ0 {k : Nat} {fa : Addr} {fd : FuncData} {ps : List Str} : FnQ P w K mg base k fa fd ps (SpOf K ca ps.length (fun _ => .bad)) :=
  ⟨fun vs H Q E ⟨sl, F, h, _⟩ => h, fun A outer s H args us vs Q E hr he hb hv ⟨sl, F, h1, h2, h3, h4, h5⟩ => h5.elim⟩
/-- one def over what it calls -/
structure CallOk (P : Program) (w : World) (K : PySem.W.Frag) (mg : Str → Option Value) (base : Heap) (ca : Nat → Addr) (T : Tb) (k : Nat) (C : Calls) (G : List D) : Prop where
  glo : ∀ (g : Nat) x, T.glo.lookup g = some x → ∃ d v u, G[g]? = some d ∧ mg x = some u ∧ RelV v u ∧ ∀ F, Rep K F d v
  fn : ∀ (f : Nat) x np, T.fns.lookup f = some (x, np) → ∃ fa fd ps, ps.length = np ∧ FnOk P w K mg base (L2.CX P w) k fa fd ps (SpOf K ca ps.length (C f)) ∧ mg x = some (.ref fa) ∧ PySem.W.keepIn K (.ref fa) = true ∧ Binds K fd ps [] ∧
    (∀ nms ks, (f, nms, ks) ∈ T.kb → ks.length = np ∧ KBinds K fd ps nms (gK nms.length ks .none) (gK nms.length ks .non)) ∧ (T.fno.contains f = true → FnOk P w K mg base (L2.CX P w) k fa fd ps (SpO K ca ps.length (C f)))
  fnq : ∀ (f : Nat) x np, T.fnq.lookup f = some (x, np) → ∃ fa fd ps, ps.length = np ∧ FnQ P w K mg base k fa fd ps (SpOf K ca ps.length (C f)) ∧ mg x = some (.ref fa) ∧ PySem.W.keepIn K (.ref fa) = true ∧ Binds K fd ps []
  free : ∀ x ∈ T.free, mg x = none
  dcs : ∀ (x : Str) ks cs, T.dcs.lookup x = some (ks, cs) → ∃ a, mg x = some (.ref a) ∧ ∀ s d, dlook ks (cs.map csD) s = some d → KDct K w a ⟨s.toArray⟩ (cvD d) ∧ cOk d = true
  xcs : ∀ k ∈ T.xcs, XF K mg T.xcs k
  xis : ∀ k ∈ T.xis, XI K mg k
/-- a def's entry -/
theorem sp_start {d : DefS} {C : Calls} {G : List D} {vs : List V} {H : Hp} {Q : VK} {E : XK} (h2 : d.np ≤ d.N.length) (hsp : SpOf K ca d.ps.length (runFn C G d.fn) vs H Q E) :
    tS K ca (fun cls dd _ H => E cls dd H) (exs C G d.body) { nx := fun _ H' => Q .non H', rt := Q } (L2.start d.N vs) H := by
  have hps : d.ps.length = d.np := by unfold DefS.ps; rw [List.length_take]; omega
  obtain ⟨sl, F0, l1, p, no, io0, hc⟩ := hsp
  have hl : sl.length = d.np := by have := p.len; rw [List.length_map] at this; rw [this, l1, hps]
  have est : L2.start d.N vs = vs.map some ++ List.replicate (d.N.length - d.np) none := by unfold L2.start; rw [l1, hps]
  rw [est]
  refine ⟨sl ++ List.replicate (d.N.length - d.np) .no, F0, start_rp p, ?_⟩
  unfold runFn DefS.fn at hc
  simp only [hl, if_true] at hc
  cases e : exs C G d.body (sl ++ List.replicate (d.N.length - d.np) .no) with
  | nx r' =>
    rw [e] at hc
    intro σ' H' F' pt
    dsimp only at hc
    cases e2 : outOf sl r' with
    | none => rw [e2] at hc; exact hc.elim
    | some o => rw [e2] at hc; exact hc _ H' F' (start_pc p io0 pt e2) (Rep.non_iff.mpr rfl)
  | rt v r' =>
    rw [e] at hc
    intro u σ' H' F' pt q
    dsimp only at hc
    cases e2 : outOf sl r' with
    | none => rw [e2] at hc; exact hc.elim
    | some o => rw [e2] at hc; exact hc _ H' F' (start_pc p io0 pt e2) q
  | exc x r' =>
    rw [e] at hc
    intro cls dd σ' H' F' pt q
    dsimp only at hc
    cases e2 : outOf sl r' with
    | none => rw [e2] at hc; exact hc.elim
    | some o => rw [e2] at hc; exact hc _ _ H' F' (start_pc p io0 pt e2) q
  | bk r' => rw [e] at hc; exact hc.elim
  | ct r' => rw [e] at hc; exact hc.elim
  | bad => rw [e] at hc; exact hc.elim
theorem def_ok {d : DefS} {T : Tb} {k : Nat} {C : Calls} {G : List D} {fa : Addr} {fd : FuncData} (F : FunD K d.name d.name (defArgs d.st) (defBody d.st) (defScope d.st) [] [] fa fd) (hd : d.ok T = true) (h : CallOk P w K mg base ca T k C G) :
    FnOk P w K mg base (L2.CX P w) (k + 3) fa fd d.ps (SpOf K ca d.ps.length (runFn C G d.fn)) := by
  simp only [DefS.ok, Bool.and_eq_true, decide_eq_true_eq] at hd
  obtain ⟨⟨h1, h2⟩, h3⟩ := hd
  have S := scB_ok h1
  refine F.ok (k := k + 2) S (fun vs H Q E ⟨sl, F, h, _⟩ => h) fun cdv A outer s H vs Q E hr hsp => ?_
  refine ⟨tS K ca (fun cls dd _ H => E cls dd H) (exs C G d.body), sndSs (X := cxOf (L2.CX P w) P w K mg base d.N d.name (defScope d.st) fa cdv A outer s H E) (c := ⟨d.N, (defScope d.st).names, fun _ => true, false⟩) ⟨rfl, rfl, S.kind, fun _ _ => rfl, fun _ => rfl⟩
    ⟨⟨S.nd, RoomQ.of (hr.mono (Nat.zero_le _))⟩, h.glo, fun _ f x np z => ?_, fun f x np z => ?_, h.free, takes_of rfl rfl rfl rfl, h.dcs, h.xcs, h.xis, fun _ => hr.mono (Nat.le_add_left _ _)⟩ (fun _ => passes_of rfl) ⟨rfl, rfl⟩ h3, sp_start h2 hsp⟩
  · obtain ⟨fa, fd, ps, a1, a2, a3, a4, a5, a6⟩ := h.fn f x np z
    exact ⟨k, fa, fd, ps, a1, a2, hr, a3, a4, a5, a6⟩
  · obtain ⟨fa, fd, ps, a1, a2, a3, a4, a5⟩ := h.fnq f x np z
    exact ⟨k, fa, fd, ps, a1, a2, RoomQ.of hr, a3, a4, a5⟩
theorem sp_startO {d : DefS} {C : Calls} {G : List D} {vs : List V} {H : Hp} {Q : VK} {E : XK} (h2 : d.np ≤ d.N.length) (hsp : SpO K ca d.ps.length (runFn C G d.fn) vs H Q E) :
    tSO K ca (fun cls dd _ H => E cls dd H) (exs C G d.body) { nx := fun _ H' => Q .non H', rt := Q } (L2.start d.N vs) H := by
  have hps : d.ps.length = d.np := by unfold DefS.ps; rw [List.length_take]; omega
  obtain ⟨sl, F0, l1, p, no, io0, hc⟩ := hsp
  have hl : sl.length = d.np := by have := p.len; rw [List.length_map] at this; rw [this, l1, hps]
  have est : L2.start d.N vs = vs.map some ++ List.replicate (d.N.length - d.np) none := by unfold L2.start; rw [l1, hps]
  rw [est]
  refine ⟨sl ++ List.replicate (d.N.length - d.np) .no, F0, start_rp p, ?_⟩
  unfold runFn DefS.fn at hc
  simp only [hl, if_true] at hc
  cases e : exs C G d.body (sl ++ List.replicate (d.N.length - d.np) .no) with
  | nx r' =>
    rw [e] at hc
    dsimp only at hc
    cases e2 : outOf sl r' with
    | none => rw [e2] at hc; exact hc.elim
    | some o => rw [e2] at hc; exact hc.elim
  | rt v r' =>
    rw [e] at hc
    dsimp only at hc
    cases e2 : outOf sl r' with
    | none => rw [e2] at hc; exact hc.elim
    | some o =>
      rw [e2] at hc
      cases v with
      | lst l => exact fun a ws σ' H' F' pt ha q => hc a ws H' F' (start_pc p io0 pt e2) ha q
      | _ => exact hc.elim
  | exc x r' =>
    rw [e] at hc
    intro cls dd σ' H' F' pt q
    dsimp only at hc
    cases e2 : outOf sl r' with
    | none => rw [e2] at hc; exact hc.elim
    | some o => rw [e2] at hc; exact hc _ _ H' F' (start_pc p io0 pt e2) q
  | bk r' => rw [e] at hc; exact hc.elim
  | ct r' => rw [e] at hc; exact hc.elim
  | bad => rw [e] at hc; exact hc.elim
theorem plain_nr {C : Calls} {G : List D} {s : S} (h : plainS s = true) (r : St) : (∃ r', ex C G s r = .nx r') ∨ (∃ e r', ex C G s r = .exc e r') ∨ ex C G s r = .bad := by
  cases s <;> simp only [plainS, Bool.false_eq_true] at h
  · rename_i i e
    simp only [ex]
    cases ev C G e r with
    | bad => exact .inr (.inr rfl)
    | exc x r1 => exact .inr (.inl ⟨_, _, rfl⟩)
    | ok d r1 =>
      simp only [R.fl]
      cases setv i (.val d) r1 with
      | none => exact .inr (.inr rfl)
      | some r2 => exact .inl ⟨_, rfl⟩
  · rename_i e
    simp only [ex]
    cases ev C G e r with
    | bad => exact .inr (.inr rfl)
    | exc x r1 => exact .inr (.inl ⟨_, _, rfl⟩)
    | ok d r1 => exact .inl ⟨_, rfl⟩
theorem def_okO {d : DefS} {T : Tb} {k : Nat} {C : Calls} {G : List D} {fa : Addr} {fd : FuncData} (F : FunD K d.name d.name (defArgs d.st) (defBody d.st) (defScope d.st) [] [] fa fd) (hd : d.ok T = true) (ho : d.okO T = true) (h : CallOk P w K mg base ca T k C G) :
    FnOk P w K mg base (L2.CX P w) (k + 3) fa fd d.ps (SpO K ca d.ps.length (runFn C G d.fn)) := by
  simp only [DefS.ok, Bool.and_eq_true, decide_eq_true_eq] at hd
  obtain ⟨⟨h1, h2⟩, _⟩ := hd
  have S := scB_ok h1
  refine F.ok (k := k + 2) S (fun vs H Q E ⟨sl, F, h, _⟩ => h) fun cdv A outer s H vs Q E hr hsp => ?_
  refine ⟨tSO K ca (fun cls dd _ H => E cls dd H) (exs C G d.body), ?_, sp_startO h2 hsp⟩
  have o : XOk (cxOf (L2.CX P w) P w K mg base d.N d.name (defScope d.st) fa cdv A outer s H E) ⟨d.N, (defScope d.st).names, fun _ => true, false⟩ := ⟨rfl, rfl, S.kind, fun _ _ => rfl, fun _ => rfl⟩
  have m : SemOk (cxOf (L2.CX P w) P w K mg base d.N d.name (defScope d.st) fa cdv A outer s H E) T C G ca (fun cls dd _ H => E cls dd H) :=
    ⟨⟨S.nd, RoomQ.of (hr.mono (Nat.zero_le _))⟩, h.glo, fun _ f x np z => by
      obtain ⟨fa, fd, ps, a1, a2, a3, a4, a5, a6⟩ := h.fn f x np z
      exact ⟨k, fa, fd, ps, a1, a2, hr, a3, a4, a5, a6⟩, fun f x np z => by
      obtain ⟨fa, fd, ps, a1, a2, a3, a4, a5⟩ := h.fnq f x np z
      exact ⟨k, fa, fd, ps, a1, a2, RoomQ.of hr, a3, a4, a5⟩, h.free, takes_of rfl rfl rfl rfl, h.dcs, h.xcs, h.xis, fun _ => hr.mono (Nat.le_add_left _ _)⟩
  unfold DefS.okO at ho
  split at ho
  · rename_i st e x e' pos eb es
    simp only [Bool.and_eq_true] at ho
    obtain ⟨⟨p1, p2⟩, p3⟩ := ho
    rw [es, eb]
    have b := so_cons (sndS o m (fun _ => passes_of rfl) ⟨rfl, rfl⟩ p2) (plain_nr p1) (pss_one (so_ret (pos := pos) (sndOw o m p3)))
    refine PSs.weak b fun D σ H ⟨r, F1, p, h⟩ => ⟨r, F1, p, ?_⟩
    have e9 : ((ex C G st r).then fun r => (ev C G e r).fl fun d r => Z.F.rt d r) = exs C G [st, .ret e] r := by
      simp only [exs, ex]
      cases ex C G st r with
      | nx r1 =>
        simp only [Z.F.then]
        cases (ev C G e r1) with
        | ok d r2 => rfl
        | exc x r2 => rfl
        | bad => rfl
      | _ => rfl
    show FiSO K ca _ ((ex C G st r).then fun r => (ev C G e r).fl fun d r => Z.F.rt d r) r σ H F1 D
    rw [e9]
    exact h
  · cases ho
theorem def_okQ {d : DefS} {T : Tb} {k : Nat} {C : Calls} {G : List D} {fa : Addr} {fd : FuncData} (F : FunD K d.name d.name (defArgs d.st) (defBody d.st) (defScope d.st) [] [] fa fd) (hd : d.okQ T = true) (h : CallOk P w K mg base ca T k C G) :
    FnQ P w K mg base (k + 3) fa fd d.ps (SpOf K ca d.ps.length (runFn C G d.fn)) := by
  simp only [DefS.okQ, Bool.and_eq_true, decide_eq_true_eq] at hd
  obtain ⟨⟨h1, h2⟩, h3⟩ := hd
  have S := scB_ok h1
  refine FunD.okQ F (k := k + 2) S (fun vs H Q E ⟨sl, F, h, _⟩ => h) fun cdv A outer s H vs Q E hr hsp => ?_
  refine ⟨tS K ca (fun cls dd _ H => E cls dd H) (exs C G d.body), sndSs (X := cxQ P w K mg base d.N d.name (defScope d.st) fa cdv A outer s H E) (c := ⟨d.N, (defScope d.st).names, fun _ => true, true⟩) ⟨rfl, rfl, S.kind, fun _ _ => rfl, fun z => (by cases z)⟩
    ⟨⟨S.nd, hr.mono (Nat.zero_le _)⟩, h.glo, fun z => (by cases (show false = true from z)), fun f x np z => ?_, h.free, takes_of rfl rfl rfl rfl, h.dcs, h.xcs, h.xis, fun z => (by cases (show false = true from z))⟩ (fun z => by cases (show false = true from z)) ⟨rfl, rfl⟩ h3, sp_start h2 hsp⟩
  obtain ⟨fa, fd, ps, a1, a2, a3, a4, a5⟩ := h.fnq f x np z
  exact ⟨k, fa, fd, ps, a1, a2, hr, a3, a4, a5⟩
/-- the text's facts, level by level -/
structure AllOk (w : World) (K : PySem.W.Frag) (mg : Str → Option Value) (T : Tb) (ds : List (Nat × DefS)) (G : List D) : Prop where
  fns : T.fns = ds.map fun d => (d.1, d.2.name, d.2.np)
  ok : ds.all (fun d => DefS.ok T d.2) = true
  oko : T.fno.all (fun f => match ds.lookup f with | some d => DefS.okO T d | none => false) = true
  okq : T.fnq.all (fun q => match ds.lookup q.1 with | some d => decide (d.name = q.2.1) && decide (d.np = q.2.2) && DefS.okQ T d | none => false) = true
  glo : ∀ (g : Nat) x, T.glo.lookup g = some x → ∃ d v u, G[g]? = some d ∧ mg x = some u ∧ RelV v u ∧ ∀ F, Rep K F d v
  free : ∀ x ∈ T.free, mg x = none
  df : ∀ (f : Nat) (d : DefS), ds.lookup f = some d → ∃ fa fd, FunD K d.name d.name (defArgs d.st) (defBody d.st) (defScope d.st) [] [] fa fd ∧ mg d.name = some (.ref fa) ∧ Binds K fd d.ps [] ∧
    ∀ nms ks, (f, nms, ks) ∈ T.kb → ks.length = d.np ∧ KBinds K fd d.ps nms (gK nms.length ks .none) (gK nms.length ks .non)
  dcs : ∀ (x : Str) ks cs, T.dcs.lookup x = some (ks, cs) → ∃ a, mg x = some (.ref a) ∧ ∀ s d, dlook ks (cs.map csD) s = some d → KDct K w a ⟨s.toArray⟩ (cvD d) ∧ cOk d = true
  xcs : ∀ k ∈ T.xcs, XF K mg T.xcs k
  xis : ∀ k ∈ T.xis, XI K mg k
def progOf (ds : List (Nat × DefS)) (G : List D) : Prog := ⟨ds.map fun d => (d.1, d.2.fn), G⟩
theorem lookup_map2 {α β : Type} (g : α → β) : ∀ (l : List (Nat × α)) (f : Nat), (l.map fun d => (d.1, g d.2)).lookup f = (l.lookup f).map g
  | [], _ => rfl
  | (k, d) :: l, f => by
    simp only [List.map_cons, List.lookup_cons]
    split
    · rfl
    · exact lookup_map2 g l f
theorem lookup_mem {α : Type} : ∀ {l : List (Nat × α)} {f : Nat} {d : α}, l.lookup f = some d → (f, d) ∈ l
  | [], _, _, h => by simp at h
  | (k, x) :: l, f, d, h => by
    simp only [List.lookup_cons] at h
    split at h
    · rename_i e
      cases h
      rw [eq_of_beq e]
      exact List.mem_cons_self
    · exact List.mem_cons_of_mem _ (lookup_mem h)
theorem dps {T : Tb} {d : DefS} (h : d.ok T = true) : d.ps.length = d.np := by
  simp only [DefS.ok, Bool.and_eq_true, decide_eq_true_eq] at h
  unfold DefS.ps
  rw [List.length_take]
  omega
theorem all_ok {T : Tb} {ds : List (Nat × DefS)} {G : List D} (a : AllOk w K mg T ds G) : ∀ n : Nat, CallOk P w K mg base ca T (3 * n) (callN (progOf ds G) n) G := by
  have get : ∀ (f : Nat) x np, T.fns.lookup f = some (x, np) → ∃ d, ds.lookup f = some d ∧ d.name = x ∧ d.np = np ∧ d.ok T = true := fun f x np z => by
    rw [a.fns, lookup_map2 (fun d : DefS => (d.name, d.np))] at z
    obtain ⟨d, hd, e⟩ := Option.map_eq_some_iff.mp z
    cases e
    exact ⟨d, hd, rfl, rfl, List.all_eq_true.mp a.ok _ (lookup_mem hd)⟩
  have getq : ∀ (f : Nat) x np, T.fnq.lookup f = some (x, np) → ∃ d, ds.lookup f = some d ∧ d.name = x ∧ d.np = np ∧ d.okQ T = true ∧ d.ps.length = d.np := fun f x np z => by
    have q := List.all_eq_true.mp a.okq _ (lookup_mem z)
    dsimp only at q
    cases e : ds.lookup f with
    | none => rw [e] at q; cases q
    | some d =>
      rw [e] at q
      simp only [Bool.and_eq_true, decide_eq_true_eq] at q
      refine ⟨d, rfl, q.1.1, q.1.2, q.2, ?_⟩
      have q2 := q.2
      simp only [DefS.okQ, Bool.and_eq_true, decide_eq_true_eq] at q2
      unfold DefS.ps
      rw [List.length_take]
      omega
  intro n
  induction n with
  | zero =>
    refine ⟨a.glo, fun f x np z => ?_, fun f x np z => ?_, a.free, a.dcs, a.xcs, a.xis⟩
    · obtain ⟨d, hd, rfl, rfl, ok⟩ := get f x np z
      obtain ⟨fa, fd, F, m1, b, kb⟩ := a.df f d hd
      exact ⟨fa, fd, d.ps, dps ok, fnOk0, m1, F.kp, b, kb, fun _ => fnO0⟩
    · obtain ⟨d, hd, rfl, rfl, ok, hl⟩ := getq f x np z
      obtain ⟨fa, fd, F, m1, b, kb⟩ := a.df f d hd
      exact ⟨fa, fd, d.ps, hl, fnQ0, m1, F.kp, b⟩
  | succ n ih =>
    have ef : ∀ (f : Nat) (d : DefS), ds.lookup f = some d → callN (progOf ds G) (n + 1) f = runFn (callN (progOf ds G) n) G d.fn := fun f d hd => by
      funext as
      simp only [callN, progOf, Prog.get]
      rw [lookup_map2 DefS.fn, hd]
      rfl
    refine ⟨a.glo, fun f x np z => ?_, fun f x np z => ?_, a.free, a.dcs, a.xcs, a.xis⟩
    · obtain ⟨d, hd, rfl, rfl, ok⟩ := get f x np z
      obtain ⟨fa, fd, F, m1, b, kb⟩ := a.df f d hd
      refine ⟨fa, fd, d.ps, dps ok, ?_, m1, F.kp, b, kb, fun ho => ?_⟩
      · rw [ef f d hd]
        exact def_ok F ok ih
      · rw [ef f d hd]
        have q := List.all_eq_true.mp a.oko f (by simpa using ho)
        rw [hd] at q
        exact def_okO F ok q ih
    · obtain ⟨d, hd, rfl, rfl, ok, hl⟩ := getq f x np z
      obtain ⟨fa, fd, F, m1, b, kb⟩ := a.df f d hd
      refine ⟨fa, fd, d.ps, hl, ?_, m1, F.kp, b⟩
      rw [ef f d hd]
      exact def_okQ F ok ih
theorem kb_of {x qual : Str} {params : Arguments} {body : List Stmt} {scope : Scope} {kws : List (Str × V)} {f : Addr} {fd : FuncData} {ps nms : List Str} {ks : List Nat} (F : FunD K x qual params body scope [] kws f fd) (hp : 0 < ps.length)
    (h : ∀ (kV doc pm : Value) (an : Option Addr) (cdv ct : Value) (ws : List Value), ws.length = nms.length → bindArgs (PySem.W.fnOf x qual params body scope .none kV doc pm an cdv ct) ⟨[], nms.zip ws⟩ = pure (ps.zip (ks.map fun k => ws.getD k .none))) :
    KBinds K fd ps nms (gK nms.length ks .none) (gK nms.length ks .non) := by
  obtain ⟨oc, od, dV, kV, doc, pm, an, cdv, ct, osl, rfl, lk, hcd, hD, hK⟩ := F.ex
  rcases hD with ⟨_, rfl⟩ | ⟨e, _⟩
  · refine ⟨fun s us ws X hl => ?_, fun r1 r2 => gK_rel r1 r2⟩
    have hl2 := hl
    unfold gK at hl ⊢
    split at hl
    · rename_i hc
      rw [if_pos hc]
      have hu : us = [] := List.length_eq_zero_iff.mp hc.1
      subst hu
      exact .of_eq (h kV doc pm an cdv ct ws hc.2)
    · simp at hl
      omega
  · exact absurd rfl e
/-- the law, called with a list of ints -/
theorem law_sp {i : Nat} {a : Addr} {H : Hp} {ns : List Int} {C : Calls} (hS : SqL K H a (ns.map V.int)) (h : ∃ o, C i [.val (.lst (ns.map .int))] = .ret (.bl true) o) :
    SpOf K ca 1 (C i) [.ref a] H (fun v _ => v = .bl true) (fun _ _ _ => False) := by
  obtain ⟨o, h⟩ := h
  have hr : Reps K H (ns.map .int) (ns.map V.int) := by
    clear h hS
    induction ns with
    | nil => exact Reps.nil
    | cons i ns ih => exact Reps.cons (Rep.int_iff.mpr rfl) ih
  refine ⟨[.lst (ns.map .int)].map .val, H, rfl, vals_rp (vs := [.ref a]) (fun _ _ e => e) (Reps.cons (Rep.lst_iff.mpr ⟨a, _, rfl, hS, hr⟩) Reps.nil), fun j l z => vals_noL (i := j) (m := l) (by rw [z]; rfl), fun j l z => absurd (show ownL ([D.lst (ns.map .int)].map Slot.val)[j]? = some l by rw [z]; rfl) vals_noL, ?_⟩
  show (match C i [.val (.lst (ns.map .int))] with
    | .ret d o => ∀ v H' F', Pc K _ o _ H H H' F' → Rep K F' d v → v = .bl true
    | .exc x o => _
    | .bad => False)
  rw [h]
  exact fun v H' F' _ q => Rep.bl_iff.mp q
end
end Z

/-! Z16: the law's end, with exceptions by the world -/
namespace Z
open PySem PySem.Spec PyProof.Rows L2
theorem walk_ofW {l : PySem.W.OpenLaw} {n k : Nat} {q : Program} {loose : List Str} {XP : (Str → Option Value) → Heap → Prop} {YP : World → Heap → Prop} {d : DefRec} {x : Str}
    (hn : l.most = some n) (hn2 : n ≤ sizeLine) (hdf : d.params.defaults = []) (hr : Room k callerA)
    (F : ∀ (w : World) (mg : Str → Option Value) (fa : Addr) (h : Heap), YP w h → h.Ns mainGlobals mg → mg d.name = some (.ref fa) →
      ∃ (K : PySem.W.Frag) (fd : FuncData) (sp : Sp), K.In h ∧ (∀ (s : Shared) (u : Value), BindsTo s fd ⟨[u], []⟩ [(x, u)]) ∧
        (∀ (H : Hp) (a : Addr) (ns : List Int), ns.length ≤ n → Only H → SqL K H a (ns.map V.int) → sp [.ref a] H (fun v _ => v = .bl true) fun _ _ _ => False) ∧
        ∀ base : Heap, K.In base → base.Ns mainGlobals mg → FnOk l.prog w K mg base (L2.CX l.prog w) k fa fd [x] sp) :
    PySem.W.WalkO q loose XP YP l.row.toRowW d [] (fun f vs => PySem.call f vs) := by
  refine Att.attach_call hn hdf fun w s₀ s₁ mg mb fa o pm cd doc a vs ns G Y ho hd hcd hmg hobj hints hlen hg => ?_
  obtain ⟨K, fd, sp, KX, hb, hsp, hF⟩ := F w mg fa _ Y G.T.g hmg
  exact law_call KX G.T.g G.T.b G.T.builtins G.T.nolimit hg hobj hints (Nat.le_trans hlen hn2) hr hF hb (fun H hO hS => hsp H a ns hlen hO hS) fun H e s' ⟨_, _, _, _, _, _, _, _, _, _, _, _, z⟩ => z
end Z

/-! Z17: the head's hook, with the module's tables told as trees -/
namespace Z
open PySem PySem.Spec PyProof.Rows L2
mutual
def relD (K : PySem.W.Frag) : D → Value → Bool
  | .non, .none => true
  | .int i, .int j _ => decide (i = j)
  | .bl b, .bool c => decide (b = c)
  | .str s, .str y _ => decide (y = ⟨s.toArray⟩) && (s.all (· < 0x110000) && decide (s.length ≤ LINE))
  | .tup l, .ref a => (match K.lookup a with
    | some ⟨.type c, _, .seq its _, _⟩ => decide (c = "tuple") && (decide (its.size ≤ sizeLine) && relDs K l its.toList)
    | _ => false)
  | _, _ => false
def relDs (K : PySem.W.Frag) : List D → List Value → Bool
  | [], [] => true
  | d :: l, u :: us => relD K d u && relDs K l us
  | _, _ => false
end
mutual
theorem relD_ok {K : PySem.W.Frag} : ∀ (d : D) (u : Value), relD K d u = true → ∃ v, RelV v u ∧ ∀ F, Rep K F d v
  | .non, u, h => by
    cases u <;> simp [relD] at h
    exact ⟨.non, rfl, fun F => Rep.non_iff.mpr rfl⟩
  | .int i, u, h => by
    cases u <;> simp [relD] at h
    subst h
    exact ⟨.int i, ⟨_, rfl⟩, fun F => Rep.int_iff.mpr rfl⟩
  | .bl i, u, h => by
    cases u <;> simp [relD] at h
    subst h
    exact ⟨.bl i, rfl, fun F => Rep.bl_iff.mpr rfl⟩
  | .str s, u, h => by
    cases u <;> simp only [relD, Bool.and_eq_true, decide_eq_true_eq, Bool.false_eq_true] at h
    obtain ⟨rfl, h2, h3⟩ := h
    exact ⟨.str ⟨s.toArray⟩, ⟨_, rfl⟩, fun F => Rep.str_iff.mpr ⟨rfl, h2, h3⟩⟩
  | .tup l, u, h => by
    cases u <;> try (simp [relD] at h; done)
    rename_i a
    simp only [relD] at h
    split at h
    · rename_i c dd its n sl e
      simp only [Bool.and_eq_true, decide_eq_true_eq] at h
      obtain ⟨rfl, h2, h3⟩ := h
      obtain ⟨vs, r1, r2⟩ := relDs_ok l its.toList h3
      exact ⟨.ref a, rfl, fun F => Rep.tup_iff.mpr ⟨a, vs, rfl, .inr ⟨_, its, n, e, rfl, rfl, h2, r1⟩, r2 F⟩⟩
    · cases h
  | .lst l, u, h => by cases u <;> simp [relD] at h
  | .exc _ _, u, h => by cases u <;> simp [relD] at h
  | .dct _ _, u, h => by cases u <;> simp [relD] at h
theorem relDs_ok {K : PySem.W.Frag} : ∀ (l : List D) (us : List Value), relDs K l us = true → ∃ vs, Vals vs us ∧ ∀ F, Reps K F l vs
  | [], us, h => by
    cases us with
    | nil => exact ⟨[], .nil, fun F => Reps.nil⟩
    | cons u us => simp [relDs] at h
  | d :: l, us, h => by
    cases us with
    | nil => simp [relDs] at h
    | cons u us =>
      simp only [relDs, Bool.and_eq_true] at h
      obtain ⟨v, r1, r2⟩ := relD_ok d u h.1
      obtain ⟨vs, q1, q2⟩ := relDs_ok l us h.2
      exact ⟨v :: vs, .cons r1 q1, fun F => Reps.cons (r2 F) (q2 F)⟩
end
def obsZ (fa : List He.Fa) (fn : List He.DefD) (gd : List (Str × D)) (K : PySem.W.Frag) : He.AlD := ((He.obsD fa fn K).1 && gd.all fun q => relD K q.2 (.ref (He.ga K q.1)), (He.obsD fa fn K).2)
def SaysZ (fa : List He.Fa) (fn : List He.DefD) (gd : List (Str × D)) (K : PySem.W.Frag) : Prop := obsZ fa fn gd K = He.valD fn
def obsZG (n : Nat) (fa : List He.Fa) (fn : List He.DefD) (gd : List (Str × D)) (g : Addr → Option Obj) : He.AlD := obsZ fa fn gd (He.frG g (He.asD g n))
def hookZ (n : Nat) (fa : List He.Fa) (fn : List He.DefD) (gd : List (Str × D)) : PySem.W.Hook where
  α := He.AlD
  obs := fun s => obsZG n fa fn gd s.heap.get?
  val := fun _ => He.valD fn
  says := fun _ h => ∃ K : PySem.W.Frag, K.In h ∧ SaysZ fa fn gd K
  of := fun _ _ e => ⟨_, He.frG_in, e⟩
  keeps := fun _ _ _ ⟨K, hK, c⟩ k => ⟨K, PySem.W.Frag.In.keeps hK k, c⟩
theorem obsZG_eq {n : Nat} {fa : List He.Fa} {fn : List He.DefD} {gd : List (Str × D)} {g : Addr → Option Obj} {s : Shared} (h : ∀ a, g a = s.heap.get? a) : obsZG n fa fn gd g = (hookZ n fa fn gd).obs s := by
  have e : g = s.heap.get? := funext h
  rw [e] <;> rfl
section
variable {fa : List He.Fa} {fn : List He.DefD} {gd : List (Str × D)} {K : PySem.W.Frag}
theorem SaysZ.d (c : SaysZ fa fn gd K) : He.SaysD fa fn K := by
  have h1 : ((He.obsD fa fn K).1 && gd.all fun q => relD K q.2 (.ref (He.ga K q.1))) = true := congrArg (fun z : He.AlD => z.1) c
  have h2 : (obsZ fa fn gd K).2 = (He.valD fn).2 := congrArg (fun z : He.AlD => z.2) (show obsZ fa fn gd K = He.valD fn from c)
  rw [Bool.and_eq_true] at h1
  exact Prod.ext h1.1 h2
theorem SaysZ.g (c : SaysZ fa fn gd K) {x : Str} {d : D} (h : (x, d) ∈ gd) : ∃ v, RelV v (.ref (He.ga K x)) ∧ ∀ F, Rep K F d v := by
  have h1 : ((He.obsD fa fn K).1 && gd.all fun q => relD K q.2 (.ref (He.ga K q.1))) = true := congrArg (fun z : He.AlD => z.1) c
  rw [Bool.and_eq_true] at h1
  exact relD_ok d _ (List.all_eq_true.mp h1.2 _ h)
end
end Z

/-! Z18: the head's hook, with the module's dicts (text keys, texts and numbers) -/
namespace Z
open PySem PySem.Spec PyProof.Rows L2
theorem lookup_memS {α : Type} : ∀ {l : List (Str × α)} {f : Str} {d : α}, l.lookup f = some d → (f, d) ∈ l
  | [], _, _, h => by simp at h
  | (k, x) :: l, f, d, h => by
    simp only [List.lookup_cons] at h
    split at h
    · rename_i e
      cases h
      rw [eq_of_beq e]
      exact List.mem_cons_self
    · exact List.mem_cons_of_mem _ (lookup_memS h)
abbrev Tab : Type := Str × (List (List Nat) × List (Int ⊕ List Nat))
def tabKeys (t : Tab) : List Str := t.2.1.map fun s => ⟨s.toArray⟩
def tabVals (K : PySem.W.Frag) (t : Tab) : Bool := (t.2.1.zip t.2.2).all fun q => cOk (csD q.2) && match PySem.W.nsIn K (He.ga K t.1) ⟨q.1.toArray⟩ with
  | some (some u) => relD K (csD q.2) u
  | _ => false
def xfB (K : PySem.W.Frag) (ks : List Nat) (k : Nat) : Bool :=
  (decide (17 ≤ k) || PySem.W.excIn K (xa K k) He.veBase "ValueError.__new__") && (PySem.W.keepIn K (.ref (xa K k)) && (decide (PySem.W.subIn K (.ref (xa K k)) (.type "BaseException") = some true) && (decide (PySem.W.typeIn K (.ref (xa K k)) = some (.type "type")) &&
  (He.eqO (PySem.W.findIn K (.ref (xa K k)) "__getattribute__") (some (some (.builtin "BaseException.__getattribute__"))) && (He.eqO (PySem.W.findIn K (.ref (xa K k)) "__getattr__") (some none) && (PySem.W.hasDictIn K (xa K k) && (He.eqO (PySem.W.findIn K (.ref (xa K k)) "__class__") (some (some (.builtin "object.__class__"))) &&
  (He.eqO (PySem.W.specialIn K (.builtin "object.__class__") "__get__") (some (some (.builtin "getset_descriptor.__get__"))) && (decide (PySem.W.takesIn K (.builtin "object.__class__") = some true) && (decide (PySem.W.mroIn K (xa K k) (.type "object") = some true) && ((decide (k < 17) || He.eqO (PySem.W.findIn K (.ref (xa K k)) (fldN k)) (some none)) &&
  (ks.all (fun t => decide (PySem.W.exmOne K (.ref (xa K k)) (.ref (xa K t)) = some (subX k t)) && decide (PySem.W.kitOne K (.ref (xa K k)) (.ref (xa K t)) = some (subX k t))) && decide (PySem.W.kitOne K (.ref (xa K k)) (.type "ValueError") = some true)))))))))))))
theorem xfB_ok {K : PySem.W.Frag} {mg : Str → Option Value} {ks : List Nat} {k : Nat} (h : xfB K ks k = true) (g : mg (exn.getD k "") = some (.ref (xa K k))) : XF K mg ks k := by
  unfold xfB at h
  simp only [Bool.and_eq_true, Bool.or_eq_true, decide_eq_true_eq] at h
  obtain ⟨h1, h2, h3, h4, h5, h6, h7, h8, h9, h10, h11, h14, h12, h13⟩ := h
  refine ⟨g, fun hk => ?_, h2, h3, h4, ⟨He.eqO_ok h5, He.eqO_ok h6, h3, h7, He.eqO_ok h8, He.eqO_ok h9, h10, h11⟩, fun hk => ?_, fun t ht => ?_, h13⟩
  · rcases h1 with h | h
    · omega
    · exact h
  · rcases h14 with h | h
    · omega
    · exact He.eqO_ok h
  · have := List.all_eq_true.mp h12 t ht
    simpa using this
/-- an error class with a field -/
def oexB (K : PySem.W.Frag) (C : Addr) : Bool := match K.lookup C with
  | some ⟨.type "type", _, .cls cd, sl⟩ => (match cd.mro, sl.toList with
    | .ref C2 :: bm, [_, _, _, _, some (.builtin n), _] => C2 == C && (n == "ValueError.__new__" && (!cd.hasDel && (cd.hasDict && PySem.HandSPX.refsVE bm)))
    | _, _ => false)
  | _ => false
theorem oexB_ok {K : PySem.W.Frag} {C : Addr} (h : oexB K C = true) : ∃ nm q N bs bm sn sub ab col dd k0 k1 k2 k3 k5, K.lookup C = some (excClassObj nm q C N bs bm true sn sub ab col dd k0 k1 k2 k3 k5 "ValueError.__new__") ∧ PySem.HandSPX.refsVE bm = true := by
  unfold oexB at h
  split at h
  · rename_i dd cd sl ho
    split at h
    · rename_i C2 bm k0 k1 k2 k3 n k5 hm hs
      simp only [Bool.and_eq_true, beq_iff_eq, Bool.not_eq_true'] at h
      obtain ⟨rfl, rfl, h3, h4, h5⟩ := h
      obtain ⟨nm, bs, mro, N, q, hd, sn, sub, ab, col, del⟩ := cd
      dsimp only at hm h3 h4
      subst hm h3 h4
      obtain ⟨l⟩ := sl
      dsimp only at hs
      subst hs
      exact ⟨nm, q, N, bs, bm, sn, sub, ab, col, dd, k0, k1, k2, k3, k5, ho, h5⟩
    · cases h
  · cases h
def xiB (K : PySem.W.Frag) (k : Nat) : Bool := decide (17 ≤ k) && (oexB K (xa K k) && (He.eqO (PySem.W.findIn K (.ref (xa K k)) "__setattr__") (some (some (.builtin "object.__setattr__"))) && (decide (PySem.W.subIn K (.ref (xa K k)) (.type "BaseException") = some true) && (decide (PySem.W.typeIn K (.ref (xa K k)) = some (.type "type")) &&
  (PySem.W.keepIn K (.ref (xa K k)) && (He.eqO (PySem.W.findIn K (.ref (xa K k)) (fldN k)) (some none) && (He.eqO (PySem.W.specialIn K (.ref (xa K 0)) "__getattribute__") (some (some (.builtin "type.__getattribute__"))) && (PySem.W.readsIn K (xa K 0) (.type "type") &&
  ((match PySem.W.findCls K (.ref (xa K 0)) (.type "type") "__init__" with | some (.val (.builtin n)) => decide (n = "ValueError.__init__") | _ => false) && (He.eqO (PySem.W.findIn K (.ref (xa K k)) "__init__") (some (some (.ref (He.ma K (xa K k) "__init__")))) && decide (PySem.W.typeIn K (.ref (He.ma K (xa K k) "__init__")) = some (.type "function"))))))))))))
/-- the def of the method __init__ in a class's text -/
def iniOf : Stmt → Stmt
  | .ClassDef _ _ _ b _ _ _ _ _ _ _ => (b.find? fun s => match s with | .FunctionDef .. => true | _ => false).getD (.Pass ⟨0, 0, 0, 0⟩)
  | s => s
theorem xi_ok {K : PySem.W.Frag} {mg : Str → Option Value} {k : Nat} {st : Stmt} {q : Str} {fd : FuncData} (h : xiB K k = true) (g0 : mg "LossError" = some (.ref (xa K 0))) (g : mg (exn.getD k "") = some (.ref (xa K k)))
    (F : FunD K "__init__" q (defArgs st) (defBody st) (defScope st) [.non] [] (He.ma K (xa K k) "__init__") fd) (hi : initB st (fldN k) = true)
    (hb : ∀ (T : Addr) (kV doc pm : Value) (an : Option Addr) (cdv ct : Value) (us its : List Value), us.length = 2 → its.length = 1 → ∃ k2, bindArgs (PySem.W.fnOf "__init__" q (defArgs st) (defBody st) (defScope st) (.ref T) kV doc pm an cdv ct) ⟨us, []⟩ = seqItems? (.ref T) >>= k2 ∧ k2 (some its.toArray) = pure ((["self", fldN k] : List Str).zip (us ++ its.drop 1))) : XI K mg k := by
  unfold xiB at h
  simp only [Bool.and_eq_true, decide_eq_true_eq] at h
  obtain ⟨h1, h2, h3, h4, h5, h6, h7, h8, h9, h10, h11, h12⟩ := h
  have fc : PySem.W.findCls K (.ref (xa K 0)) (.type "type") "__init__" = some (.val (.builtin "ValueError.__init__")) := by
    split at h10
    · rename_i e
      rw [e, of_decide_eq_true h10]
    · cases h10
  refine ⟨⟨g0, He.eqO_ok h8, h9, fc⟩, ⟨oexB_ok h2, He.eqO_ok h3, h4, h5, h6⟩, He.eqO_ok h7, h1, g, st, _, q, _, fd, F, hi, ?_, He.eqO_ok h11, h12⟩
  obtain ⟨ds, r, b⟩ := FunD.binds1 (ps := (["self", fldN k] : List Str)) F 2 1 (by simp) rfl hb
  have : ds = [] := by
    cases r
    rfl
  subst this
  exact b
abbrev AlY : Type := He.AlD × List (Option (List (Option (Str × Int))))
def obsY (fa : List He.Fa) (fn : List He.DefD) (gd : List (Str × D)) (ts : List Tab) (xs is : List Nat) (K : PySem.W.Frag) : AlY := (((obsZ fa fn gd K).1 && (ts.all (tabVals K) && (xs.all (xfB K xs) && is.all (xiB K))), (obsZ fa fn gd K).2), ts.map fun t => He.dicW K (He.ga K t.1))
def valY (fn : List He.DefD) (ts : List Tab) (w : World) : AlY := (He.valD fn, ts.map fun t => some (He.keysIn w.params (tabKeys t)))
def SaysY (fa : List He.Fa) (fn : List He.DefD) (gd : List (Str × D)) (ts : List Tab) (xs is : List Nat) (w : World) (K : PySem.W.Frag) : Prop := obsY fa fn gd ts xs is K = valY fn ts w
def obsYG (n : Nat) (fa : List He.Fa) (fn : List He.DefD) (gd : List (Str × D)) (ts : List Tab) (xs is : List Nat) (g : Addr → Option Obj) : AlY := obsY fa fn gd ts xs is (He.frG g (He.asD g n ++ [PySem.cStatics]))
def hookY (n : Nat) (fa : List He.Fa) (fn : List He.DefD) (gd : List (Str × D)) (ts : List Tab) (xs is : List Nat) : PySem.W.Hook where
  α := AlY
  obs := fun s => obsYG n fa fn gd ts xs is s.heap.get?
  val := fun w => valY fn ts w
  says := fun w h => ∃ K : PySem.W.Frag, K.In h ∧ SaysY fa fn gd ts xs is w K
  of := fun _ _ e => ⟨_, He.frG_in, e⟩
  keeps := fun _ _ _ ⟨K, hK, c⟩ k => ⟨K, PySem.W.Frag.In.keeps hK k, c⟩
theorem obsYG_eq {n : Nat} {fa : List He.Fa} {fn : List He.DefD} {gd : List (Str × D)} {ts : List Tab} {xs is : List Nat} {g : Addr → Option Obj} {s : Shared} (h : ∀ a, g a = s.heap.get? a) : obsYG n fa fn gd ts xs is g = (hookY n fa fn gd ts xs is).obs s := by
  have e : g = s.heap.get? := funext h
  rw [e] <;> rfl
theorem dlook_zip : ∀ {ks : List (List Nat)} {cs : List (Int ⊕ List Nat)} {s : List Nat} {d : D}, dlook ks (cs.map csD) s = some d → ∃ c, (s, c) ∈ ks.zip cs ∧ d = csD c
  | [], _, _, _, h => by simp [dlook] at h
  | _ :: _, [], _, _, h => by simp [dlook] at h
  | k :: ks, c :: cs, s, d, h => by
    simp only [List.map_cons, dlook] at h
    split at h
    · rename_i e
      cases h
      subst e
      exact ⟨c, List.mem_cons_self, rfl⟩
    · obtain ⟨c', h1, h2⟩ := dlook_zip h
      exact ⟨c', List.mem_cons_of_mem _ h1, h2⟩
theorem relD_cv {K : PySem.W.Frag} {c : Int ⊕ List Nat} {u : Value} (h : relD K (csD c) u = true) : RelV (cvD (csD c)) u := by
  cases c with
  | inl i =>
    cases u <;> simp [csD, relD] at h
    subst h
    exact ⟨_, rfl⟩
  | inr s =>
    cases u <;> simp only [csD, relD, Bool.and_eq_true, decide_eq_true_eq, Bool.false_eq_true] at h
    obtain ⟨rfl, _⟩ := h
    exact ⟨_, rfl⟩
section
variable {fa : List He.Fa} {fn : List He.DefD} {gd : List (Str × D)} {ts : List Tab} {xs is : List Nat} {w : World} {K : PySem.W.Frag}
theorem SaysY.z (c : SaysY fa fn gd ts xs is w K) : SaysZ fa fn gd K := by
  have h0 : (((obsZ fa fn gd K).1 && (ts.all (tabVals K) && (xs.all (xfB K xs) && is.all (xiB K)))), (obsZ fa fn gd K).2) = He.valD fn := congrArg (fun z : AlY => z.1) c
  have h1 : ((obsZ fa fn gd K).1 && (ts.all (tabVals K) && (xs.all (xfB K xs) && is.all (xiB K)))) = true := congrArg (fun z : He.AlD => z.1) h0
  have h2 := congrArg (fun z : He.AlD => z.2) h0
  rw [Bool.and_eq_true] at h1
  exact Prod.ext h1.1 h2
theorem SaysY.tab (c : SaysY fa fn gd ts xs is w K) {t : Tab} (h : t ∈ ts) : ∀ s d, dlook t.2.1 (t.2.2.map csD) s = some d → KDct K w (He.ga K t.1) ⟨s.toArray⟩ (cvD d) ∧ cOk d = true := by
  have h0 : (((obsZ fa fn gd K).1 && (ts.all (tabVals K) && (xs.all (xfB K xs) && is.all (xiB K)))), (obsZ fa fn gd K).2) = He.valD fn := congrArg (fun z : AlY => z.1) c
  have h1 : ((obsZ fa fn gd K).1 && (ts.all (tabVals K) && (xs.all (xfB K xs) && is.all (xiB K)))) = true := congrArg (fun z : He.AlD => z.1) h0
  rw [Bool.and_eq_true] at h1
  have h12 := h1.2
  rw [Bool.and_eq_true] at h12
  have hv := List.all_eq_true.mp h12.1 t h
  have e : ts.map (fun t => He.dicW K (He.ga K t.1)) = ts.map fun t => some (He.keysIn w.params (tabKeys t)) := congrArg (fun z : AlY => z.2) c
  obtain ⟨i, hi⟩ := List.mem_iff_getElem?.mp h
  have e2 : (ts.map fun t => He.dicW K (He.ga K t.1))[i]? = (ts.map fun t => some (He.keysIn w.params (tabKeys t)))[i]? := by rw [e]
  rw [List.getElem?_map, List.getElem?_map, hi] at e2
  obtain ⟨es, n, kd⟩ := He.dicW_ok (Option.some.inj e2)
  intro s d hd
  obtain ⟨x, hx, rfl⟩ := dlook_zip hd
  have q := List.all_eq_true.mp hv _ hx
  simp only [Bool.and_eq_true] at q
  obtain ⟨q1, q2⟩ := q
  split at q2
  · rename_i u hu
    exact ⟨⟨es, n, u, kd.at_, kd.lit, hu, relD_cv q2⟩, q1⟩
  · cases q2
theorem SaysY.xf (c : SaysY fa fn gd ts xs is w K) : ∀ k ∈ xs, xfB K xs k = true := by
  have h0 : (((obsZ fa fn gd K).1 && (ts.all (tabVals K) && (xs.all (xfB K xs) && is.all (xiB K)))), (obsZ fa fn gd K).2) = He.valD fn := congrArg (fun z : AlY => z.1) c
  have h1 : ((obsZ fa fn gd K).1 && (ts.all (tabVals K) && (xs.all (xfB K xs) && is.all (xiB K)))) = true := congrArg (fun z : He.AlD => z.1) h0
  rw [Bool.and_eq_true, Bool.and_eq_true] at h1
  rw [Bool.and_eq_true] at h1
  exact List.all_eq_true.mp h1.2.2.1
theorem SaysY.xi (c : SaysY fa fn gd ts xs is w K) : ∀ k ∈ is, xiB K k = true := by
  have h0 : (((obsZ fa fn gd K).1 && (ts.all (tabVals K) && (xs.all (xfB K xs) && is.all (xiB K)))), (obsZ fa fn gd K).2) = He.valD fn := congrArg (fun z : AlY => z.1) c
  have h1 : ((obsZ fa fn gd K).1 && (ts.all (tabVals K) && (xs.all (xfB K xs) && is.all (xiB K)))) = true := congrArg (fun z : He.AlD => z.1) h0
  rw [Bool.and_eq_true, Bool.and_eq_true, Bool.and_eq_true] at h1
  exact List.all_eq_true.mp h1.2.2.2
end
end Z

section
/-! WP: the evaluator's equations as they are used in proofs; loops by invariants -/
namespace Z
/-! ### branches -/
def brR {α : Type} (d : D) (x y : R α) : R α := match d with
  | .bl b => if b = true then x else y
  | _ => .bad
def brF (d : D) (x y : F) : F := match d with
  | .bl b => if b = true then x else y
  | _ => .bad
def toB (d : D) (r : St) : R D := match d with
  | .bl b => .ok (.bl b) r
  | _ => .bad
def notB (d : D) (r : St) : R D := match d with
  | .bl b => .ok (.bl !b) r
  | _ => .bad
theorem brR_bl {α : Type} (b : Bool) (x y : R α) : brR (.bl b) x y = if b = true then x else y := rfl
theorem brF_bl (b : Bool) (x y : F) : brF (.bl b) x y = if b = true then x else y := rfl
theorem toB_bl (b : Bool) (r : St) : toB (.bl b) r = .ok (.bl b) r := rfl
theorem notB_bl (b : Bool) (r : St) : notB (.bl b) r = .ok (.bl !b) r := rfl
theorem ok_ite {α : Type} {p : Prop} [Decidable p] (a b : α) (r : St) : (if p then R.ok a r else R.ok b r) = R.ok (if p then a else b) r := by split <;> rfl
theorem bl_ite {p : Prop} [Decidable p] (a b : Bool) : (if p then D.bl a else D.bl b) = D.bl (if p then a else b) := by split <;> rfl
theorem int_ite {p : Prop} [Decidable p] (a b : Int) : (if p then D.int a else D.int b) = D.int (if p then a else b) := by split <;> rfl
theorem str_ite {p : Prop} [Decidable p] (a b : List Nat) : (if p then D.str a else D.str b) = D.str (if p then a else b) := by split <;> rfl
theorem bind_ite {α β : Type} {p : Prop} [Decidable p] (x y : R α) (f : α → St → R β) : (if p then x else y).bind f = if p then x.bind f else y.bind f := by split <;> rfl
theorem fl_ite {α : Type} {p : Prop} [Decidable p] (x y : R α) (f : α → St → F) : (if p then x else y).fl f = if p then x.fl f else y.fl f := by split <;> rfl
theorem then_ite {p : Prop} [Decidable p] (x y : F) (f : St → F) : (if p then x else y).then f = if p then x.then f else y.then f := by split <;> rfl
/-! ### frames -/
theorem setv_zero (s x : Slot) (r : St) : setv 0 s (x :: r) = some (s :: r) := rfl
theorem setv_succ (i : Nat) (s x : Slot) (r : St) : setv (i + 1) s (x :: r) = (setv i s r).map (x :: ·) := by
  unfold setv
  simp only [List.length_cons, Nat.add_lt_add_iff_right]
  split <;> rfl
def setF (i : Nat) (s : Slot) (r : St) : F := match setv i s r with
  | some r => .nx r
  | none => .bad
theorem setF_zero (s x : Slot) (r : St) : setF 0 s (x :: r) = .nx (s :: r) := rfl
def consF (x : Slot) : F → F
  | .nx r => .nx (x :: r)
  | .rt d r => .rt d (x :: r)
  | .bk r => .bk (x :: r)
  | .ct r => .ct (x :: r)
  | .exc e r => .exc e (x :: r)
  | .bad => .bad
theorem setF_succ (i : Nat) (s x : Slot) (r : St) : setF (i + 1) s (x :: r) = consF x (setF i s r) := by
  unfold setF
  rw [setv_succ]
  cases setv i s r <;> rfl
theorem consF_nx (x : Slot) (r : St) : consF x (.nx r) = .nx (x :: r) := rfl
def setsF (is : List Nat) (l : List D) (r : St) : F := match setAll is l r with
  | some r => .nx r
  | none => .bad
theorem setsF_nil (r : St) : setsF [] [] r = .nx r := rfl
theorem setsF_cons (i : Nat) (is : List Nat) (d : D) (l : List D) (r : St) : setsF (i :: is) (d :: l) r = (setF i (.val d) r).then (setsF is l) := by
  unfold setsF setF
  simp only [setAll]
  cases setv i (.val d) r <;> rfl
def tgF (t : Tg) (d : D) (r : St) : F := match setTg t d r with
  | some r => .nx r
  | none => .bad
theorem tgF_one (i : Nat) (d : D) (r : St) : tgF (.one i) d r = setF i (.val d) r := rfl
theorem tgF_many (is : List Nat) (l : List D) (r : St) : tgF (.many is) (.tup l) r = setsF is l r := rfl
theorem tgF_manyL (is : List Nat) (l : List D) (r : St) : tgF (.many is) (.lst l) r = setsF is l r := rfl
theorem rdv_val {i : Nat} {r : St} {d : D} (h : r[i]? = some (.val d)) : rdv i r = .ok d r := by unfold rdv; rw [h]
theorem rdv_zero (d : D) (r : St) : rdv 0 (.val d :: r) = .ok d (.val d :: r) := rfl
theorem rdv_own0 (d : D) (r : St) : rdv 0 (.own d :: r) = .ok d (.val d :: r) := rfl
def consR {α : Type} (x : Slot) : R α → R α
  | .ok a r => .ok a (x :: r)
  | .exc e r => .exc e (x :: r)
  | .bad => .bad
theorem consR_ok {α : Type} (x : Slot) (a : α) (r : St) : consR x (.ok a r) = .ok a (x :: r) := rfl
theorem rdv_succ (i : Nat) (x : Slot) (r : St) : rdv (i + 1) (x :: r) = consR x (rdv i r) := by
  unfold rdv
  rw [List.getElem?_cons_succ]
  cases r[i]? with
  | none => rfl
  | some s => cases s <;> rfl
theorem pkv_val0 (d : D) (r : St) : pkv 0 (.val d :: r) = some d := rfl
theorem pkv_own0 (d : D) (r : St) : pkv 0 (.own d :: r) = some d := rfl
theorem pkv_io0 (d : D) (r : St) : pkv 0 (.io d :: r) = some d := rfl
theorem pkv_succ (i : Nat) (x : Slot) (r : St) : pkv (i + 1) (x :: r) = pkv i r := by
  unfold pkv
  rw [List.getElem?_cons_succ]
theorem iov_own0 (d : D) (r : St) : iov 0 (.own d :: r) = some d := rfl
theorem iov_io0 (d : D) (r : St) : iov 0 (.io d :: r) = some d := rfl
theorem iov_succ (i : Nat) (x : Slot) (r : St) : iov (i + 1) (x :: r) = iov i r := by
  unfold iov
  rw [List.getElem?_cons_succ]
theorem setio_own0 (d o : D) (r : St) : setio 0 o (.own d :: r) = .own o :: r := rfl
theorem setio_io0 (d o : D) (r : St) : setio 0 o (.io d :: r) = .io o :: r := rfl
theorem setio_succ (i : Nat) (o : D) (x : Slot) (r : St) : setio (i + 1) o (x :: r) = x :: setio i o r := by
  unfold setio
  rw [List.getElem?_cons_succ]
  cases r[i]? with
  | none => rfl
  | some s => cases s <;> rfl
/-! ### expressions -/
section
variable {C : Calls} {G : List D} {r : St}
theorem ev_var (i : Nat) : ev C G (.var i) r = rdv i r := by simp only [ev]
theorem ev_non : ev C G .non r = .ok .non r := by simp only [ev]
theorem ev_bl (b : Bool) : ev C G (.bl b) r = .ok (.bl b) r := by simp only [ev]
theorem ev_int (i : Int) : ev C G (.int i) r = .ok (.int i) r := by simp only [ev]
theorem ev_str (s : List Nat) : ev C G (.str s) r = .ok (.str s) r := by simp only [ev]
theorem ev_glo (g : Nat) : ev C G (.glo g) r = .of G[g]? r := by simp only [ev]
theorem ev_lst (es : List E) : ev C G (.lst es) r = (evs C G es r).bind fun l r => if l.length ≤ LINE then .ok (.lst l) r else .bad := by simp only [ev]
theorem ev_tup (es : List E) : ev C G (.tup es) r = (evs C G es r).bind fun l r => if l.length ≤ LINE then .ok (.tup l) r else .bad := by simp only [ev]
theorem evs_nil : evs C G [] r = .ok [] r := by simp only [evs]
theorem evs_cons (e : E) (es : List E) : evs C G (e :: es) r = (ev C G e r).bind fun d r => (evs C G es r).bind fun l r => .ok (d :: l) r := by simp only [evs]
theorem ev_bin (o : Op) (a b : E) : ev C G (.bin o a b) r = (ev C G a r).bind fun x r => (ev C G b r).bind fun y r => .of (o.g x y) r := by simp only [ev]
def negD (x : D) : Option D := match x with
  | .int i => some (.int (-i))
  | _ => none
theorem ev_neg (a : E) : ev C G (.neg a) r = (ev C G a r).bind fun x r => .of (negD x) r := by
  simp only [ev]
  refine congrArg (R.bind _) ?_; funext x r; cases x <;> rfl
theorem ev_cmp (c : Cp) (a b : E) : ev C G (.cmp c a b) r = (ev C G a r).bind fun x r => (ev C G b r).bind fun y r => .of ((c.f x y).map .bl) r := by simp only [ev]
theorem ev_cmp2 (c c' : Cp) (a b d : E) : ev C G (.cmp2 c c' a b d) r = (ev C G a r).bind fun x r => (ev C G b r).bind fun y r => (R.of ((c.f x y).map .bl) r).bind fun q r => brR q ((ev C G d r).bind fun z r => .of ((c'.f y z).map .bl) r) (.ok (.bl false) r) := by
  simp only [ev]
  congr 1; funext x r; congr 1; funext y r
  cases c.f x y with
  | none => rfl
  | some b => cases b <;> rfl
theorem ev_isN (a : E) : ev C G (.isN a) r = (ev C G a r).bind fun x r => .ok (.bl x.isNon) r := by simp only [ev]
theorem ev_notN (a : E) : ev C G (.notN a) r = (ev C G a r).bind fun x r => .ok (.bl !x.isNon) r := by simp only [ev]
theorem ev_isT (a : E) : ev C G (.isT a) r = (ev C G a r).bind toB := by
  simp only [ev]
  refine congrArg (R.bind _) ?_; funext x r; cases x <;> rfl
theorem ev_notT (a : E) : ev C G (.notT a) r = (ev C G a r).bind notB := by
  simp only [ev]
  refine congrArg (R.bind _) ?_; funext x r; cases x <;> rfl
theorem ev_inn (a b : E) : ev C G (.inn a b) r = (ev C G a r).bind fun x r => (ev C G b r).bind fun y r => .of ((inD x y).map .bl) r := by simp only [ev]
theorem ev_nin (a b : E) : ev C G (.nin a b) r = (ev C G a r).bind fun x r => (ev C G b r).bind fun y r => .of ((inD x y).map fun b => .bl !b) r := by simp only [ev]
theorem ofB (y : D) (r : St) : R.of ((tru y).map .bl) r = toB y r := by cases y <;> rfl
theorem ev_and (a b : E) : ev C G (.and a b) r = (ev C G a r).bind fun x r => brR x ((ev C G b r).bind toB) (.ok (.bl false) r) := by
  simp only [ev]
  congr 1; funext x r
  have : (fun (y : D) (r : St) => R.of ((tru y).map .bl) r) = toB := by funext y r; exact ofB y r
  rw [this]
  cases x <;> first | rfl | (rename_i b; cases b <;> rfl)
theorem ev_or (a b : E) : ev C G (.or a b) r = (ev C G a r).bind fun x r => brR x (.ok (.bl true) r) ((ev C G b r).bind toB) := by
  simp only [ev]
  congr 1; funext x r
  have : (fun (y : D) (r : St) => R.of ((tru y).map .bl) r) = toB := by funext y r; exact ofB y r
  rw [this]
  cases x <;> first | rfl | (rename_i b; cases b <;> rfl)
theorem ev_not (a : E) : ev C G (.not a) r = (ev C G a r).bind notB := by
  simp only [ev]
  refine congrArg (R.bind _) ?_; funext x r; cases x <;> rfl
theorem ev_ite (c a b : E) : ev C G (.ite c a b) r = (ev C G c r).bind fun x r => brR x (ev C G a r) (ev C G b r) := by
  simp only [ev]
  congr 1; funext x r
  cases x <;> first | rfl | (rename_i b; cases b <;> rfl)
theorem ev_idx (a i : E) : ev C G (.idx a i) r = (ev C G a r).bind fun x r => (ev C G i r).bind fun y r => .of (idxD x y) r := by simp only [ev]
theorem ev_idxv (v : Nat) (i : E) : ev C G (.idxv v i) r = if (pkv v r).isSome then (ev C G i r).bind fun y r => .of ((pkv v r).bind fun x => idxD x y) r else .bad := by simp only [ev]
theorem ev_sli (a : E) (lo hi : Option E) : ev C G (.sli a lo hi) r = (ev C G a r).bind fun x r => (evo C G lo r).bind fun l r => (evo C G hi r).bind fun h r => .of (sliD x l h) r := by simp only [ev]
theorem evo_none : evo C G none r = .ok none r := by simp only [evo]
def toI (d : D) (r : St) : R (Option Int) := match d with
  | .int i => .ok (some i) r
  | _ => .bad
theorem toI_int (i : Int) (r : St) : toI (.int i) r = .ok (some i) r := rfl
theorem evo_some (e : E) : evo C G (some e) r = (ev C G e r).bind toI := by
  simp only [evo]
  refine congrArg (R.bind _) ?_; funext x r; cases x <;> rfl
theorem ev_rev (a : E) : ev C G (.rev a) r = (ev C G a r).bind fun x r => .of (revD x) r := by simp only [ev]
theorem ev_bi (b : Bi) (es : List E) : ev C G (.bi b es) r = (evs C G es r).bind fun l r => .of (b.g l) r := by simp only [ev]
theorem ev_lenv (v : Nat) : ev C G (.lenv v) r = .of ((pkv v r).bind lenD) r := by simp only [ev]
theorem ev_isi (a : E) (t : Nat) : ev C G (.isi a t) r = (ev C G a r).bind fun x r => .of ((isiD x t).map .bl) r := by simp only [ev]
def mtD (m : Mt) (x y : D) : Option D := match x with
  | .str s => m.f s y
  | _ => none
theorem mtD_str (m : Mt) (s : List Nat) (y : D) : mtD m (.str s) y = m.f s y := rfl
theorem ev_mt (m : Mt) (o : E) (e : E) {s : List Nat} {r1 : St} (h : ev C G o r = .ok (.str s) r1) : ev C G (.mt m o e) r = (ev C G e r1).bind fun y r => .of (m.f s y) r := by simp only [ev, h, R.bind_ok]
def mtF (m : Mt) (x : D) (f : R D) : R D := match x with
  | .str s => f.bind fun y r => .of (m.f s y) r
  | _ => .bad
theorem mtF_str (m : Mt) (s : List Nat) (f : R D) : mtF m (.str s) f = f.bind fun y r => .of (m.f s y) r := rfl
theorem ev_mtx (m : Mt) (o e : E) : ev C G (.mt m o e) r = (ev C G o r).bind fun x r => mtF m x (ev C G e r) := by
  simp only [ev]
  refine congrArg (R.bind _) ?_; funext x r; cases x <;> rfl
def sidxR (C : Calls) (G : List D) (e : E) (x : D) (r : St) : R D := match x with
  | .lst l => (ev C G e r).bind fun y r => .of (sidxD l y) r
  | _ => .bad
theorem sidxR_lst {C : Calls} {G : List D} {e : E} {l : List D} {r : St} : sidxR C G e (.lst l) r = (ev C G e r).bind fun y r => .of (sidxD l y) r := rfl
theorem ev_sidx (o e : E) : ev C G (.sidx o e) r = (ev C G o r).bind (sidxR C G e) := by simp only [ev]; rfl
theorem ev_eqv (v : Nat) (neg : Bool) (e : E) : ev C G (.eqv v neg e) r = if (pkv v r).isSome then (ev C G e r).bind fun y r => .of ((pkv v r).bind fun x => eqvD neg x y) r else .bad := by simp only [ev]
theorem eqvD_f {l : List D} {y : D} : eqvD false (.lst l) y = (eqD (.lst l) y).map .bl := by simp only [eqvD]; congr 1
theorem eqvD_t {l : List D} {y : D} : eqvD true (.lst l) y = (eqD (.lst l) y).map fun b => .bl (!b) := rfl
theorem ev_comp2 (elt : E) (t : Tg) (it : I) (t1 : Tg) (it1 : I) (ow ow1 : List Nat) : ev C G (.comp2 elt t it t1 it1 ow ow1) r = compR2 (evi C G it) t (evi C G it1) t1 (ev C G elt) ow ow1 r := by simp only [ev]
theorem revD_tup {l : List D} : revD (.tup l) = some (.tup l.reverse) := rfl
theorem revD_lst {l : List D} : revD (.lst l) = some (.lst l.reverse) := rfl
theorem ev_srtk (f : Nat) (a : E) : ev C G (.srtk f a) r = (ev C G a r).bind fun x r => .of (srtR C f x) r := by simp only [ev]
theorem ev_rngl (a b : E) : ev C G (.rngl a b) r = (ev C G a r).bind fun x r => (ev C G b r).bind fun y r => .of (lrgD x y) r := by simp only [ev]
theorem ev_call0 (f : Nat) : ev C G (.call0 f) r = (C f []).valK r := by simp only [ev]
theorem ev_call (f : Nat) (es : List E) : ev C G (.call f es) r = (evs C G es r).bind fun l r => (C f (l.map .val)).val r := by simp only [ev]
def ioF (C : Calls) (f v : Nat) (l : List D) (r : St) : R D := match iov v r with
  | some x => (C f (.io x :: l.map .val)).valio v r
  | none => .bad
theorem ev_callio (f v : Nat) (es : List E) : ev C G (.callio f v es) r = if (iov v r).isSome then (evs C G es r).bind (ioF C f v) else .bad := by simp only [ev]; rfl
theorem ioF_some {f v : Nat} {l : List D} {x : D} (h : iov v r = some x) : ioF C f v l r = (C f (.io x :: l.map .val)).valio v r := by unfold ioF; rw [h]
theorem ev_callk (f : Nat) (es : List E) (ks : List Nat) : ev C G (.callk f es ks) r = (evs C G es r).bind fun l r => (C f (ks.map fun k => .val (l.getD k .non))).valK r := by simp only [ev]
theorem ev_comp (elt : E) (tg : Tg) (it : I) (cond : Option E) (own : List Nat) : ev C G (.comp elt tg it cond own) r = compR (evi C G it) tg (evc C G cond) (ev C G elt) own r := by simp only [ev]
def dsubD (ks : List (List Nat)) (vs : List D) (x : D) : Option D := match x with
  | .str s => dlook ks vs s
  | _ => none
theorem ev_dsub (ks : List (List Nat)) (vs : List D) (i : E) : ev C G (.dsub ks vs i) r = (ev C G i r).bind fun x r => .of (dsubD ks vs x) r := by
  simp only [ev]
  refine congrArg (R.bind _) ?_; funext x r; cases x <;> rfl
def dgetD (ks : List (List Nat)) (vs : List D) (x y : D) : Option D := match x with
  | .str s => some ((dlook ks vs s).getD y)
  | _ => none
theorem ev_dget (ks : List (List Nat)) (vs : List D) (i d : E) : ev C G (.dget ks vs i d) r = (ev C G i r).bind fun x r => (ev C G d r).bind fun y r => .of (dgetD ks vs x y) r := by
  simp only [ev]
  congr 1; funext x r; congr 1; funext y r; cases x <;> rfl
theorem evi_e (e : E) : evi C G (.e e) r = (ev C G e r).bind fun d r => .of (itemsD d) r := by simp only [evi]
theorem evi_rng1 (a : E) : evi C G (.rng1 a) r = (ev C G a r).bind fun x r => .of (rng1 x) r := by simp only [evi]
theorem evi_rng2 (a b : E) : evi C G (.rng2 a b) r = (ev C G a r).bind fun x r => (ev C G b r).bind fun y r => .of (rng2 x y) r := by simp only [evi]
theorem evi_rng3 (a b : E) : evi C G (.rng3 a b) r = (ev C G a r).bind fun x r => (ev C G b r).bind fun y r => .of (rng3 x y) r := by simp only [evi]
theorem evi_enum (e : E) : evi C G (.enum e) r = (ev C G e r).bind fun d r => .of ((itemsD d).map (enumL 0)) r := by simp only [evi]
theorem evi_zip (a b : E) : evi C G (.zip a b) r = (ev C G a r).bind fun x r => (ev C G b r).bind fun y r => .of (zipD x y) r := by simp only [evi]
theorem evc_none : evc C G none r = .ok (.bl true) r := by simp only [evc]
theorem evc_some (e : E) : evc C G (some e) r = ev C G e r := by simp only [evc]
/-! ### statements -/
theorem exs_nil : exs C G [] r = .nx r := by simp only [exs]
theorem exs_cons (s : S) (ss : List S) : exs C G (s :: ss) r = (ex C G s r).then (exs C G ss) := by simp only [exs]
theorem ex_set (i : Nat) (e : E) : ex C G (.set i e) r = (ev C G e r).fl fun d r => setF i (.val d) r := by simp only [ex]; rfl
def ownF (i : Nat) (d : D) (r : St) : F := match d with
  | .lst l => setF i (.own (.lst l)) r
  | _ => .bad
theorem ownF_lst (i : Nat) (l : List D) (r : St) : ownF i (.lst l) r = setF i (.own (.lst l)) r := rfl
theorem ex_own (i : Nat) (e : E) : ex C G (.own i e) r = (ev C G e r).fl (ownF i) := by
  simp only [ex]
  refine congrArg (R.fl _) ?_; funext d r; cases d <;> rfl
theorem ex_setT (is : List Nat) (e : E) : ex C G (.setT is e) r = (ev C G e r).fl fun d r => tgF (.many is) d r := by simp only [ex]; rfl
theorem ex_par (is : List Nat) (es : List E) : ex C G (.par is es) r = (evs C G es r).fl fun l r => setsF is l r := by simp only [ex]; rfl
def augF (i : Nat) (o : Op) (x : D) (y : D) (r : St) : F := match augD o x y with
  | some d => setF i (.val d) r
  | none => .bad
theorem ex_aug (i : Nat) (o : Op) (e : E) {x : D} (h : r[i]? = some (.val x)) : ex C G (.aug i o e) r = (ev C G e r).fl (augF i o x) := by
  simp only [ex, h]
  congr 1; funext y r
  unfold augF
  cases augD o x y <;> rfl
theorem ex_exp (e : E) : ex C G (.exp e) r = (ev C G e r).fl fun _ r => .nx r := by simp only [ex]
theorem ex_ret (e : E) : ex C G (.ret e) r = (ev C G e r).fl fun d r => .rt d r := by simp only [ex]
theorem ex_retN : ex C G .retN r = .rt .non r := by simp only [ex]
theorem ex_pass : ex C G .pass r = .nx r := by simp only [ex]
theorem ex_brk : ex C G .brk r = .bk r := by simp only [ex]
theorem ex_cont : ex C G .cont r = .ct r := by simp only [ex]
theorem ex_cond (c : E) (a b : List S) : ex C G (.cond c a b) r = (ev C G c r).fl fun d r => brF d (exs C G a r) (exs C G b r) := by
  simp only [ex]
  congr 1; funext d r
  cases d <;> first | rfl | (rename_i b; cases b <;> rfl)
theorem ex_loop (tg : Tg) (it : I) (b : List S) : ex C G (.loop tg it b) r = (evi C G it r).fl fun xs r => forL (exs C G b) tg xs r := by simp only [ex]
theorem ex_whil (c : E) (b : List S) : ex C G (.whil c b) r = whileL (ev C G c) (exs C G b) TURNS r := by simp only [ex]
def appF (v : Nat) (d : D) (r : St) : F := match iol v r with
  | some l => if l.length < LINE then .nx (setio v (.lst (l ++ [d])) r) else .bad
  | none => .bad
theorem ex_app (v : Nat) (e : E) : ex C G (.app v e) r = if (iol v r).isSome then (ev C G e r).fl (appF v) else .bad := by
  simp only [ex]
  have : (fun (d : D) (r : St) => (match r[v]? with
    | some (.own (.lst l)) => if l.length < LINE then F.nx (r.set v (.own (.lst (l ++ [d])))) else .bad
    | some (.io (.lst l)) => if l.length < LINE then .nx (r.set v (.io (.lst (l ++ [d])))) else .bad
    | _ => .bad)) = appF v := by
    funext d r
    unfold appF iol iov setio
    cases r[v]? with
    | none => rfl
    | some s => cases s <;> first | rfl | (rename_i x; cases x <;> rfl)
  rw [← this] <;> rfl
theorem iol_ownW {l : List D} {v : Nat} (h : iov v r = some (.lst l)) : iol v r = some l := by unfold iol; rw [h]
theorem iol_succ (i : Nat) (x : Slot) : iol (i + 1) (x :: r) = iol i r := by unfold iol; rw [iov_succ]
theorem iol_own0 (l : List D) : iol 0 (.own (.lst l) :: r) = some l := rfl
theorem iol_io0 (l : List D) : iol 0 (.io (.lst l) :: r) = some l := rfl
theorem appF_of {v : Nat} {l : List D} (d : D) (h : iol v r = some l) : appF v d r = if l.length < LINE then .nx (setio v (.lst (l ++ [d])) r) else .bad := by unfold appF; rw [h]
theorem appF_own0 (l : List D) (d : D) : appF 0 d (.own (.lst l) :: r) = if l.length < LINE then .nx (.own (.lst (l ++ [d])) :: r) else .bad := rfl
theorem appF_io0 (l : List D) (d : D) : appF 0 d (.io (.lst l) :: r) = if l.length < LINE then .nx (.io (.lst (l ++ [d])) :: r) else .bad := rfl
theorem appF_succ (v : Nat) (d : D) (x : Slot) : appF (v + 1) d (x :: r) = consF x (appF v d r) := by
  unfold appF
  rw [iol_succ]
  cases iol v r with
  | none => rfl
  | some l =>
    dsimp only
    split
    · rw [setio_succ]; rfl
    · rfl
def putF (v : Nat) (d k : D) (r : St) : F := match k with
  | .int k => (match iol v r with
    | some l => if 0 ≤ k ∧ k < l.length then .nx (setio v (.lst (l.set k.toNat d)) r) else .bad
    | none => .bad)
  | _ => .bad
theorem ex_put (v : Nat) (i e : E) : ex C G (.put v i e) r = (ev C G e r).fl fun d r => if (iov v r).isSome then (ev C G i r).fl (putF v d) else .bad := by
  simp only [ex]
  refine congrArg (R.fl _) ?_; funext d r
  have : (fun (k : D) (r : St) => (match k with
    | .int k => (match r[v]? with
      | some (.own (.lst l)) => if 0 ≤ k ∧ k < l.length then F.nx (r.set v (.own (.lst (l.set k.toNat d)))) else .bad
      | some (.io (.lst l)) => if 0 ≤ k ∧ k < l.length then .nx (r.set v (.io (.lst (l.set k.toNat d)))) else .bad
      | _ => .bad)
    | _ => .bad)) = putF v d := by
    funext k r
    unfold putF iol iov setio
    cases k <;> first | rfl | skip
    dsimp only
    cases r[v]? with
    | none => rfl
    | some s => cases s <;> first | rfl | (rename_i x; cases x <;> rfl)
  rw [← this] <;> rfl
theorem putF_own0 (l : List D) (d : D) (k : Int) : putF 0 d (.int k) (.own (.lst l) :: r) = if 0 ≤ k ∧ k < l.length then .nx (.own (.lst (l.set k.toNat d)) :: r) else .bad := rfl
theorem putF_io0 (l : List D) (d : D) (k : Int) : putF 0 d (.int k) (.io (.lst l) :: r) = if 0 ≤ k ∧ k < l.length then .nx (.io (.lst (l.set k.toNat d)) :: r) else .bad := rfl
theorem putF_succ (v : Nat) (d k : D) (x : Slot) : putF (v + 1) d k (x :: r) = consF x (putF v d k r) := by
  unfold putF
  cases k <;> first | rfl | skip
  dsimp only
  rw [iol_succ]
  cases iol v r with
  | none => rfl
  | some l =>
    dsimp only
    split
    · rw [setio_succ]; rfl
    · rfl
end
/-! ### operations by kinds -/
theorem g_add (a b : Int) : Op.g .add (.int a) (.int b) = some (.int (a + b)) := rfl
theorem g_sub (a b : Int) : Op.g .sub (.int a) (.int b) = some (.int (a - b)) := rfl
theorem g_mul {a b : Int} (ha : a.natAbs < BIG) (hb : b.natAbs < BIG) : Op.g .mul (.int a) (.int b) = some (.int (a * b)) := by
  show (if a.natAbs < BIG ∧ b.natAbs < BIG then some (D.int (a * b)) else none) = _
  rw [if_pos ⟨ha, hb⟩]
theorem g_mod {a b : Int} (hb : 0 < b) : Op.g .mod (.int a) (.int b) = some (.int (a % b)) := if_pos hb
theorem g_div {a b : Int} (h : 0 < b) (hb : b.natAbs < BIG) : Op.g .div (.int a) (.int b) = some (.int (a / b)) := by
  show (if 0 < b ∧ b.natAbs < BIG then some (D.int (a / b)) else none) = _
  rw [if_pos ⟨h, hb⟩]
theorem g_pow {a b : Int} (h : 0 ≤ b ∧ b ≤ 1000 ∧ a.natAbs < 2 ^ 60) : Op.g .pow (.int a) (.int b) = some (.int (a ^ b.toNat)) := if_pos h
theorem g_addS {a b : List Nat} (h : a.length + b.length ≤ LINE) : Op.g .add (.str a) (.str b) = some (.str (a ++ b)) := if_pos h
theorem g_addL {a b : List D} (h : a.length + b.length ≤ LINE) : Op.g .add (.lst a) (.lst b) = some (.lst (a ++ b)) := if_pos h
theorem g_mulS {a : List Nat} {k : Int} (h1 : -1000000000 ≤ k) (h2 : k ≤ 1000000000) (h : a.length * k.toNat ≤ LINE) : Op.g .mul (.str a) (.int k) = some (.str (rep a k.toNat)) := if_pos ⟨by unfold small; simp; omega, h⟩
theorem aug_add (a b : Int) : augD .add (.int a) (.int b) = some (.int (a + b)) := rfl
theorem aug_sub (a b : Int) : augD .sub (.int a) (.int b) = some (.int (a - b)) := rfl
theorem aug_addS {a b : List Nat} (h : a.length + b.length ≤ LINE) : augD .add (.str a) (.str b) = some (.str (a ++ b)) := if_pos h
theorem augF_add (i : Nat) (a b : Int) (r : St) : augF i .add (.int a) (.int b) r = setF i (.val (.int (a + b))) r := rfl
theorem augF_sub (i : Nat) (a b : Int) (r : St) : augF i .sub (.int a) (.int b) r = setF i (.val (.int (a - b))) r := rfl
theorem augF_addS {i : Nat} {a b : List Nat} {r : St} (h : a.length + b.length ≤ LINE) : augF i .add (.str a) (.str b) r = setF i (.val (.str (a ++ b))) r := by unfold augF; rw [aug_addS h]
theorem eqD_int (a b : Int) : eqD (.int a) (.int b) = some (decide (a = b)) := by
  by_cases h : a = b <;> simp [eqD, shal, eqd, h]
theorem eqD_str (a b : List Nat) : eqD (.str a) (.str b) = some (decide (a = b)) := by
  by_cases h : a = b <;> simp [eqD, shal, eqd, h]
theorem eqD_bl (a b : Bool) : eqD (.bl a) (.bl b) = some (decide (a = b)) := by
  by_cases h : a = b <;> simp [eqD, shal, eqd, h]
theorem f_eq (a b : D) : Cp.f .eq a b = eqD a b := rfl
theorem f_ne (a b : D) : Cp.f .ne a b = (eqD a b).map (!·) := by cases a <;> cases b <;> rfl
theorem f_lt (a b : Int) : Cp.f .lt (.int a) (.int b) = some (decide (a < b)) := rfl
theorem f_le (a b : Int) : Cp.f .le (.int a) (.int b) = some (decide (a ≤ b)) := rfl
theorem f_gt (a b : Int) : Cp.f .gt (.int a) (.int b) = some (decide (b < a)) := rfl
theorem f_ge (a b : Int) : Cp.f .ge (.int a) (.int b) = some (decide (b ≤ a)) := rfl
theorem lenD_str (s : List Nat) : lenD (.str s) = some (.int s.length) := rfl
theorem lenD_lst (s : List D) : lenD (.lst s) = some (.int s.length) := rfl
theorem lenD_tup (s : List D) : lenD (.tup s) = some (.int s.length) := rfl
theorem bi_len (d : D) : Bi.g .len [d] = lenD d := rfl
theorem bi_tupL (l : List D) : Bi.g .tuple [.lst l] = some (.tup l) := rfl
theorem bi_tupT (l : List D) : Bi.g .tuple [.tup l] = some (.tup l) := rfl
theorem bi_lstL (l : List D) : Bi.g .list [.lst l] = some (.lst l) := rfl
theorem bi_lstT (l : List D) : Bi.g .list [.tup l] = some (.lst l) := rfl
theorem bi_lstS (s : List Nat) : Bi.g .list [.str s] = some (.lst (s.map fun c => .str [c])) := rfl
theorem bi_abs (i : Int) : Bi.g .abs [.int i] = some (.int i.natAbs) := rfl
theorem bi_max2 (a b : Int) : Bi.g .max2 [.int a, .int b] = some (.int (if b > a then b else a)) := rfl
theorem bi_min2 (a b : Int) : Bi.g .min2 [.int a, .int b] = some (.int (if b < a then b else a)) := rfl
theorem bi_all (l : List D) : Bi.g .all [.lst l] = (blsOf l).map fun bs => .bl (bs.all id) := rfl
theorem bi_any (l : List D) : Bi.g .any [.lst l] = (blsOf l).map fun bs => .bl (bs.any id) := rfl
theorem bi_sum (l : List D) : Bi.g .sum [.lst l] = (intsOf l).map fun bs => .int bs.sum := rfl
theorem bi_srt (l : List D) : Bi.g .srt [.lst l] = (intsOf l).map fun ns => .lst ((ns.mergeSort fun a b => decide (a ≤ b)).map .int) := rfl
theorem bi_int (i : Int) : Bi.g .int [.int i] = some (.int i) := rfl
theorem bi_intB (b : Bool) : Bi.g .int [.bl b] = some (.int (if b then 1 else 0)) := rfl
theorem blsOf_map {α : Type} (f : α → Bool) (l : List α) : blsOf (l.map fun x => .bl (f x)) = some (l.map f) := by
  induction l with
  | nil => rfl
  | cons x l ih => simp [blsOf, ih]
theorem intsOf_map {α : Type} (f : α → Int) (l : List α) : intsOf (l.map fun x => .int (f x)) = some (l.map f) := by
  induction l with
  | nil => rfl
  | cons x l ih => simp [intsOf, ih]
theorem strsOf_map {α : Type} (f : α → List Nat) (l : List α) : strsOf (l.map fun x => .str (f x)) = some (l.map f) := by
  induction l with
  | nil => rfl
  | cons x l ih => simp [strsOf, ih]
theorem itemsD_lst (l : List D) : itemsD (.lst l) = some l := rfl
theorem itemsD_tup (l : List D) : itemsD (.tup l) = some l := rfl
theorem itemsD_str (s : List Nat) : itemsD (.str s) = some (s.map fun c => .str [c]) := rfl
theorem rng1_int {b : Int} (h : small b = true) : rng1 (.int b) = some (rngL 0 b) := if_pos h
theorem rng2_int {a b : Int} (h : (small a && small b) = true) : rng2 (.int a) (.int b) = some (rngL a b) := if_pos h
theorem rng3_int {a b : Int} (h : (small a && small b) = true) : rng3 (.int a) (.int b) = some (rngB a b) := if_pos h
theorem small_of {a : Int} (h1 : -1000000000 ≤ a) (h2 : a ≤ 1000000000) : small a = true := by unfold small; simp; omega
theorem val_ret (d o : D) (r : St) : (CR.ret d o).val r = .ok d r := rfl
theorem valK_ret (d o : D) (r : St) : (CR.ret d o).valK r = .ok d r := rfl
theorem valio_ret (d o : D) (v : Nat) (r : St) : (CR.ret d o).valio v r = .ok d (setio v o r) := rfl
theorem idxD_nat {l : List D} {i : Nat} (h : i < l.length) : idxD (.lst l) (.int i) = some l[i] := by
  simp [idxD, atL, h]
theorem idxT_nat {l : List D} {i : Nat} (h : i < l.length) : idxD (.tup l) (.int i) = some l[i] := by
  simp [idxD, atL, h]
theorem isNon_non : D.isNon .non = true := rfl
theorem isNon_bl (b : Bool) : D.isNon (.bl b) = false := rfl
theorem isNon_int (b : Int) : D.isNon (.int b) = false := rfl
theorem isNon_str (b : List Nat) : D.isNon (.str b) = false := rfl
theorem isNon_lst (b : List D) : D.isNon (.lst b) = false := rfl
theorem isNon_tup (b : List D) : D.isNon (.tup b) = false := rfl
theorem isi_non (t : Nat) : isiD .non t = some (t == 9) := rfl
theorem isi_bl (b : Bool) (t : Nat) : isiD (.bl b) t = some (t == 0 || t == 1) := rfl
theorem isi_int (b : Int) (t : Nat) : isiD (.int b) t = some (t == 0) := rfl
theorem isi_str (b : List Nat) (t : Nat) : isiD (.str b) t = some (t == 2) := rfl
theorem isi_tup (b : List D) (t : Nat) : isiD (.tup b) t = some (t == 3) := rfl
theorem isi_lst (b : List D) (t : Nat) : isiD (.lst b) t = some (t == 4) := rfl
/-! ### defs -/
class Has (P : Prog) (f : Nat) (fn : outParam Fn) : Prop where
  h : P.get f = some fn
theorem call_of {P : Prog} {f n : Nat} {fn : Fn} [hp : Has P f fn] (as : List Slot) : callN P (n + 1) f as = runFn (callN P n) P.glo fn as := by
  simp only [callN, hp.h]
/-- a body's end is this answer -/
def RetF (as : List Slot) (d o : D) : F → Prop
  | .rt d' r => d' = d ∧ outOf as r = some o
  | .nx r => .non = d ∧ outOf as r = some o
  | _ => False
theorem fn_ret {P : Prog} {f n : Nat} {fn : Fn} [hp : Has P f fn] {as : List Slot} {d o : D} (h0 : as.length = fn.np) (h : RetF as d o (exs (callN P n) P.glo fn.body (as ++ List.replicate (fn.nl - fn.np) .no))) : callN P (n + 1) f as = .ret d o := by
  rw [call_of]
  unfold runFn
  rw [if_pos h0]
  revert h
  cases exs (callN P n) P.glo fn.body (as ++ List.replicate (fn.nl - fn.np) .no) <;> simp only [RetF] <;> intro h <;> first | exact h.elim | (obtain ⟨h1, h2⟩ := h; simp only [h2, h1])
/-- the same with an answer that is told by a property -/
def RetP (as : List Slot) (Q : D → D → Prop) : F → Prop
  | .rt d r => ∃ o, outOf as r = some o ∧ Q d o
  | .nx r => ∃ o, outOf as r = some o ∧ Q .non o
  | _ => False
theorem fn_retP {P : Prog} {f n : Nat} {fn : Fn} [hp : Has P f fn] {as : List Slot} {Q : D → D → Prop} (h0 : as.length = fn.np) (h : RetP as Q (exs (callN P n) P.glo fn.body (as ++ List.replicate (fn.nl - fn.np) .no))) : ∃ d o, callN P (n + 1) f as = .ret d o ∧ Q d o := by
  rw [call_of]
  unfold runFn
  rw [if_pos h0]
  revert h
  cases exs (callN P n) P.glo fn.body (as ++ List.replicate (fn.nl - fn.np) .no) <;> simp only [RetP] <;> intro h <;> first | exact h.elim | (obtain ⟨o, h1, h2⟩ := h; simp only [h1]; exact ⟨_, _, rfl, h2⟩)
/-- an error leaves -/
def ExF (as : List Slot) (x o : D) : F → Prop
  | .exc y r => y = x ∧ outOf as r = some o
  | _ => False
theorem fn_exc {P : Prog} {f n : Nat} {fn : Fn} [hp : Has P f fn] {as : List Slot} {x o : D} (h0 : as.length = fn.np) (h : ExF as x o (exs (callN P n) P.glo fn.body (as ++ List.replicate (fn.nl - fn.np) .no))) : callN P (n + 1) f as = .exc x o := by
  rw [call_of]
  unfold runFn
  rw [if_pos h0]
  revert h
  cases exs (callN P n) P.glo fn.body (as ++ List.replicate (fn.nl - fn.np) .no) <;> simp only [ExF] <;> intro h <;> first | exact h.elim | (obtain ⟨h1, h2⟩ := h; simp only [h2, h1])
theorem ExF_exc {as : List Slot} {x o y : D} {r : St} : ExF as x o (.exc y r) = (y = x ∧ outOf as r = some o) := rfl
theorem val_exc (x o : D) (r : St) : (CR.exc x o).val r = .exc x r := rfl
theorem ex_rais0 {C : Calls} {G : List D} {r : St} (c : Nat) : ex C G (.rais c []) r = .exc (.exc c []) r := by simp only [ex, evs, R.fl_ok]
theorem ex_tryA {C : Calls} {G : List D} {r : St} (b : List S) (ks : List Nat) (c i v : Nat) : ex C G (.tryA b ks c i v) r = tryK ks c i v (exs C G b r) := by simp only [ex]
theorem tryK_nx {ks : List Nat} {c i v : Nat} {r : St} : tryK ks c i v (.nx r) = .nx r := rfl
theorem tryK_rt {ks : List Nat} {c i v : Nat} {r : St} {d : D} : tryK ks c i v (.rt d r) = .rt d r := rfl
theorem tryK_ite {ks : List Nat} {c i v : Nat} {p : Prop} [Decidable p] (x y : F) : tryK ks c i v (if p then x else y) = if p then tryK ks c i v x else tryK ks c i v y := by split <;> rfl
theorem tryK_yes {ks : List Nat} {c i v k : Nat} {r : St} (h1 : ks.contains k = true) (h2 : subX k c = true) (h3 : i < r.length ∧ v < r.length ∧ i ≠ v) : tryK ks c i v (.exc (.exc k []) r) = .nx (((r.set i (.val (.exc k []))).set v (.val (.exc k []))).set i .no) := by
  simp only [tryK]
  rw [if_pos h1, if_pos h2, if_pos h3]
theorem vlv_val0 (d : D) (r : St) : vlv 0 (.val d :: r) = some d := rfl
theorem vlv_succ (i : Nat) (x : Slot) (r : St) : vlv (i + 1) (x :: r) = vlv i r := by
  unfold vlv
  rw [List.getElem?_cons_succ]
theorem ev_rep1 {C : Calls} {G : List D} {r : St} (v : Nat) : ev C G (.rep1 v) r = .of (rep1D (vlv v r)) r := by simp only [ev]
theorem ev_wfr {C : Calls} {G : List D} {r : St} (v w g i : Nat) (ks : List (List Nat)) (vs : List D) : ev C G (.wfr v w g i ks vs) r = .of (wfrD (vlv v r) (vlv w r) (G[g]?) ks vs) r := by simp only [ev]
theorem mtf_count (s : List Nat) (c : Nat) : Mt.f .count s (.str [c]) = some (.int (s.countP fun x => x == c : Nat)) := rfl
theorem ev_isx {C : Calls} {G : List D} {r : St} (a : E) (ks : List Nat) (t : Nat) : ev C G (.isx a ks t) r = (ev C G a r).bind fun x r => .of (isxD ks t x) r := by simp only [ev]
theorem isNon_exc (k : Nat) (l : List D) : D.isNon (.exc k l) = false := rfl
theorem RetF_rt {as : List Slot} {d o d' : D} {r : St} : RetF as d o (.rt d' r) = (d' = d ∧ outOf as r = some o) := rfl
theorem RetF_nx {as : List Slot} {d o : D} {r : St} : RetF as d o (.nx r) = (.non = d ∧ outOf as r = some o) := rfl
theorem RetP_rt {as : List Slot} {Q : D → D → Prop} {d : D} {r : St} : RetP as Q (.rt d r) = ∃ o, outOf as r = some o ∧ Q d o := rfl
theorem RetP_nx {as : List Slot} {Q : D → D → Prop} {r : St} : RetP as Q (.nx r) = ∃ o, outOf as r = some o ∧ Q .non o := rfl
theorem outOf_nil (r : St) : outOf [] r = some .non := rfl
theorem outOf_val (d : D) (as : List Slot) (r : St) : outOf (.val d :: as) r = some .non := rfl
theorem outOf_io (d x : D) (as : List Slot) (r : St) : outOf (.io d :: as) (.io x :: r) = some x := rfl
def valAt (i : Nat) (r : St) : Option D := match r[i]? with
  | some (.val d) => some d
  | _ => none
theorem valAt_zero (d : D) (r : St) : valAt 0 (.val d :: r) = some d := rfl
theorem valAt_succ (i : Nat) (x : Slot) (r : St) : valAt (i + 1) (x :: r) = valAt i r := by unfold valAt; rw [List.getElem?_cons_succ]
def optF (o : Option D) (f : D → F) : F := match o with
  | some d => f d
  | none => .bad
theorem optF_some (d : D) (f : D → F) : optF (some d) f = f d := rfl
theorem ex_aug2 {C : Calls} {G : List D} {r : St} (i : Nat) (o : Op) (e : E) : ex C G (.aug i o e) r = optF (valAt i r) fun x => (ev C G e r).fl (augF i o x) := by
  unfold valAt
  cases h : r[i]? with
  | none => simp only [ex, h]; rfl
  | some s => cases s <;> first | exact ex_aug i o e h | (simp only [ex, h]; rfl)
def ioG (C : Calls) (f v : Nat) (l : List D) (r : St) : Option D → R D
  | some x => (C f (.io x :: l.map .val)).valio v r
  | none => .bad
theorem ioF_own {C : Calls} {f v : Nat} {l : List D} {r : St} : ioF C f v l r = ioG C f v l r (iov v r) := by unfold ioF ioG; cases iov v r <;> rfl
theorem ioG_some {C : Calls} {f v : Nat} {l : List D} {r : St} (x : D) : ioG C f v l r (some x) = (C f (.io x :: l.map .val)).valio v r := rfl
theorem revD_a : revD (.str [97, 45, 98]) = some (.str [98, 45, 97]) := rfl
theorem big_of {m k : Nat} (h : m < 2 ^ k) (hk : k ≤ 8000) : m < BIG := Nat.lt_of_lt_of_le h (by unfold BIG; exact Nat.pow_le_pow_right (by omega) hk)
theorem big60 {a : Int} (h1 : -1000000000000000000000000000000000000000000000000000000000000 ≤ a) (h2 : a ≤ 1000000000000000000000000000000000000000000000000000000000000) : a.natAbs < BIG :=
  big_of (k := 200) (Nat.lt_of_le_of_lt (m := 1000000000000000000000000000000000000000000000000000000000000) (by omega) (by decide)) (by decide)
/-! ### loops -/
def LpT (t : Tg) (x : D) (r : St) (K : St → Prop) : Prop := match setTg t x r with
  | some r => K r
  | none => False
def LpF (I B : St → Prop) (Q : F → Prop) : F → Prop
  | .nx r => I r
  | .ct r => I r
  | .bk r => B r
  | .rt d r => Q (.rt d r)
  | .exc x r => Q (.exc x r)
  | .bad => False
theorem LpF_nx {I B : St → Prop} {Q : F → Prop} {r : St} : LpF I B Q (.nx r) = I r := rfl
theorem LpF_ct {I B : St → Prop} {Q : F → Prop} {r : St} : LpF I B Q (.ct r) = I r := rfl
theorem LpF_bk {I B : St → Prop} {Q : F → Prop} {r : St} : LpF I B Q (.bk r) = B r := rfl
theorem LpF_rt {I B : St → Prop} {Q : F → Prop} {d : D} {r : St} : LpF I B Q (.rt d r) = Q (.rt d r) := rfl
/-- the target's store, then the body -/
theorem LpT_F {t : Tg} {x : D} {r : St} {b : St → F} {I B : St → Prop} {Q : F → Prop} (h : LpF I B Q ((tgF t x r).then b)) (hq : ∀ r', tgF t x r = .nx r' ∨ tgF t x r = .bad) : LpT t x r fun r => LpF I B Q (b r) := by
  unfold LpT
  unfold tgF at h
  cases e : setTg t x r with
  | none => rw [e] at h; exact h
  | some r1 => rw [e] at h; exact h
theorem wp_for {Q : F → Prop} {b rest : St → F} {t : Tg} (I : Nat → St → Prop) {xs : List D} {r : St} (h0 : I 0 r)
    (step : ∀ k x st, I k st → xs[k]? = some x → LpF (I (k + 1)) (fun r => Q (rest r)) Q ((tgF t x st).then b)) (fin : ∀ st, I xs.length st → Q (rest st)) : Q ((forL b t xs r).then rest) := by
  suffices h : ∀ (ys : List D) (k : Nat) (r : St), (∀ j, ys[j]? = xs[k + j]?) → k + ys.length = xs.length → I k r → Q ((forL b t ys r).then rest) from h xs 0 r (fun j => by rw [Nat.zero_add]) (Nat.zero_add _) h0
  intro ys
  induction ys with
  | nil => intro k r _ hl h; simp only [forL, F.then_nx]; exact fin r (by simp at hl; rw [← hl]; exact h)
  | cons y ys ih =>
    intro k r hy hl h
    have s := step k y r h (by rw [← Nat.add_zero k, ← hy 0]; rfl)
    have nxt : ∀ r', I (k + 1) r' → Q ((forL b t ys r').then rest) := fun r' h' => ih (k + 1) r' (fun j => by rw [show k + 1 + j = k + (j + 1) by omega, ← hy (j + 1)]; rfl) (by simp at hl; omega) h'
    simp only [forL]
    unfold tgF at s
    cases e : setTg t y r with
    | none => rw [e] at s; exact s.elim
    | some r1 =>
      rw [e] at s
      simp only [F.then_nx] at s ⊢
      cases e2 : b r1 with
      | nx r2 => rw [e2] at s; exact nxt r2 s
      | ct r2 => rw [e2] at s; exact nxt r2 s
      | bk r2 => rw [e2] at s; exact s
      | rt d r2 => rw [e2] at s; exact s
      | exc x r2 => rw [e2] at s; exact s
      | bad => rw [e2] at s; exact s.elim
/-- a loop that ends a body -/
theorem wp_for' {Q : F → Prop} {b : St → F} {t : Tg} (I : Nat → St → Prop) {xs : List D} {r : St} (h0 : I 0 r)
    (step : ∀ k x st, I k st → xs[k]? = some x → LpF (I (k + 1)) (fun r => Q (.nx r)) Q ((tgF t x st).then b)) (fin : ∀ st, I xs.length st → Q (.nx st)) : Q (forL b t xs r) := by
  have := wp_for (Q := Q) (rest := F.nx) I h0 step fin
  have e : ∀ x : F, x.then F.nx = x := fun x => by cases x <;> rfl
  rwa [e] at this
/-- while by an invariant with a measure -/
theorem wp_while {Q : F → Prop} {c : St → R D} {b rest : St → F} (I : Nat → St → Prop) {r : St} {n m : Nat} (h0 : I m r) (hm : m < n)
    (step : ∀ m st, I m st → ∃ (k : Bool) (r1 : St), c st = .ok (.bl k) r1 ∧ (k = false → Q (rest r1)) ∧ (k = true → LpF (fun r => ∃ m', m' < m ∧ I m' r) (fun r => Q (rest r)) Q (b r1))) : Q ((whileL c b n r).then rest) := by
  induction n generalizing m r with
  | zero => omega
  | succ n ih =>
    obtain ⟨k, r1, e, hf, ht⟩ := step m r h0
    simp only [whileL, e, R.fl_ok]
    cases k with
    | false => exact hf rfl
    | true =>
      have s := ht rfl
      dsimp only
      cases e2 : b r1 with
      | nx r2 => rw [e2] at s; obtain ⟨m', h1, h2⟩ := s; exact ih h2 (by omega)
      | ct r2 => rw [e2] at s; obtain ⟨m', h1, h2⟩ := s; exact ih h2 (by omega)
      | bk r2 => rw [e2] at s; exact s
      | rt d r2 => rw [e2] at s; exact s
      | exc x r2 => rw [e2] at s; exact s
      | bad => rw [e2] at s; exact s.elim
theorem rngL_get? {a b : Int} {j : Nat} {x : D} (h : (rngL a b)[j]? = some x) : x = .int (a + j) ∧ (j : Int) < b - a := by
  unfold rngL at h
  rw [List.getElem?_map] at h
  obtain ⟨k, h1, h2⟩ := Option.map_eq_some_iff.mp h
  have hj : j < (b - a).toNat := by
    have := (List.getElem?_eq_some_iff.mp h1).1
    simpa using this
  rw [List.getElem?_range hj] at h1
  cases h1
  exact ⟨h2.symm, by omega⟩
theorem rngB_get? {a b : Int} {j : Nat} {x : D} (h : (rngB a b)[j]? = some x) : x = .int (a - j) ∧ (j : Int) < a - b := by
  unfold rngB at h
  rw [List.getElem?_map] at h
  obtain ⟨k, h1, h2⟩ := Option.map_eq_some_iff.mp h
  have hj : j < (a - b).toNat := by
    have := (List.getElem?_eq_some_iff.mp h1).1
    simpa using this
  rw [List.getElem?_range hj] at h1
  cases h1
  exact ⟨h2.symm, by omega⟩
theorem rngL_len' {a b : Int} : (rngL a b).length = (b - a).toNat := by unfold rngL; simp
theorem rngB_len' {a b : Int} : (rngB a b).length = (a - b).toNat := by unfold rngB; simp
theorem chars_get? {s : List Nat} {j : Nat} {x : D} (h : (s.map fun c => D.str [c])[j]? = some x) : ∃ c, s[j]? = some c ∧ x = .str [c] := by
  rw [List.getElem?_map] at h
  obtain ⟨k, h1, h2⟩ := Option.map_eq_some_iff.mp h
  exact ⟨k, h1, h2.symm⟩
theorem map_get? {α : Type} {f : α → D} {s : List α} {j : Nat} {x : D} (h : (s.map f)[j]? = some x) : ∃ c, s[j]? = some c ∧ x = f c := by
  rw [List.getElem?_map] at h
  obtain ⟨k, h1, h2⟩ := Option.map_eq_some_iff.mp h
  exact ⟨k, h1, h2.symm⟩
/-! ### comprehensions -/
def RtR {α : Type} (Q : α → St → Prop) : R α → Prop
  | .ok a r => Q a r
  | _ => False
/-- by an invariant over what was made -/
theorem compL_inv {f : D → St → R (Option D)} (I : Nat → List D → St → Prop) {xs : List D} {r : St} (h0 : I 0 [] r)
    (step : ∀ k x acc st, I k acc st → xs[k]? = some x → ∃ o r', f x st = .ok o r' ∧ (match o with | some d => acc.length < LINE ∧ I (k + 1) (acc ++ [d]) r' | none => I (k + 1) acc r')) : ∃ l r', compL f xs [] r = .ok l r' ∧ I xs.length l r' := by
  suffices h : ∀ (ys : List D) (k : Nat) (acc : List D) (r : St), (∀ j, ys[j]? = xs[k + j]?) → k + ys.length = xs.length → I k acc r → ∃ l r', compL f ys acc r = .ok l r' ∧ I xs.length l r' from h xs 0 [] r (fun j => by rw [Nat.zero_add]) (Nat.zero_add _) h0
  intro ys
  induction ys with
  | nil => intro k acc r _ hl h; exact ⟨acc, r, rfl, by simp at hl; rw [← hl]; exact h⟩
  | cons y ys ih =>
    intro k acc r hy hl h
    obtain ⟨o, r', e, h2⟩ := step k y acc r h (by rw [← Nat.add_zero k, ← hy 0]; rfl)
    have hy' : ∀ j, ys[j]? = xs[k + 1 + j]? := fun j => by rw [show k + 1 + j = k + (j + 1) by omega, ← hy (j + 1)]; rfl
    have hl' : k + 1 + ys.length = xs.length := by simp at hl; omega
    simp only [compL, e]
    cases o with
    | none => exact ih (k + 1) acc r' hy' hl' h2
    | some d =>
      dsimp only at h2 ⊢
      rw [if_pos h2.1]
      exact ih (k + 1) _ r' hy' hl' h2.2
/-- all items by a function, the frame untouched -/
theorem comp_map {C : Calls} {G : List D} {elt : E} {t : Tg} {it : I} {ow : List Nat} {r r1 : St} {xs : List D} (g : D → D) (hi : evi C G it r = .ok xs r1) (hl : xs.length ≤ LINE)
    (hx : ∀ x ∈ xs, compB t (evc C G none) (ev C G elt) ow x (wipeS ow r1) = .ok (some (g x)) (wipeS ow r1)) : ev C G (.comp elt t it none ow) r = .ok (.lst (xs.map g)) (backS ow r1 (wipeS ow r1)) := by
  have key : ∀ (ys acc : List D), (∀ y ∈ ys, y ∈ xs) → acc.length + ys.length ≤ LINE → compL (compB t (evc C G none) (ev C G elt) ow) ys acc (wipeS ow r1) = .ok (acc ++ ys.map g) (wipeS ow r1) := by
    intro ys
    induction ys with
    | nil => intro acc _ _; simp [compL]
    | cons y ys ih =>
      intro acc hm hl
      simp only [List.length_cons] at hl
      simp only [compL, hx y (hm y List.mem_cons_self)]
      rw [if_pos (by omega), ih _ (fun z hz => hm z (List.mem_cons_of_mem _ hz)) (by simp; omega)]
      simp
  rw [ev_comp]
  unfold compR
  rw [hi]
  simp only [R.bind_ok]
  rw [key xs [] (fun _ h => h) (by simpa using hl)]
  rfl
theorem comp_filter {C : Calls} {G : List D} {elt : E} {t : Tg} {it : I} {ce : E} {ow : List Nat} {r r1 : St} {xs : List D} (p : D → Bool) (g : D → D) (hi : evi C G it r = .ok xs r1) (hl : xs.length ≤ LINE)
    (hx : ∀ x ∈ xs, compB t (evc C G (some ce)) (ev C G elt) ow x (wipeS ow r1) = .ok (if p x = true then some (g x) else none) (wipeS ow r1)) : ev C G (.comp elt t it (some ce) ow) r = .ok (.lst ((xs.filter p).map g)) (backS ow r1 (wipeS ow r1)) := by
  have key : ∀ (ys acc : List D), (∀ y ∈ ys, y ∈ xs) → acc.length + ys.length ≤ LINE → compL (compB t (evc C G (some ce)) (ev C G elt) ow) ys acc (wipeS ow r1) = .ok (acc ++ (ys.filter p).map g) (wipeS ow r1) := by
    intro ys
    induction ys with
    | nil => intro acc _ _; simp [compL]
    | cons y ys ih =>
      intro acc hm hl
      simp only [List.length_cons] at hl
      simp only [compL, hx y (hm y List.mem_cons_self)]
      cases e : p y with
      | true =>
        simp only [if_true]
        rw [if_pos (by omega), ih _ (fun z hz => hm z (List.mem_cons_of_mem _ hz)) (by simp; omega)]
        simp [e]
      | false =>
        simp only [Bool.false_eq_true, if_false]
        rw [ih _ (fun z hz => hm z (List.mem_cons_of_mem _ hz)) (by omega)]
        simp [e]
  rw [ev_comp]
  unfold compR
  rw [hi]
  simp only [R.bind_ok]
  rw [key xs [] (fun _ h => h) (by simpa using hl)]
  rfl
theorem compB_eq {t : Tg} {fc fe : St → R D} {ow : List Nat} {x : D} {r : St} : compB t fc fe ow x r = match tgF t x r with
    | .nx r => (fc r).bind fun d r => brR d ((fe r).bind fun d r => .ok (some d) (wipeS ow r)) (.ok none (wipeS ow r))
    | _ => .bad := by
  unfold compB tgF
  cases setTg t x r with
  | none => rfl
  | some r1 =>
    dsimp only
    refine congrArg (R.bind _) ?_
    funext d r
    cases d <;> first | rfl | (rename_i b; cases b <;> rfl)
theorem wipeS_cons (v : Nat) (vs : List Nat) (r : St) : wipeS (v :: vs) r = (wipeS vs r).set v .no := rfl
theorem wipeS_nil (r : St) : wipeS [] r = r := rfl
theorem backS_cons (v : Nat) (vs : List Nat) (r0 r : St) : backS (v :: vs) r0 r = (backS vs r0 r).set v (r0.getD v .no) := rfl
theorem backS_nil (r0 r : St) : backS [] r0 r = r := rfl
theorem comp_mapA {C : Calls} {G : List D} {elt : E} {t : Tg} {it : I} {ow : List Nat} {r r1 : St} {α : Type} {xs : List α} {mk : α → D} (g : α → D) (hi : evi C G it r = .ok (xs.map mk) r1) (hl : xs.length ≤ LINE)
    (hx : ∀ x ∈ xs, compB t (evc C G none) (ev C G elt) ow (mk x) (wipeS ow r1) = .ok (some (g x)) (wipeS ow r1)) : ev C G (.comp elt t it none ow) r = .ok (.lst (xs.map g)) (backS ow r1 (wipeS ow r1)) := by
  have key : ∀ (ys : List α) (acc : List D), (∀ y ∈ ys, y ∈ xs) → acc.length + ys.length ≤ LINE → compL (compB t (evc C G none) (ev C G elt) ow) (ys.map mk) acc (wipeS ow r1) = .ok (acc ++ ys.map g) (wipeS ow r1) := by
    intro ys
    induction ys with
    | nil => intro acc _ _; simp [compL]
    | cons y ys ih =>
      intro acc hm hl
      simp only [List.length_cons] at hl
      simp only [List.map_cons, compL, hx y (hm y List.mem_cons_self)]
      rw [if_pos (by omega), ih _ (fun z hz => hm z (List.mem_cons_of_mem _ hz)) (by simp; omega)]
      simp
  rw [ev_comp]
  unfold compR
  rw [hi]
  simp only [R.bind_ok]
  rw [key xs [] (fun _ h => h) (by simpa using hl)]
  rfl
theorem comp_all {C : Calls} {G : List D} {elt : E} {t : Tg} {it : I} {ow : List Nat} {r r1 : St} {α : Type} {xs : List α} {mk : α → D} (g : α → Bool) (hi : evi C G it r = .ok (xs.map mk) r1) (hl : xs.length ≤ LINE)
    (hx : ∀ x ∈ xs, compB t (evc C G none) (ev C G elt) ow (mk x) (wipeS ow r1) = .ok (some (.bl (g x))) (wipeS ow r1)) : ev C G (.comp elt t it none ow) r = .ok (.lst (xs.map fun x => .bl (g x))) (backS ow r1 (wipeS ow r1)) := by
  exact comp_mapA (fun x => .bl (g x)) hi hl hx
theorem all_map {α : Type} (g : α → Bool) (xs : List α) : Bi.g .all [.lst (xs.map fun x => .bl (g x))] = some (.bl (xs.all g)) := by
  rw [bi_all, blsOf_map]
  simp [List.all_map]
/-! a comprehension over a written list, item by item -/
theorem compL_nil {f : D → St → R (Option D)} {acc : List D} {r : St} : compL f [] acc r = .ok acc r := rfl
def accO (f : D → St → R (Option D)) (xs acc : List D) (r : St) : Option D → R (List D)
  | some d => if acc.length < LINE then compL f xs (acc ++ [d]) r else .bad
  | none => compL f xs acc r
theorem accO_some {f : D → St → R (Option D)} {xs acc : List D} {r : St} {d : D} : accO f xs acc r (some d) = if acc.length < LINE then compL f xs (acc ++ [d]) r else .bad := rfl
theorem accO_none {f : D → St → R (Option D)} {xs acc : List D} {r : St} : accO f xs acc r none = compL f xs acc r := rfl
def compC (f : D → St → R (Option D)) (xs acc : List D) : R (Option D) → R (List D)
  | .ok o r => accO f xs acc r o
  | _ => .bad
theorem compC_ok {f : D → St → R (Option D)} {xs acc : List D} {r : St} {o : Option D} : compC f xs acc (.ok o r) = accO f xs acc r o := rfl
theorem compL_cons {f : D → St → R (Option D)} {x : D} {xs acc : List D} {r : St} : compL f (x :: xs) acc r = compC f xs acc (f x r) := by
  simp only [compL]
  cases f x r with
  | ok o r => cases o <;> rfl
  | exc => rfl
  | bad => rfl
theorem compR_eq {fi : St → R (List D)} {t : Tg} {fc fe : St → R D} {ow : List Nat} {r : St} : compR fi t fc fe ow r = (fi r).bind fun xs r1 => (compL (compB t fc fe ow) xs [] (wipeS ow r1)).bind fun l r' => .ok (.lst l) (backS ow r1 r') := rfl
theorem compC_ite {f : D → St → R (Option D)} {xs acc : List D} {c : Prop} [Decidable c] {a b : R (Option D)} : compC f xs acc (if c then a else b) = if c then compC f xs acc a else compC f xs acc b := by split <;> rfl
theorem idxL0 {a : D} {l : List D} : idxD (.lst (a :: l)) (.int 0) = some a := rfl
theorem idxT0 {a : D} {l : List D} : idxD (.tup (a :: l)) (.int 0) = some a := rfl
theorem idxL1 {a b : D} {l : List D} : idxD (.lst (a :: b :: l)) (.int 1) = some b := rfl
theorem idxT1 {a b : D} {l : List D} : idxD (.tup (a :: b :: l)) (.int 1) = some b := rfl
theorem idxL2 {a b c : D} {l : List D} : idxD (.lst (a :: b :: c :: l)) (.int 2) = some c := rfl
theorem idxT2 {a b c : D} {l : List D} : idxD (.tup (a :: b :: c :: l)) (.int 2) = some c := rfl
theorem idxL3 {a b c d : D} {l : List D} : idxD (.lst (a :: b :: c :: d :: l)) (.int 3) = some d := rfl
theorem idxT3 {a b c d : D} {l : List D} : idxD (.tup (a :: b :: c :: d :: l)) (.int 3) = some d := rfl
theorem idxL4 {a b c d e : D} {l : List D} : idxD (.lst (a :: b :: c :: d :: e :: l)) (.int 4) = some e := rfl
theorem idxT4 {a b c d e : D} {l : List D} : idxD (.tup (a :: b :: c :: d :: e :: l)) (.int 4) = some e := rfl
theorem idxL5 {a b c d e f : D} {l : List D} : idxD (.lst (a :: b :: c :: d :: e :: f :: l)) (.int 5) = some f := rfl
theorem idxT5 {a b c d e f : D} {l : List D} : idxD (.tup (a :: b :: c :: d :: e :: f :: l)) (.int 5) = some f := rfl
theorem idxS0 {a : Nat} {l : List Nat} : idxD (.str (a :: l)) (.int 0) = some (.str [a]) := rfl
theorem idxS1 {a b : Nat} {l : List Nat} : idxD (.str (a :: b :: l)) (.int 1) = some (.str [b]) := rfl
theorem idxS2 {a b c : Nat} {l : List Nat} : idxD (.str (a :: b :: c :: l)) (.int 2) = some (.str [c]) := rfl
/-! ### a loop over a written list, item by item -/
def fcK (g : St → F) : F → F
  | .nx r => g r
  | .ct r => g r
  | .bk r => .nx r
  | x => x
theorem fcK_nx {g : St → F} {r : St} : fcK g (.nx r) = g r := rfl
theorem fcK_ct {g : St → F} {r : St} : fcK g (.ct r) = g r := rfl
theorem fcK_bk {g : St → F} {r : St} : fcK g (.bk r) = .nx r := rfl
theorem fcK_rt {g : St → F} {r : St} {d : D} : fcK g (.rt d r) = .rt d r := rfl
theorem forL_nil {b : St → F} {t : Tg} {r : St} : forL b t [] r = .nx r := rfl
theorem forL_cons {b : St → F} {t : Tg} {x : D} {xs : List D} {r : St} : forL b t (x :: xs) r = (tgF t x r).then fun r => fcK (forL b t xs) (b r) := by
  simp only [forL]
  unfold tgF
  cases setTg t x r with
  | none => rfl
  | some r1 =>
    simp only [F.then_nx]
    cases b r1 <;> rfl
/-! ### equal things are equal -/
mutual
theorem eqd_refl : ∀ (n : Nat) (d : D), shal n d = true → eqd d d = true
  | _, .non, _ => rfl
  | _, .bl a, _ => by simp [eqd]
  | _, .int a, _ => by simp [eqd]
  | _, .str a, _ => by simp [eqd]
  | 0, .lst l, h => by simp [shal] at h
  | 0, .tup l, h => by simp [shal] at h
  | n + 1, .lst l, h => by simp only [eqd]; exact eqds_refl n l (by simpa [shal] using h)
  | n + 1, .tup l, h => by simp only [eqd]; exact eqds_refl n l (by simpa [shal] using h)
  | n, .exc _ _, h => by cases n <;> simp [shal] at h
  | n, .dct _ _, h => by cases n <;> simp [shal] at h
theorem eqds_refl : ∀ (n : Nat) (l : List D), (∀ d ∈ l, shal n d = true) → eqds l l = true
  | _, [], _ => by simp [eqds]
  | n, d :: l, h => by
    simp only [eqds, Bool.and_eq_true]
    exact ⟨eqd_refl n d (h d List.mem_cons_self), eqds_refl n l fun x hx => h x (List.mem_cons_of_mem _ hx)⟩
end
theorem eqD_refl {d : D} (h : shal 9 d = true) : eqD d d = some true := by
  unfold eqD
  rw [h, eqd_refl 9 d h]
  rfl
theorem sliS_to {s : List Nat} {k : Int} (h : 0 ≤ k) : sliD (.str s) none (some k) = some (.str (s.take k.toNat)) := by
  simp only [sliD, cut, clip, List.drop_zero, Nat.sub_zero]
  rw [if_neg (by omega)]
  congr 2
  by_cases c : k.toNat ≤ s.length
  · rw [Nat.min_eq_left c]
  · rw [Nat.min_eq_right (by omega), List.take_of_length_le (Nat.le_refl _), List.take_of_length_le (by omega)]
theorem sliS_from {s : List Nat} {k : Int} (h : 0 ≤ k) : sliD (.str s) (some k) none = some (.str (s.drop k.toNat)) := by
  simp only [sliD, cut, clip]
  rw [if_neg (by omega)]
  congr 2
  by_cases c : k.toNat ≤ s.length
  · rw [Nat.min_eq_left c, List.take_of_length_le]
    simp
  · rw [Nat.min_eq_right (by omega), List.drop_of_length_le (show s.length ≤ k.toNat by omega)]
    simp
theorem enumL_nil {k : Nat} : enumL k [] = [] := rfl
theorem enumL_cons {k : Nat} {d : D} {l : List D} : enumL k (d :: l) = .tup [.int k, d] :: enumL (k + 1) l := rfl
theorem rep_one (c : Nat) : ∀ k : Nat, rep [c] k = List.replicate k c
  | 0 => rfl
  | k + 1 => by rw [List.replicate_succ, ← rep_one c k]; rfl
theorem rep_len1 (c k : Nat) : (rep [c] k).length = k := by rw [rep_one, List.length_replicate]
/-! ### two clauses -/
theorem compL_map {α : Type} {f : D → St → R (Option D)} {mk g : α → D} {r : St} : ∀ (xs : List α) (acc : List D), acc.length + xs.length ≤ LINE → (∀ x ∈ xs, f (mk x) r = .ok (some (g x)) r) → compL f (xs.map mk) acc r = .ok (acc ++ xs.map g) r
  | [], acc, _, _ => by simp [compL]
  | x :: xs, acc, hl, h => by
    simp only [List.length_cons] at hl
    simp only [List.map_cons, compL, h x List.mem_cons_self]
    rw [if_pos (by omega), compL_map xs _ (by simp; omega) fun y hy => h y (List.mem_cons_of_mem _ hy)]
    simp
theorem comp2_map {C : Calls} {G : List D} {elt : E} {t t1 : Tg} {it it1 : I} {ow ow1 : List Nat} {r r1 : St} {α β : Type} {xs : List α} {mk : α → D} {ys : α → List β} {mk1 : β → D} (g : β → D) (r2 r3 : α → St) (hi : evi C G it r = .ok (xs.map mk) r1) (hl : ∀ x ∈ xs, (ys x).length ≤ 1000) (hxs : xs.length ≤ 1000)
    (h1 : ∀ x ∈ xs, setTg t (mk x) (wipeS ow r1) = some (r2 x)) (h2 : ∀ x ∈ xs, evi C G it1 (r2 x) = .ok ((ys x).map mk1) (r3 x))
    (h3 : ∀ x ∈ xs, ∀ y ∈ ys x, compB t1 (evc C G none) (ev C G elt) ow1 (mk1 y) (wipeS ow1 (r3 x)) = .ok (some (g y)) (wipeS ow1 (r3 x))) (h4 : ∀ x ∈ xs, wipeS ow (wipeS ow1 (r3 x)) = wipeS ow r1) :
    ev C G (.comp2 elt t it t1 it1 ow ow1) r = .ok (.lst (xs.flatMap fun x => (ys x).map g)) (backS ow r1 (wipeS ow r1)) := by
  have fc : evc C G none = fun r => .ok (.bl true) r := by funext r; simp only [evc]
  rw [fc] at h3
  have key : ∀ (zs : List α) (acc : List D), (∀ z ∈ zs, z ∈ xs) → acc.length + 1000 * zs.length ≤ LINE → compL2 t (evi C G it1) t1 (ev C G elt) ow ow1 (zs.map mk) acc (wipeS ow r1) = .ok (acc ++ zs.flatMap fun x => (ys x).map g) (wipeS ow r1) := by
    intro zs
    induction zs with
    | nil => intro acc _ _; simp [compL2]
    | cons z zs ih =>
      intro acc hm hz
      simp only [List.length_cons] at hz
      have hz1 := hm z List.mem_cons_self
      have hzl := hl z hz1
      simp only [List.map_cons, compL2, h1 z hz1, h2 z hz1]
      rw [compL_map (ys z) acc (by omega) (h3 z hz1)]
      simp only [h4 z hz1]
      rw [ih _ (fun y hy => hm y (List.mem_cons_of_mem _ hy)) (by simp; omega)]
      simp
  rw [ev_comp2]
  unfold compR2
  rw [hi]
  simp only [R.bind_ok]
  rw [key xs [] (fun _ h => h) (by simp only [List.length_nil]; unfold LINE; omega)]
  rfl
theorem all_true : ∀ {l : List D}, (∀ d ∈ l, d = .bl true) → Bi.g .all [.lst l] = some (.bl true) := by
  intro l h
  have e : l = l.map fun _ => D.bl ((fun _ => true) ()) := by
    conv => lhs; rw [← List.map_id l]
    exact List.map_congr_left fun d hd => h d hd
  rw [e, all_map (fun _ : D => true)]
  simp
theorem ev_lmul {C : Calls} {G : List D} {es : List E} {e : E} {r : St} : ev C G (.lmul es e) r = (evs C G es r).bind fun l r => if l.length ≤ LINE then (ev C G e r).bind fun y r => .of (lmulD l y) r else .bad := by simp only [ev]
theorem lmulD_int {a : List D} {k : Int} (h1 : -1000000000 ≤ k) (h2 : k ≤ 1000000000) (h : a.length * k.toNat ≤ LINE) : lmulD a (.int k) = some (.lst (rep a k.toNat)) := if_pos ⟨by unfold small; simp; omega, h⟩
theorem rep_oneD {α : Type} (c : α) : ∀ k : Nat, rep [c] k = List.replicate k c
  | 0 => rfl
  | k + 1 => by rw [List.replicate_succ, ← rep_oneD c k]; rfl
/-! ### tuples -/
theorem g_addT {a b : List D} (h : a.length + b.length ≤ LINE) : Op.g .add (.tup a) (.tup b) = some (.tup (a ++ b)) := if_pos h
theorem g_mulT {a : List D} {k : Int} (h1 : 2 ≤ k) (h2 : k ≤ 1000) (h3 : a.isEmpty = false) (h4 : a.length ≤ 1000) : Op.g .mul (.tup a) (.int k) = some (.tup (rep a k.toNat)) := if_pos ⟨h1, h2, h3, h4⟩
theorem sliT_to {s : List D} {k : Int} (h : 0 ≤ k) : sliD (.tup s) none (some k) = some (.tup (s.take k.toNat)) := by
  simp only [sliD, cut, clip, List.drop_zero, Nat.sub_zero]
  rw [if_neg (by omega)]
  congr 2
  by_cases c : k.toNat ≤ s.length
  · rw [Nat.min_eq_left c]
  · rw [Nat.min_eq_right (by omega), List.take_of_length_le (Nat.le_refl _), List.take_of_length_le (by omega)]
theorem sliT_from {s : List D} {k : Int} (h : 0 ≤ k) : sliD (.tup s) (some k) none = some (.tup (s.drop k.toNat)) := by
  simp only [sliD, cut, clip]
  rw [if_neg (by omega)]
  congr 2
  by_cases c : k.toNat ≤ s.length
  · rw [Nat.min_eq_left c, List.take_of_length_le]
    simp
  · rw [Nat.min_eq_right (by omega), List.drop_of_length_le (show s.length ≤ k.toNat by omega)]
    simp
theorem sliL_to {s : List D} {k : Int} (h : 0 ≤ k) : sliD (.lst s) none (some k) = some (.lst (s.take k.toNat)) := by
  have := sliT_to (s := s) h
  simp only [sliD, Option.some.injEq, D.tup.injEq, D.lst.injEq] at this ⊢
  exact this
theorem sliL_from {s : List D} {k : Int} (h : 0 ≤ k) : sliD (.lst s) (some k) none = some (.lst (s.drop k.toNat)) := by
  have := sliT_from (s := s) h
  simp only [sliD, Option.some.injEq, D.tup.injEq, D.lst.injEq] at this ⊢
  exact this
/-! ### several clauses, counts, fields -/
section
variable {C : Calls} {G : List D} {r : St}
def lcntR (C : Calls) (G : List D) (e : E) (x : D) (r : St) : R D := match x with
  | .lst l => (ev C G e r).bind fun y r => .of (lcntD l y) r
  | _ => .bad
theorem lcntR_lst {e : E} {l : List D} : lcntR C G e (.lst l) r = (ev C G e r).bind fun y r => .of (lcntD l y) r := rfl
theorem ev_lcnt (o e : E) : ev C G (.lcnt o e) r = (ev C G o r).bind (lcntR C G e) := by simp only [ev]; rfl
def orK (g : St → R D) (x : D) (r : St) : R D := match x with
  | .lst l => if l.isEmpty then g r else .ok (.lst l) r
  | _ => .bad
theorem orK_lst {g : St → R D} {l : List D} : orK g (.lst l) r = if l.isEmpty then g r else .ok (.lst l) r := rfl
def tupK (x : D) (r : St) : R D := match x with
  | .lst l => .ok (.tup l) r
  | _ => .bad
theorem tupK_lst {l : List D} : tupK (.lst l) r = .ok (.tup l) r := rfl
theorem ev_tupOr (a b : E) : ev C G (.tupOr a b) r = ((ev C G a r).bind (orK (ev C G b))).bind tupK := by simp only [ev]; rfl
theorem ev_xfld (a : E) (k : Nat) : ev C G (.xfld a k) r = (ev C G a r).bind fun x r => .of (xfldD k x) r := by simp only [ev]
theorem xfldD_exc (k : Nat) (v : D) : xfldD k (.exc k [v]) = some v := if_pos rfl
theorem ev_lens (a : E) : ev C G (.lens a) r = (ev C G a r).bind fun x r => .of (lensD x) r := by simp only [ev]
theorem ev_isov (v t : Nat) : ev C G (.isov v t) r = .of ((pkv v r).bind fun d => (isiD d t).map .bl) r := by simp only [ev]
theorem ev_lenc (v p j : Nat) : ev C G (.lenc v p j) r = .of (lencR v p j r) r := by simp only [ev]
theorem ex_rais1 (c : Nat) (e : E) : ex C G (.rais c [e]) r = (ev C G e r).fl fun d r => .exc (.exc c [d]) r := by
  simp only [ex, evs]
  cases ev C G e r <;> rfl
theorem ex_tryG (b : List S) (ks : List Nat) (hs : List S) : ex C G (.tryG b ks hs) r = tryH ks (exhs C G hs) (exs C G b r) := by simp only [ex]
theorem tryH_nx {ks : List Nat} {h : Nat → List D → St → F} : tryH ks h (.nx r) = .nx r := rfl
theorem tryH_rt {ks : List Nat} {h : Nat → List D → St → F} {d : D} : tryH ks h (.rt d r) = .rt d r := rfl
theorem tryH_bk {ks : List Nat} {h : Nat → List D → St → F} : tryH ks h (.bk r) = .bk r := rfl
theorem tryH_ct {ks : List Nat} {h : Nat → List D → St → F} : tryH ks h (.ct r) = .ct r := rfl
theorem tryH_exc {ks : List Nat} {h : Nat → List D → St → F} {k : Nat} {fs : List D} (hk : ks.contains k = true) : tryH ks h (.exc (.exc k fs) r) = h k fs r := if_pos hk
theorem tryH_ite {ks : List Nat} {h : Nat → List D → St → F} {p : Prop} [Decidable p] (x y : F) : tryH ks h (if p then x else y) = if p then tryH ks h x else tryH ks h y := by split <;> rfl
theorem exhs_nil {k : Nat} {fs : List D} : exhs C G [] k fs r = .exc (.exc k fs) r := by simp only [exhs]
theorem exhs_cons {c : Nat} {i : Option Nat} {b hs : List S} {k : Nat} {fs : List D} : exhs C G (.hand c i b :: hs) k fs r = hanF c i (exs C G b) k fs r (exhs C G hs k fs r) := by simp only [exhs, exh]
theorem hanF_no {c k : Nat} {i : Option Nat} {g : St → F} {fs : List D} {rest : F} (h : subX k c = false) : hanF c i g k fs r rest = rest := by unfold hanF; rw [h]; rfl
theorem hanF_as {c k i : Nat} {g : St → F} {fs : List D} {rest : F} (h : subX k c = true) : hanF c (some i) g k fs r rest = if i < r.length then unb i (g (r.set i (.val (.exc k fs)))) else .bad := by unfold hanF; rw [h]; rfl
theorem hanF_none {c k : Nat} {g : St → F} {fs : List D} {rest : F} (h : subX k c = true) : hanF c none g k fs r rest = nox (g r) := by unfold hanF; rw [h]; rfl
theorem unb_nx {i : Nat} : unb i (.nx r) = .nx (r.set i .no) := rfl
theorem unb_rt {i : Nat} {d : D} : unb i (.rt d r) = .rt d (r.set i .no) := rfl
theorem unb_ite {i : Nat} {p : Prop} [Decidable p] (x y : F) : unb i (if p then x else y) = if p then unb i x else unb i y := by split <;> rfl
theorem nox_nx : nox (.nx r) = .nx r := rfl
theorem nox_rt {d : D} : nox (.rt d r) = .rt d r := rfl
theorem isxD_exc {ks : List Nat} {t k : Nat} {fs : List D} (h : ks.contains k = true) : isxD ks t (.exc k fs) = some (.bl (subX k t)) := if_pos h
theorem f_ltT (a b : List D) : Cp.f .lt (.tup a) (.tup b) = ltT a b := rfl
theorem fcK_exc {g : St → F} {x : D} : fcK g (.exc x r) = .exc x r := rfl
end
end Z

/-! the core defs of the program and of the laws, by their numbers (printed by gen2.py) -/
namespace Z
def G0 : List D := [.str [97, 45, 98], .int 60, .int 99, .int 12, .int 6, .tup [.tup [.int 0, .int 0, .int 0]]]
class Glo (P : Prog) : Prop where
  g : P.glo = G0
theorem gl {P : Prog} [Glo P] : P.glo = G0 := Glo.g
theorem ev_g0 {C : Calls} {r : St} : ev C G0 (.glo 0) r = .ok (.str [97, 45, 98]) r := ev_glo 0
theorem ev_g1 {C : Calls} {r : St} : ev C G0 (.glo 1) r = .ok (.int 60) r := ev_glo 1
theorem ev_g2 {C : Calls} {r : St} : ev C G0 (.glo 2) r = .ok (.int 99) r := ev_glo 2
theorem ev_g3 {C : Calls} {r : St} : ev C G0 (.glo 3) r = .ok (.int 12) r := ev_glo 3
theorem ev_g4 {C : Calls} {r : St} : ev C G0 (.glo 4) r = .ok (.int 6) r := ev_glo 4
theorem ev_g5 {C : Calls} {r : St} : ev C G0 (.glo 5) r = .ok (.tup [.tup [.int 0, .int 0, .int 0]]) r := ev_glo 5
/- 0: value -/
def f_is_integer : Fn := ⟨1, 1, [.ret (.and (.isi (.var 0) 0) (.not (.isi (.var 0) 1)))]⟩
class U_is_integer (P : Prog) : Prop extends Glo P where
  h0 : P.get 0 = some f_is_integer
instance {P : Prog} [u : U_is_integer P] : Has P 0 f_is_integer := ⟨u.h0⟩

/- 1: rounds -/
def f_check_rounds : Fn := ⟨1, 1, [.cond (.or (.not (.call 0 [.var 0])) (.not (.cmp2 .le .le (.int 0) (.var 0) (.glo 1)))) [.rais 2 []] []]⟩
class U_check_rounds (P : Prog) : Prop extends U_is_integer P where
  h1 : P.get 1 = some f_check_rounds
instance {P : Prog} [u : U_check_rounds P] : Has P 1 f_check_rounds := ⟨u.h1⟩

/- 2: value letter -/
def f_is_word_c0 : E := .comp (.inn (.var 1) (.glo 0)) (.one 1) (.e (.var 0)) none [1]
def f_is_word : Fn := ⟨1, 2, [.cond (.or (.not (.isi (.var 0) 2)) (.cmp .gt (.lenv 0) (.glo 1))) [.ret (.bl false)] [], .ret (.bi .all [f_is_word_c0])]⟩
class U_is_word (P : Prog) : Prop extends Glo P where
  h2 : P.get 2 = some f_is_word
instance {P : Prog} [u : U_is_word P] : Has P 2 f_is_word := ⟨u.h2⟩

/- 3: word -/
def f_check_word : Fn := ⟨1, 1, [.cond (.not (.call 2 [.var 0])) [.rais 1 []] []]⟩
class U_check_word (P : Prog) : Prop extends U_is_word P where
  h3 : P.get 3 = some f_check_word
instance {P : Prog} [u : U_check_word P] : Has P 3 f_check_word := ⟨u.h3⟩

/- 4: rounds found turn -/
def f_power_b0 : List S := [.set 1 (.bin .mul (.var 1) (.int 3))]
def f_power : Fn := ⟨1, 3, [.set 1 (.int 1), .loop (.one 2) (.rng1 (.var 0)) f_power_b0, .ret (.var 1)]⟩
class U_power (P : Prog) : Prop extends Glo P where
  h4 : P.get 4 = some f_power
instance {P : Prog} [u : U_power P] : Has P 4 f_power := ⟨u.h4⟩

/- 5: index -/
def f_letters_at : Fn := ⟨1, 1, [.ret (.ite (.cmp .eq (.bin .mod (.var 0) (.int 2)) (.int 0)) (.glo 0) (.rev (.glo 0)))]⟩
class U_letters_at (P : Prog) : Prop extends Glo P where
  h5 : P.get 5 = some f_letters_at
instance {P : Prog} [u : U_letters_at P] : Has P 5 f_letters_at := ⟨u.h5⟩

/- 6: word index letter -/
def f_index_from_b0 : List S := [.set 1 (.bin .add (.bin .mul (.int 3) (.var 1)) (.mt .index (.call 5 [.var 1]) (.var 2)))]
def f_index_from : Fn := ⟨1, 3, [.set 1 (.int 0), .loop (.one 2) (.e (.var 0)) f_index_from_b0, .ret (.var 1)]⟩
class U_index_from (P : Prog) : Prop extends U_letters_at P where
  h6 : P.get 6 = some f_index_from
instance {P : Prog} [u : U_index_from P] : Has P 6 f_index_from := ⟨u.h6⟩

/- 7: rounds index word done turn part letter -/
def f_word_from_b0 : List S := [.set 5 (.call 4 [.bin .sub (.bin .sub (.var 0) (.var 4)) (.int 1)]), .set 6 (.idx (.call 5 [.var 3]) (.bin .sub (.bin .div (.var 1) (.var 5)) (.bin .mul (.int 3) (.var 3)))), .aug 2 .add (.var 6), .set 3 (.bin .div (.var 1) (.var 5))]
def f_word_from : Fn := ⟨2, 7, [.set 2 (.str []), .set 3 (.int 0), .loop (.one 4) (.rng1 (.var 0)) f_word_from_b0, .ret (.var 2)]⟩
class U_word_from (P : Prog) : Prop extends U_power P, U_letters_at P where
  h7 : P.get 7 = some f_word_from
instance {P : Prog} [u : U_word_from P] : Has P 7 f_word_from := ⟨u.h7⟩

/- 8: word -/
def f_index_of : Fn := ⟨1, 1, [.exp (.call 3 [.var 0]), .ret (.call 6 [.var 0])]⟩
class U_index_of (P : Prog) : Prop extends U_check_word P, U_index_from P where
  h8 : P.get 8 = some f_index_of
instance {P : Prog} [u : U_index_of P] : Has P 8 f_index_of := ⟨u.h8⟩

/- 9: rounds index -/
def f_word_at : Fn := ⟨2, 2, [.exp (.call 1 [.var 0]), .cond (.or (.not (.call 0 [.var 1])) (.not (.cmp2 .le .lt (.int 0) (.var 1) (.call 4 [.var 0])))) [.rais 2 []] [], .ret (.call 7 [.var 0, .var 1])]⟩
class U_word_at (P : Prog) : Prop extends U_is_integer P, U_check_rounds P, U_power P, U_word_from P where
  h9 : P.get 9 = some f_word_at
instance {P : Prog} [u : U_word_at P] : Has P 9 f_word_at := ⟨u.h9⟩

/- 10: _law_cell_here _law_k _law_number -/
def f__law_mixed : Fn := ⟨2, 3, [.set 2 (.bin .mod (.bin .add (.bin .add (.bin .mul (.bin .mod (.var 0) (.int 2147483647)) (.int 48271)) (.bin .mul (.var 1) (.int 69621))) (.int 1048583)) (.int 2147483629)), .set 2 (.bin .mod (.bin .mul (.var 2) (.var 2)) (.int 2147483587)), .ret (.bin .mod (.bin .mul (.var 2) (.bin .add (.var 2) (.int 2))) (.int 2147483579))]⟩
class U__law_mixed (P : Prog) : Prop extends Glo P where
  h10 : P.get 10 = some f__law_mixed
instance {P : Prog} [u : U__law_mixed P] : Has P 10 f__law_mixed := ⟨u.h10⟩

/- 11: _law_script _law_k _law_cell_here _law_found _law_j -/
def f__law_cell_b0 : List S := [.set 3 (.bin .add (.bin .mul (.var 3) (.int 2147483579)) (.call 10 [.var 2, .bin .add (.bin .add (.bin .mul (.int 7) (.var 1)) (.bin .mul (.int 100) (.var 4))) (.bin .mul (.var 4) (.var 4))]))]
def f__law_cell : Fn := ⟨2, 5, [.set 2 (.int 0), .cond (.cmp .lt (.var 1) (.lenv 0)) [.set 2 (.idxv 0 (.var 1))] [], .cond (.cmp .ge (.var 2) (.bin .pow (.int 10) (.int 18))) [.ret (.bin .mod (.bin .sub (.var 2) (.bin .pow (.int 10) (.int 18))) (.bin .mul (.bin .mul (.bin .mul (.bin .pow (.int 10) (.int 60)) (.bin .pow (.int 10) (.int 60))) (.bin .pow (.int 10) (.int 60))) (.bin .pow (.int 10) (.int 60))))] [], .set 3 (.int 0), .loop (.one 4) (.rng1 (.int 24)) f__law_cell_b0, .ret (.var 3)]⟩
class U__law_cell (P : Prog) : Prop extends U__law_mixed P where
  h11 : P.get 11 = some f__law_cell
instance {P : Prog} [u : U__law_cell P] : Has P 11 f__law_cell := ⟨u.h11⟩

/- 12: _law_digits _law_size _law_digit -/
def f__law_take : Fn := ⟨2, 3, [.set 2 (.bin .mod (.idxv 0 (.int 0)) (.var 1)), .put 0 (.int 0) (.bin .div (.idxv 0 (.int 0)) (.var 1)), .ret (.var 2)]⟩
class U__law_take (P : Prog) : Prop extends Glo P where
  h12 : P.get 12 = some f__law_take
instance {P : Prog} [u : U__law_take P] : Has P 12 f__law_take := ⟨u.h12⟩

/- 13: _law_own _law_most _law_k -/
def f__law_text_c0 : E := .comp (.idx (.str [97, 45, 98]) (.callio 12 0 [.int 3])) (.one 2) (.rng1 (.callio 12 0 [.bin .add (.var 1) (.int 1)])) none [2]
def f__law_text : Fn := ⟨2, 3, [.ret (.mt .join (.str []) (f__law_text_c0))]⟩
class U__law_text (P : Prog) : Prop extends U__law_take P where
  h13 : P.get 13 = some f__law_text
instance {P : Prog} [u : U__law_text P] : Has P 13 f__law_text := ⟨u.h13⟩

/- 14: _law_length _law_found _law_k -/
def f__law_power_b0 : List S := [.set 1 (.bin .mul (.int 3) (.var 1))]
def f__law_power : Fn := ⟨1, 3, [.set 1 (.int 1), .loop (.one 2) (.rng1 (.var 0)) f__law_power_b0, .ret (.var 1)]⟩
class U__law_power (P : Prog) : Prop extends Glo P where
  h14 : P.get 14 = some f__law_power
instance {P : Prog} [u : U__law_power P] : Has P 14 f__law_power := ⟨u.h14⟩

/- 15: _law_text _law_found _law_sign _law_offset -/
def f__law_spot_b0 : List S := [.set 3 (.dsub [[97], [45], [98]] [.int 0, .int 1, .int 2] (.var 2)), .set 1 (.bin .add (.bin .mul (.int 3) (.var 1)) (.ite (.cmp .eq (.bin .mod (.var 1) (.int 2)) (.int 0)) (.var 3) (.bin .sub (.int 2) (.var 3))))]
def f__law_spot : Fn := ⟨1, 4, [.set 1 (.int 0), .loop (.one 2) (.e (.var 0)) f__law_spot_b0, .ret (.var 1)]⟩
class U__law_spot (P : Prog) : Prop extends Glo P where
  h15 : P.get 15 = some f__law_spot
instance {P : Prog} [u : U__law_spot P] : Has P 15 f__law_spot := ⟨u.h15⟩

/- 20: worker index -/
def f_point_of : Fn := ⟨2, 2, [.ret (.bin .add (.var 1) (.ite (.cmp .eq (.var 0) (.str [65])) (.bin .mod (.var 1) (.int 2)) (.bin .sub (.int 1) (.bin .mod (.var 1) (.int 2)))))]⟩
class U_point_of (P : Prog) : Prop extends Glo P where
  h20 : P.get 20 = some f_point_of
instance {P : Prog} [u : U_point_of P] : Has P 20 f_point_of := ⟨u.h20⟩

/- 21: worker rounds index point other -/
def f_other_index : Fn := ⟨3, 5, [.set 3 (.call 20 [.var 0, .var 2]), .set 4 (.ite (.cmp .eq (.var 3) (.var 2)) (.bin .sub (.var 3) (.int 1)) (.var 3)), .ret (.ite (.cmp2 .le .lt (.int 0) (.var 4) (.call 4 [.var 1])) (.var 4) .non)]⟩
class U_other_index (P : Prog) : Prop extends U_power P, U_point_of P where
  h21 : P.get 21 = some f_other_index
instance {P : Prog} [u : U_other_index P] : Has P 21 f_other_index := ⟨u.h21⟩

/- 22: word found rounds index worker other -/
def f_neighbours_c0 : E := .comp (.call 21 [.var 4, .var 2, .var 3]) (.one 4) (.e (.str [65, 66])) none [4]
def f_neighbours_c1 : E := .comp (.ite (.isN (.var 5)) .non (.call 7 [.var 2, .var 5])) (.one 5) (.e (.var 1)) none [5]
def f_neighbours : Fn := ⟨1, 6, [.exp (.call 3 [.var 0]), .par [2, 3] [.lenv 0, .call 6 [.var 0]], .set 1 (f_neighbours_c0), .ret (.bi .tuple [f_neighbours_c1])]⟩
class U_neighbours (P : Prog) : Prop extends U_check_word P, U_index_from P, U_word_from P, U_other_index P where
  h22 : P.get 22 = some f_neighbours
instance {P : Prog} [u : U_neighbours P] : Has P 22 f_neighbours := ⟨u.h22⟩

/- 23: letter -/
def f_swapped : Fn := ⟨1, 1, [.ret (.dget [[97], [98]] [.str [98], .str [97]] (.var 0) (.var 0))]⟩
class U_swapped (P : Prog) : Prop extends Glo P where
  h23 : P.get 23 = some f_swapped
instance {P : Prog} [u : U_swapped P] : Has P 23 f_swapped := ⟨u.h23⟩

/- 24: word letter -/
def f_swap_c0 : E := .comp (.call 23 [.var 1]) (.one 1) (.e (.var 0)) none [1]
def f_swap : Fn := ⟨1, 2, [.exp (.call 3 [.var 0]), .ret (.mt .join (.str []) (f_swap_c0))]⟩
class U_swap (P : Prog) : Prop extends U_check_word P, U_swapped P where
  h24 : P.get 24 = some f_swap
instance {P : Prog} [u : U_swap P] : Has P 24 f_swap := ⟨u.h24⟩

/- 25: word rounds part first -/
def f_span : Fn := ⟨2, 4, [.exp (.call 3 [.var 0]), .exp (.call 1 [.var 1]), .cond (.cmp .lt (.var 1) (.lenv 0)) [.rais 2 []] [], .set 2 (.call 4 [.bin .sub (.var 1) (.lenv 0)]), .set 3 (.bin .mul (.call 6 [.var 0]) (.var 2)), .ret (.tup [.var 3, .bin .sub (.bin .add (.var 3) (.var 2)) (.int 1)])]⟩
class U_span (P : Prog) : Prop extends U_check_rounds P, U_check_word P, U_power P, U_index_from P where
  h25 : P.get 25 = some f_span
instance {P : Prog} [u : U_span P] : Has P 25 f_span := ⟨u.h25⟩

/- 26: _law_length _law_found _law_k _law_longer _law_text -/
def f__law_texts_b0 : List S := [.set 3 (.bin .add (.var 3) (.lst [.bin .add (.var 4) (.str [97]), .bin .add (.var 4) (.str [45]), .bin .add (.var 4) (.str [98])]))]
def f__law_texts_b1 : List S := [.set 3 (.lst []), .loop (.one 4) (.e (.var 1)) f__law_texts_b0, .set 1 (.var 3)]
def f__law_texts : Fn := ⟨1, 5, [.set 1 (.lst [.str []]), .loop (.one 2) (.rng1 (.var 0)) f__law_texts_b1, .ret (.srtk 15 (.var 1))]⟩
class U__law_texts (P : Prog) : Prop extends U__law_spot P where
  h26 : P.get 26 = some f__law_texts
instance {P : Prog} [u : U__law_texts P] : Has P 26 f__law_texts := ⟨u.h26⟩

/- 31: _law_error _law_found -/
def f__law_kinds : Fn := ⟨1, 2, [.set 1 (.lst [.isx (.var 0) [0, 1, 2, 3, 4, 7, 8, 10, 11, 12, 14, 17] 1, .isx (.var 0) [0, 1, 2, 3, 4, 7, 8, 10, 11, 12, 14, 17] 2, .isx (.var 0) [0, 1, 2, 3, 4, 7, 8, 10, 11, 12, 14, 17] 3]), .set 1 (.bin .add (.var 1) (.lst [.isx (.var 0) [0, 1, 2, 3, 4, 7, 8, 10, 11, 12, 14, 17] 4, .isx (.var 0) [0, 1, 2, 3, 4, 7, 8, 10, 11, 12, 14, 17] 7])), .set 1 (.bin .add (.var 1) (.lst [.isx (.var 0) [0, 1, 2, 3, 4, 7, 8, 10, 11, 12, 14, 17] 8, .isx (.var 0) [0, 1, 2, 3, 4, 7, 8, 10, 11, 12, 14, 17] 10, .isx (.var 0) [0, 1, 2, 3, 4, 7, 8, 10, 11, 12, 14, 17] 11])), .ret (.bin .add (.var 1) (.lst [.isx (.var 0) [0, 1, 2, 3, 4, 7, 8, 10, 11, 12, 14, 17] 12, .isx (.var 0) [0, 1, 2, 3, 4, 7, 8, 10, 11, 12, 14, 17] 14, .isx (.var 0) [0, 1, 2, 3, 4, 7, 8, 10, 11, 12, 14, 17] 17]))]⟩
class U__law_kinds (P : Prog) : Prop extends Glo P where
  h31 : P.get 31 = some f__law_kinds
instance {P : Prog} [u : U__law_kinds P] : Has P 31 f__law_kinds := ⟨u.h31⟩

/- 32: _law_error _law_kind _law_words _law_one -/
def f__law_only_c0 : E := .comp (.cmp .eq (.var 3) (.var 1)) (.one 3) (.e (.bin .add (.var 2) (.lst [.str [102, 111, 114, 98, 105, 100, 100, 101, 110]]))) none [3]
def f__law_only : Fn := ⟨2, 4, [.set 2 (.lst [.str [119, 111, 114, 100], .str [110, 117, 109, 98, 101, 114], .str [119, 111, 114, 107, 101, 114], .str [112, 97, 105, 114], .str [97, 100, 118, 101, 114, 115, 97, 114, 121], .str [108, 101, 116, 116, 101, 114, 115], .str [118, 105, 101, 119], .str [110, 111, 119, 111, 114, 100], .str [110, 111, 112, 108, 97, 99, 101], .str [108, 97, 114, 103, 101]]), .cond (.or (.not (.isx (.var 0) [0, 1, 2, 3, 4, 7, 8, 10, 11, 12, 14, 17] 0)) (.not (.isx (.var 0) [0, 1, 2, 3, 4, 7, 8, 10, 11, 12, 14, 17] 100))) [.ret (.bl false)] [], .ret (.cmp .eq (.call 31 [.var 0]) (f__law_only_c0))]⟩
class U__law_only (P : Prog) : Prop extends U__law_kinds P where
  h32 : P.get 32 = some f__law_only
instance {P : Prog} [u : U__law_only P] : Has P 32 f__law_only := ⟨u.h32⟩

/- 47: worker -/
def f_check_worker : Fn := ⟨1, 1, [.cond (.nin (.var 0) (.tup [.str [65], .str [66]])) [.rais 3 []] []]⟩
class U_check_worker (P : Prog) : Prop extends Glo P where
  h47 : P.get 47 = some f_check_worker
instance {P : Prog} [u : U_check_worker P] : Has P 47 f_check_worker := ⟨u.h47⟩

/- 48: value -/
def f_is_input : Fn := ⟨1, 1, [.ret (.and (.call 0 [.var 0]) (.cmp2 .le .le (.int 0) (.var 0) (.glo 2)))]⟩
class U_is_input (P : Prog) : Prop extends U_is_integer P where
  h48 : P.get 48 = some f_is_input
instance {P : Prog} [u : U_is_input P] : Has P 48 f_is_input := ⟨u.h48⟩

/- 49: value -/
def f_is_pair : Fn := ⟨1, 1, [.ret (.and (.isi (.var 0) 3) (.and (.cmp .eq (.lenv 0) (.int 2)) (.and (.call 48 [.idxv 0 (.int 0)]) (.call 48 [.idxv 0 (.int 1)]))))]⟩
class U_is_pair (P : Prog) : Prop extends U_is_input P where
  h49 : P.get 49 = some f_is_pair
instance {P : Prog} [u : U_is_pair P] : Has P 49 f_is_pair := ⟨u.h49⟩

/- 50: pair -/
def f_check_pair : Fn := ⟨1, 1, [.cond (.not (.call 49 [.var 0])) [.rais 4 []] []]⟩
class U_check_pair (P : Prog) : Prop extends U_is_pair P where
  h50 : P.get 50 = some f_check_pair
instance {P : Prog} [u : U_check_pair P] : Has P 50 f_check_pair := ⟨u.h50⟩

/- 51: worker word heard place letter -/
def f_text_of_c0 : E := .comp (.var 3) (.many [3, 4]) (.enum (.var 1)) (some (.cmp .ne (.var 4) (.dsub [[65], [66]] [.str [97], .str [98]] (.var 0)))) [3, 4]
def f_text_of : Fn := ⟨2, 5, [.set 2 (f_text_of_c0), .ret (.ite (.cmp .eq (.lenv 2) (.int 0)) (.var 1) (.bin .add (.bin .add (.sli (.var 1) none (some (.idxv 2 (.neg (.int 1))))) (.str [63])) (.sli (.var 1) (some (.bin .add (.idxv 2 (.neg (.int 1))) (.int 1))) none)))]⟩
class U_text_of (P : Prog) : Prop extends Glo P where
  h51 : P.get 51 = some f_text_of
instance {P : Prog} [u : U_text_of P] : Has P 51 f_text_of := ⟨u.h51⟩

/- 52: worker text some letter -/
def f_words_from : Fn := ⟨2, 4, [.set 2 (.wfr 1 0 0 3 [[65], [66]] [.str [97], .str [98]]), .ret (.srtk 6 (.var 2))]⟩
class U_words_from (P : Prog) : Prop extends U_index_from P where
  h52 : P.get 52 = some f_words_from
instance {P : Prog} [u : U_words_from P] : Has P 52 f_words_from := ⟨u.h52⟩

/- 53: value worker text word -/
def f_is_view_c0 : E := .comp (.cmp .eq (.call 51 [.var 1, .var 3]) (.var 2)) (.one 3) (.e (.call 52 [.var 1, .var 2])) none [3]
def f_is_view : Fn := ⟨1, 4, [.cond (.or (.not (.isi (.var 0) 3)) (.or (.cmp .ne (.lenv 0) (.int 4)) (.or (.nin (.idxv 0 (.int 0)) (.tup [.str [65], .str [66]])) (.not (.call 48 [.idxv 0 (.int 1)]))))) [.ret (.bl false)] [], .par [1, 2] [.idxv 0 (.int 0), .idxv 0 (.int 3)], .cond (.or (.not (.isi (.var 2) 2)) (.or (.not (.call 2 [.rep1 2])) (.cmp .gt (.mt .count (.var 2) (.str [63])) (.int 1)))) [.ret (.bl false)] [], .cond (.not (.bi .all [f_is_view_c0])) [.ret (.bl false)] [], .ret (.ite (.inn (.str [63]) (.var 2)) (.call 48 [.idxv 0 (.int 2)]) (.isN (.idxv 0 (.int 2))))]⟩
class U_is_view (P : Prog) : Prop extends U_is_word P, U_is_input P, U_text_of P, U_words_from P where
  h53 : P.get 53 = some f_is_view
instance {P : Prog} [u : U_is_view P] : Has P 53 f_is_view := ⟨u.h53⟩

/- 54: view -/
def f_check_view : Fn := ⟨1, 1, [.cond (.not (.call 53 [.var 0])) [.rais 10 []] []]⟩
class U_check_view (P : Prog) : Prop extends U_is_view P where
  h54 : P.get 54 = some f_check_view
instance {P : Prog} [u : U_check_view P] : Has P 54 f_check_view := ⟨u.h54⟩

/- 55: worker pair word text mine other -/
def f_view_from : Fn := ⟨3, 6, [.set 3 (.call 51 [.var 0, .var 2]), .setT [4, 5] (.ite (.cmp .eq (.var 0) (.str [65])) (.var 1) (.rev (.var 1))), .ret (.tup [.var 0, .var 4, .ite (.inn (.str [63]) (.var 3)) (.var 5) .non, .var 3])]⟩
class U_view_from (P : Prog) : Prop extends U_text_of P where
  h55 : P.get 55 = some f_view_from
instance {P : Prog} [u : U_view_from P] : Has P 55 f_view_from := ⟨u.h55⟩

/- 56: worker pair word -/
def f_view_of : Fn := ⟨3, 3, [.exp (.call 47 [.var 0]), .exp (.call 50 [.var 1]), .exp (.call 3 [.var 2]), .ret (.call 55 [.var 0, .var 1, .var 2])]⟩
class U_view_of (P : Prog) : Prop extends U_check_word P, U_check_worker P, U_check_pair P, U_view_from P where
  h56 : P.get 56 = some f_view_of
instance {P : Prog} [u : U_view_of P] : Has P 56 f_view_of := ⟨u.h56⟩

/- 57: view -/
def f_words_of : Fn := ⟨1, 1, [.exp (.call 54 [.var 0]), .ret (.call 52 [.idxv 0 (.int 0), .idxv 0 (.int 3)])]⟩
class U_words_of (P : Prog) : Prop extends U_words_from P, U_check_view P where
  h57 : P.get 57 = some f_words_of
instance {P : Prog} [u : U_words_of P] : Has P 57 f_words_of := ⟨u.h57⟩

/- 58: _law_who _law_text_here _law_deaf _law_place -/
def f__law_heard_c0 : E := .comp (.var 3) (.one 3) (.rng1 (.lenv 1)) (some (.cmp .ne (.idxv 1 (.var 3)) (.var 2))) [3]
def f__law_heard : Fn := ⟨2, 4, [.set 2 (.dsub [[65], [66]] [.str [97], .str [98]] (.var 0)), .ret (f__law_heard_c0)]⟩
class U__law_heard (P : Prog) : Prop extends Glo P where
  h58 : P.get 58 = some f__law_heard
instance {P : Prog} [u : U__law_heard P] : Has P 58 f__law_heard := ⟨u.h58⟩

/- 59: _law_who _law_inputs _law_text_here _law_heard_here _law_mine _law_other -/
def f__law_sight : Fn := ⟨3, 6, [.set 3 (.call 58 [.var 0, .var 2]), .setT [4, 5] (.ite (.cmp .eq (.var 0) (.str [65])) (.var 1) (.tup [.idxv 1 (.int 1), .idxv 1 (.int 0)])), .cond (.cmp .eq (.var 3) (.lst [])) [.ret (.tup [.var 0, .var 4, .non, .var 2])] [], .ret (.tup [.var 0, .var 4, .var 5, .bin .add (.bin .add (.sli (.var 2) none (some (.idxv 3 (.neg (.int 1))))) (.str [63])) (.sli (.var 2) (some (.bin .add (.idxv 3 (.neg (.int 1))) (.int 1))) none)])]⟩
class U__law_sight (P : Prog) : Prop extends U__law_heard P where
  h59 : P.get 59 = some f__law_sight
instance {P : Prog} [u : U__law_sight P] : Has P 59 f__law_sight := ⟨u.h59⟩

/- 67: view rounds part point -/
def f_future : Fn := ⟨2, 4, [.exp (.call 54 [.var 0]), .exp (.call 1 [.var 1]), .cond (.cmp .lt (.var 1) (.bi .len [.idxv 0 (.int 3)])) [.rais 2 []] [], .set 2 (.call 4 [.bin .sub (.var 1) (.bi .len [.idxv 0 (.int 3)])]), .set 3 (.call 20 [.idxv 0 (.int 0), .call 6 [.idx (.call 52 [.idxv 0 (.int 0), .idxv 0 (.int 3)]) (.int 0)]]), .ret (.tup [.bi .max2 [.int 0, .bin .mul (.bin .sub (.var 3) (.int 1)) (.var 2)], .bin .sub (.bi .min2 [.call 4 [.var 1], .bin .mul (.bin .add (.var 3) (.int 1)) (.var 2)]) (.int 1)])]⟩
class U_future (P : Prog) : Prop extends U_check_rounds P, U_power P, U_index_from P, U_point_of P, U_words_from P, U_check_view P where
  h67 : P.get 67 = some f_future
instance {P : Prog} [u : U_future P] : Has P 67 f_future := ⟨u.h67⟩

end Z

local macro_rules
  | `(tactic| simp! [$ls,*]) => `(tactic| simp (disch := first | assumption | omega | (refine Z.big60 ?_ ?_ <;> omega) | (refine Z.small_of ?_ ?_ <;> omega) | (simp only [Z.LINE, List.length_cons, List.length_nil, List.length_append, List.length_map, List.length_take, List.length_drop, Z.rep_len1, Int.toNat_natCast, Int.reduceToNat]; omega) | (split <;> omega) | (apply And.intro <;> omega) | fail) only [Z.brR_bl, Z.brF_bl, Z.toB_bl, Z.notB_bl, Z.bl_ite, Z.int_ite, Z.str_ite, Z.bind_ite, Z.fl_ite, Z.then_ite, Z.setF_zero, Z.setF_succ, Z.consF_nx, Z.setsF_nil, Z.setsF_cons, Z.tgF_one, Z.tgF_many, Z.tgF_manyL, Z.rdv_zero, Z.rdv_own0, Z.consR_ok, Z.rdv_succ, Z.pkv_val0, Z.pkv_own0, Z.pkv_io0, Z.pkv_succ, Z.iov_own0, Z.iov_io0, Z.iov_succ, Z.setio_own0, Z.setio_io0, Z.setio_succ, Z.ev_var, Z.ev_non, Z.ev_bl, Z.ev_int, Z.ev_str, Z.ev_lst, Z.ev_tup, Z.evs_nil, Z.evs_cons, Z.ev_bin, Z.ev_neg, Z.ev_cmp, Z.ev_cmp2, Z.ev_isN, Z.ev_notN, Z.ev_isT, Z.ev_notT, Z.ev_inn, Z.ev_nin, Z.ev_and, Z.ev_or, Z.ev_not, Z.ev_ite, Z.ev_idx, Z.ev_idxv, Z.ev_sli, Z.evo_none, Z.toI_int, Z.evo_some, Z.ev_rev, Z.ev_bi, Z.ev_lenv, Z.ev_isi, Z.mtF_str, Z.ev_mtx, Z.sidxR_lst, Z.ev_sidx, Z.ev_eqv, Z.eqvD_f, Z.eqvD_t, Z.revD_tup, Z.revD_lst, Z.ev_srtk, Z.ev_rngl, Z.ev_call0, Z.ev_call, Z.ev_callio, Z.ev_callk, Z.ev_dsub, Z.ev_dget, Z.evi_e, Z.evi_rng1, Z.evi_rng2, Z.evi_rng3, Z.evi_enum, Z.evi_zip, Z.evc_none, Z.evc_some, Z.exs_nil, Z.exs_cons, Z.ex_set, Z.ownF_lst, Z.ex_own, Z.ex_setT, Z.ex_par, Z.ex_exp, Z.ex_ret, Z.ex_retN, Z.ex_pass, Z.ex_brk, Z.ex_cont, Z.ex_cond, Z.ex_loop, Z.ex_whil, Z.ex_app, Z.iol_succ, Z.iol_own0, Z.iol_io0, Z.appF_own0, Z.appF_io0, Z.appF_succ, Z.ex_put, Z.putF_own0, Z.putF_io0, Z.putF_succ, Z.g_add, Z.g_sub, Z.g_mul, Z.g_mod, Z.g_div, Z.g_pow, Z.g_addS, Z.g_addL, Z.g_mulS, Z.aug_add, Z.aug_sub, Z.aug_addS, Z.augF_add, Z.augF_sub, Z.augF_addS, Z.eqD_int, Z.eqD_str, Z.eqD_bl, Z.f_eq, Z.f_ne, Z.f_lt, Z.f_le, Z.f_gt, Z.f_ge, Z.lenD_str, Z.lenD_lst, Z.lenD_tup, Z.bi_len, Z.bi_tupL, Z.bi_tupT, Z.bi_lstL, Z.bi_lstT, Z.bi_lstS, Z.bi_abs, Z.bi_max2, Z.bi_min2, Z.bi_all, Z.bi_any, Z.bi_sum, Z.bi_srt, Z.bi_int, Z.bi_intB, Z.blsOf_map, Z.intsOf_map, Z.strsOf_map, Z.itemsD_lst, Z.itemsD_tup, Z.itemsD_str, Z.rng1_int, Z.rng2_int, Z.rng3_int, Z.val_ret, Z.valK_ret, Z.valio_ret, Z.idxD_nat, Z.idxT_nat, Z.isNon_non, Z.isNon_bl, Z.isNon_int, Z.isNon_str, Z.isNon_lst, Z.isNon_tup, Z.isi_non, Z.isi_bl, Z.isi_int, Z.isi_str, Z.isi_tup, Z.isi_lst, Z.ExF_exc, Z.val_exc, Z.ex_rais0, Z.ex_tryA, Z.tryK_nx, Z.tryK_rt, Z.tryK_ite, Z.vlv_val0, Z.vlv_succ, Z.ev_rep1, Z.ev_wfr, Z.mtf_count, Z.ev_isx, Z.isNon_exc, Z.RetF_rt, Z.RetF_nx, Z.RetP_rt, Z.RetP_nx, Z.outOf_nil, Z.outOf_val, Z.outOf_io, Z.valAt_zero, Z.valAt_succ, Z.optF_some, Z.ex_aug2, Z.ioF_own, Z.ioG_some, Z.revD_a, Z.big_of, Z.big60, Z.LpF_nx, Z.LpF_ct, Z.LpF_bk, Z.LpF_rt, Z.compB_eq, Z.wipeS_cons, Z.wipeS_nil, Z.backS_cons, Z.backS_nil, Z.idxL0, Z.idxT0, Z.idxL1, Z.idxT1, Z.idxL2, Z.idxT2, Z.idxL3, Z.idxT3, Z.idxL4, Z.idxT4, Z.idxL5, Z.idxT5, Z.idxS0, Z.idxS1, Z.idxS2, Z.fcK_nx, Z.fcK_ct, Z.fcK_bk, Z.fcK_rt, Z.sliS_to, Z.sliS_from, Z.enumL_nil, Z.enumL_cons, Z.ev_lmul, Z.lmulD_int, Z.g_addT, Z.g_mulT, Z.sliT_to, Z.sliT_from, Z.sliL_to, Z.sliL_from, Z.lcntR_lst, Z.ev_lcnt, Z.orK_lst, Z.tupK_lst, Z.ev_tupOr, Z.ev_xfld, Z.xfldD_exc, Z.ev_lens, Z.ev_isov, Z.ev_lenc, Z.ex_rais1, Z.ex_tryG, Z.tryH_nx, Z.tryH_rt, Z.tryH_bk, Z.tryH_ct, Z.tryH_ite, Z.exhs_nil, Z.exhs_cons, Z.unb_nx, Z.unb_rt, Z.unb_ite, Z.nox_nx, Z.nox_rt, Z.f_ltT, Z.fcK_exc, Z.R.bind_ok, Z.R.fl_ok, Z.F.then_nx, Z.F.then_rt, Z.F.then_bk, Z.F.then_ct, Z.F.then_exc, Z.R.fl_exc, Z.R.of_some, Z.R.bind_exc, List.length_cons, List.length_nil, List.cons_append, List.nil_append, List.replicate_succ, List.replicate_zero, List.getElem?_cons_zero, List.getElem?_cons_succ, List.map_cons, List.map_nil, Option.map_some, Option.bind_some, Option.isSome_some, if_true, if_false, Nat.sub_self, Nat.reduceSub, Nat.reduceAdd, Nat.reduceLeDiff, Z.LINE, Z.valAt_zero, Z.valAt_succ, Z.optF_some, Z.ex_aug2, Z.ioF_own, Z.gl, Z.ev_g0, Z.ev_g1, Z.ev_g2, Z.ev_g3, Z.ev_g4, Z.ev_g5, decide_eq_true_eq, Bool.not_true, Bool.not_false, Bool.true_and, Bool.and_true, Bool.false_eq_true, eq_self, and_true, true_and, Z.ok_ite, reduceIte, List.getD_cons_zero, List.getD_cons_succ, List.set_cons_zero, List.set_cons_succ, Bool.or_false, Bool.false_or, Bool.or_true, Bool.true_or, Bool.and_false, Bool.false_and, not_true_eq_false, not_false_eq_true, List.nil_append, List.append_nil, decide_true, decide_false, Z.revD_a, Nat.reduceBEq, BEq.rfl, Nat.reduceLT, Nat.reduceEqDiff, Int.reduceAdd, Int.reduceSub, Int.reduceMul, Int.reduceLT, Int.reduceLE, Int.reduceEq, Int.reduceNeg, Int.reduceToNat, Int.toNat_natCast, Int.cast_ofNat_Int, Int.reducePow, List.all_map, List.any_map, Function.id_comp, $ls,*])

/-! words, indexes: plain mathematics -/
namespace Z
theorem pow3_le {k : Nat} (h : k ≤ 61) : (1 : Int) ≤ 3 ^ k ∧ (3 : Int) ^ k ≤ 127173474825648610542883299603 := by
  have h1 : (3 : Nat) ^ k ≤ 3 ^ 61 := Nat.pow_le_pow_right (by omega) h
  have h2 : (1 : Nat) ≤ 3 ^ k := Nat.one_le_pow _ _ (by omega)
  have e : (3 : Int) ^ k = ((3 ^ k : Nat) : Int) := by simp
  rw [e]
  have : (3 : Nat) ^ 61 = 127173474825648610542883299603 := by decide +kernel
  omega
theorem p3pos (k : Nat) : (0 : Int) < 3 ^ k := Int.pow_pos (by decide)
theorem p3succ (k : Nat) : (3 : Int) ^ (k + 1) = 3 * 3 ^ k := by rw [Int.pow_succ]; omega
theorem p3add (a b : Nat) : (3 : Int) ^ (a + b) = 3 ^ a * 3 ^ b := Int.pow_add ..
theorem p3odd (k : Nat) : (3 : Int) ^ k % 2 = 1 := by
  induction k with
  | zero => rfl
  | succ k ih => rw [p3succ]; omega
def Lt (c : Nat) : Prop := c = 97 ∨ c = 45 ∨ c = 98
def of (c : Nat) : Int := if c = 97 then 0 else if c = 45 then 1 else 2
def dg (a : Int) (c : Nat) : Int := if a % 2 = 0 then of c else 2 - of c
def stp (a : Int) (c : Nat) : Int := 3 * a + dg a c
def idx (w : List Nat) : Int := w.foldl stp 0
theorem of_le {c : Nat} : 0 ≤ of c ∧ of c ≤ 2 := by unfold of; split <;> (try split) <;> omega
theorem dg_le {a : Int} {c : Nat} : 0 ≤ dg a c ∧ dg a c ≤ 2 := by
  have := @of_le c
  unfold dg; split <;> omega
theorem six_dg {a : Int} {c : Nat} (h : Lt c) : ∃ k : Nat, six c (if a % 2 = 0 then [97, 45, 98] else [98, 45, 97]) = some k ∧ (k : Int) = dg a c := by
  unfold dg
  rcases h with rfl | rfl | rfl <;> split <;> first | exact ⟨0, rfl, rfl⟩ | exact ⟨1, rfl, rfl⟩ | exact ⟨2, rfl, rfl⟩
theorem stp_le {a : Int} {j c : Nat} (h0 : 0 ≤ a) (h : a < 3 ^ j) : 0 ≤ stp a c ∧ stp a c < 3 ^ (j + 1) := by
  have := @dg_le a c
  unfold stp
  rw [Int.pow_succ]
  omega
theorem fold_le : ∀ {w : List Nat} {a : Int} {j : Nat}, 0 ≤ a → a < 3 ^ j → 0 ≤ w.foldl stp a ∧ w.foldl stp a < 3 ^ (j + w.length)
  | [], a, j, h0, h => ⟨h0, by simpa using h⟩
  | c :: w, a, j, h0, h => by
    obtain ⟨h1, h2⟩ := stp_le (c := c) h0 h
    have := fold_le (w := w) h1 h2
    rw [show j + 1 + w.length = j + (c :: w).length by simp; omega] at this
    exact this
theorem idx_le {w : List Nat} : 0 ≤ idx w ∧ idx w < 3 ^ w.length := by
  have := fold_le (w := w) (a := 0) (j := 0) (by decide) (by decide)
  simpa [idx] using this
theorem six_inv (a : Int) (k : Nat) (h : k ≤ 2) : ∃ c, Lt c ∧ (if a % 2 = 0 then [97, 45, 98] else [98, 45, 97])[k]? = some c ∧ dg a c = (k : Int) := by
  rcases (by omega : k = 0 ∨ k = 1 ∨ k = 2) with rfl | rfl | rfl <;> by_cases hm : a % 2 = 0 <;> simp only [hm, if_true, if_false]
  · exact ⟨97, .inl rfl, rfl, by simp [dg, of, hm]⟩
  · exact ⟨98, .inr (.inr rfl), rfl, by simp [dg, of, hm]⟩
  · exact ⟨45, .inr (.inl rfl), rfl, by simp [dg, of, hm]⟩
  · exact ⟨45, .inr (.inl rfl), rfl, by simp [dg, of, hm]⟩
  · exact ⟨98, .inr (.inr rfl), rfl, by simp [dg, of, hm]⟩
  · exact ⟨97, .inl rfl, rfl, by simp [dg, of, hm]⟩
theorem idx_snoc {w : List Nat} {c : Nat} : idx (w ++ [c]) = stp (idx w) c := by simp [idx]
theorem idx_inj : ∀ {k : Nat} {w v : List Nat}, w.length = k → v.length = k → (∀ c ∈ w, Lt c) → (∀ c ∈ v, Lt c) → idx w = idx v → w = v
  | 0, w, v, a, b, _, _, _ => by rw [List.length_eq_zero_iff.mp a, List.length_eq_zero_iff.mp b]
  | k + 1, w, v, a, b, hw, hv, h => by
    obtain ⟨w', c, rfl⟩ : ∃ w' c, w = w' ++ [c] := ⟨w.dropLast, w.getLast (by intro z; rw [z] at a; cases a), (List.dropLast_concat_getLast _).symm⟩
    obtain ⟨v', d, rfl⟩ : ∃ v' d, v = v' ++ [d] := ⟨v.dropLast, v.getLast (by intro z; rw [z] at b; cases b), (List.dropLast_concat_getLast _).symm⟩
    rw [idx_snoc, idx_snoc] at h
    have h1 := @dg_le (idx w') c
    have h2 := @dg_le (idx v') d
    unfold stp at h
    have e : idx w' = idx v' := by omega
    have e2 := idx_inj (k := k) (by simpa using a) (by simpa using b) (fun x hx => hw x (by simp [hx])) (fun x hx => hv x (by simp [hx])) e
    subst e2
    have e3 : dg (idx w') c = dg (idx w') d := by omega
    have hc : Lt c := hw c (by simp)
    have hd : Lt d := hv d (by simp)
    have : of c = of d := by unfold dg at e3; split at e3 <;> omega
    rcases hc with rfl | rfl | rfl <;> rcases hd with rfl | rfl | rfl <;> first | rfl | (simp [of] at this)
def Wd (w : List Nat) : Prop := ∀ c ∈ w, Lt c
theorem Wd.nil : Wd [] := fun c h => by cases h
theorem Wd.snoc {w : List Nat} {c : Nat} (h : Wd w) (hc : Lt c) : Wd (w ++ [c]) := fun x hx => by
  rcases List.mem_append.mp hx with hx | hx
  · exact h x hx
  · rw [List.mem_singleton.mp hx]; exact hc
theorem Wd.append {w v : List Nat} (h : Wd w) (g : Wd v) : Wd (w ++ v) := fun x hx => (List.mem_append.mp hx).elim (h x) (g x)
theorem Wd.take {w : List Nat} (h : Wd w) (k : Nat) : Wd (w.take k) := fun x hx => h x (List.mem_of_mem_take hx)
theorem Wd.drop {w : List Nat} (h : Wd w) (k : Nat) : Wd (w.drop k) := fun x hx => h x (List.mem_of_mem_drop hx)
theorem Wd.rep {c : Nat} (h : Lt c) (k : Nat) : Wd (List.replicate k c) := fun x hx => by rw [(List.mem_replicate.mp hx).2]; exact h
/-- the letters behind a word with this index -/
def ltrs (a : Int) : List Nat := if a % 2 = 0 then [97, 45, 98] else [98, 45, 97]
def ltr (a d : Int) : Nat := (ltrs a).getD d.toNat 0
theorem ltr_lt {a d : Int} (h0 : 0 ≤ d) (h : d ≤ 2) : Lt (ltr a d) ∧ (ltrs a)[d.toNat]? = some (ltr a d) ∧ dg a (ltr a d) = d := by
  obtain ⟨c, h1, h2, h3⟩ := six_inv a d.toNat (by omega)
  have e : ltr a d = c := by
    unfold ltr ltrs
    rw [List.getD_eq_getElem?_getD, h2]
    rfl
  rw [e]
  exact ⟨h1, h2, by omega⟩
theorem ltr_dg {a : Int} {c : Nat} (h : Lt c) : ltr a (dg a c) = c := by
  unfold ltr ltrs dg
  rcases h with rfl | rfl | rfl <;> split <;> rfl
/-- the word of r letters with an index -/
def wat : Nat → Int → List Nat
  | 0, _ => []
  | r + 1, i => wat r (i / 3) ++ [ltr (i / 3) (i % 3)]
theorem wat_len : ∀ (r : Nat) (i : Int), (wat r i).length = r
  | 0, _ => rfl
  | r + 1, i => by simp [wat, wat_len r]
theorem wat_wd : ∀ (r : Nat) (i : Int), Wd (wat r i)
  | 0, _ => Wd.nil
  | r + 1, i => (wat_wd r _).snoc (ltr_lt (by omega) (by omega)).1
theorem wat_idx : ∀ (r : Nat) (i : Int), 0 ≤ i → i < 3 ^ r → idx (wat r i) = i
  | 0, i, h0, h => by simp at h; simp [wat, idx]; omega
  | r + 1, i, h0, h => by
    rw [p3succ] at h
    rw [wat, idx_snoc, wat_idx r (i / 3) (by omega) (by omega), stp, (ltr_lt (a := i / 3) (d := i % 3) (by omega) (by omega)).2.2]
    omega
theorem wat_of {w : List Nat} (h : Wd w) : wat w.length (idx w) = w :=
  idx_inj (k := w.length) (wat_len _ _) rfl (wat_wd _ _) h (wat_idx _ _ idx_le.1 idx_le.2)
theorem wat_eq {w : List Nat} {r : Nat} {i : Int} (h : Wd w) (hl : w.length = r) (hi : idx w = i) : wat r i = w := by subst hl hi; exact wat_of h
theorem wat_inj {r : Nat} {i j : Int} (hi : 0 ≤ i ∧ i < 3 ^ r) (hj : 0 ≤ j ∧ j < 3 ^ r) (h : wat r i = wat r j) : i = j := by
  rw [← wat_idx r i hi.1 hi.2, h, wat_idx r j hj.1 hj.2]
/-- the first letters -/
theorem wat_take : ∀ (r k : Nat) (i : Int), k ≤ r → 0 ≤ i → (wat r i).take k = wat k (i / 3 ^ (r - k))
  | 0, k, i, h, _ => by have : k = 0 := by omega
                        subst this; simp [wat]
  | r + 1, k, i, h, h0 => by
    by_cases e : k = r + 1
    · subst e
      rw [Nat.sub_self, Int.pow_zero, Int.ediv_one, List.take_of_length_le (by rw [wat_len]; omega)]
    · have e1 : (wat (r + 1) i).take k = (wat r (i / 3)).take k := by rw [wat, List.take_append_of_le_length (by rw [wat_len]; omega)]
      rw [e1, wat_take r k (i / 3) (by omega) (by omega), show r + 1 - k = (r - k) + 1 by omega, p3succ, Int.ediv_ediv_of_nonneg (by omega)]
theorem idx_app {w v : List Nat} : idx (w ++ v) = 3 ^ v.length * idx w + (if idx w % 2 = 0 then idx v else 3 ^ v.length - 1 - idx v) := by
  suffices h : ∀ (v : List Nat) (n : Nat), v.length = n → idx (w ++ v) = 3 ^ v.length * idx w + (if idx w % 2 = 0 then idx v else 3 ^ v.length - 1 - idx v) from h v _ rfl
  intro v n
  induction n generalizing v with
  | zero => intro h; rw [List.length_eq_zero_iff.mp h]; simp [idx]
  | succ n ih =>
    intro h
    obtain ⟨v', c, rfl⟩ : ∃ v' c, v = v' ++ [c] := ⟨v.dropLast, v.getLast (by intro z; rw [z] at h; cases h), (List.dropLast_concat_getLast _).symm⟩
    have hv : v'.length = n := by simpa using h
    have ihv := ih v' hv
    rw [← List.append_assoc, idx_snoc, ihv, idx_snoc]
    simp only [List.length_append, List.length_cons, List.length_nil, Nat.zero_add]
    rw [p3succ]
    have ho := p3odd v'.length
    generalize hP : (3 : Int) ^ v'.length = Pw at ho ⊢
    generalize hA : idx w = A
    generalize hB : idx v' = B
    have hm : Pw * A % 2 = A % 2 := by rw [Int.mul_emod, ho]; omega
    generalize hM : Pw * A = M at hm
    have e3 : 3 * Pw * A = 3 * M := by rw [← hM, Int.mul_assoc]
    rw [e3]
    unfold stp dg
    have := @of_le c
    by_cases hA2 : A % 2 = 0
    · simp only [hA2, if_true]
      have : (M + B) % 2 = B % 2 := by omega
      rw [this]
      split <;> omega
    · simp only [hA2, if_false]
      by_cases hB2 : B % 2 = 0
      · rw [if_neg (by omega : ¬ (M + (Pw - 1 - B)) % 2 = 0), if_pos hB2]; omega
      · rw [if_pos (by omega : (M + (Pw - 1 - B)) % 2 = 0), if_neg hB2]; omega
/-- the letters a and b exchanged -/
def swl (c : Nat) : Nat := if c = 97 then 98 else if c = 98 then 97 else c
def sww (w : List Nat) : List Nat := w.map swl
theorem swl_lt {c : Nat} (h : Lt c) : Lt (swl c) := by rcases h with rfl | rfl | rfl <;> simp [swl, Lt]
theorem swl_swl {c : Nat} (h : Lt c) : swl (swl c) = c := by rcases h with rfl | rfl | rfl <;> rfl
theorem sww_wd {w : List Nat} (h : Wd w) : Wd (sww w) := fun x hx => by
  obtain ⟨c, hc, rfl⟩ := List.mem_map.mp hx
  exact swl_lt (h c hc)
theorem sww_sww {w : List Nat} (h : Wd w) : sww (sww w) = w := by
  unfold sww
  rw [List.map_map]
  conv => rhs; rw [← List.map_id w]
  exact List.map_congr_left fun c hc => swl_swl (h c hc)
theorem sww_len (w : List Nat) : (sww w).length = w.length := by simp [sww]
theorem sww_idx {w : List Nat} (h : Wd w) : idx (sww w) = 3 ^ w.length - 1 - idx w := by
  suffices hh : ∀ (n : Nat) (w : List Nat), w.length = n → Wd w → idx (sww w) = 3 ^ w.length - 1 - idx w from hh _ w rfl h
  intro n
  induction n with
  | zero => intro w hl _; rw [List.length_eq_zero_iff.mp hl]; simp [sww, idx]
  | succ n ih =>
    intro w hl hw
    obtain ⟨v, c, rfl⟩ : ∃ v c, w = v ++ [c] := ⟨w.dropLast, w.getLast (by intro z; rw [z] at hl; cases hl), (List.dropLast_concat_getLast _).symm⟩
    have e : sww (v ++ [c]) = sww v ++ [swl c] := by simp [sww]
    rw [e, idx_snoc, ih v (by simpa using hl) (fun x hx => hw x (by simp [hx])), idx_snoc]
    simp only [List.length_append, List.length_cons, List.length_nil, Nat.zero_add]
    rw [p3succ]
    have ho := p3odd v.length
    generalize (3 : Int) ^ v.length = Pw at ho ⊢
    generalize idx v = B
    have hc : Lt c := hw c (by simp)
    unfold stp dg
    have e2 : (Pw - 1 - B) % 2 = B % 2 := by omega
    rw [e2]
    rcases hc with rfl | rfl | rfl <;> simp [of, swl] <;> (try split) <;> omega
end Z

/-! the program's words module -/
namespace Z
section
variable {P : Prog} {n : Nat}
theorem power_ok [U_power P] {r : Nat} (h : r ≤ 61) : callN P (n + 1) 4 [.val (.int r)] = .ret (.int (3 ^ r)) .non := by
  refine fn_ret rfl ?_
  simp! [f_power]
  refine wp_for (fun k st => ∃ s, st = [.val (.int r), .val (.int (3 ^ k)), s]) ⟨_, rfl⟩ ?_ ?_
  · rintro k _ _ ⟨s, rfl⟩ hk
    obtain ⟨rfl, h2⟩ := rngL_get? hk
    have := pow3_le (k := k) (by omega)
    simp! [f_power_b0]
    exact ⟨_, by rw [Int.pow_succ]⟩
  · rintro _ ⟨s, rfl⟩
    simp! [rngL_len', Int.sub_zero, Int.toNat_natCast]
theorem power_okI [U_power P] {r : Int} (h0 : 0 ≤ r) (h : r ≤ 61) : callN P (n + 1) 4 [.val (.int r)] = .ret (.int (3 ^ r.toNat)) .non := by
  obtain ⟨k, rfl⟩ := Int.eq_ofNat_of_zero_le h0
  rw [power_ok (by omega), Int.toNat_natCast]
theorem is_integer_int [U_is_integer P] {i : Int} : callN P (n + 1) 0 [.val (.int i)] = .ret (.bl true) .non := by
  refine fn_ret rfl ?_
  simp! [f_is_integer]
theorem letters_ok [U_letters_at P] {i : Int} : callN P (n + 1) 5 [.val (.int i)] = .ret (.str (ltrs i)) .non := by
  refine fn_ret rfl ?_
  simp! [f_letters_at, g_mod (show (0 : Int) < 2 by decide)]
  rfl
theorem six_ltrs {a : Int} {c : Nat} (h : Lt c) : Mt.f .index (ltrs a) (.str [c]) = some (.int (dg a c)) := by
  obtain ⟨k, h1, h2⟩ := six_dg (a := a) h
  unfold Mt.f ltrs
  simp only [h1, Option.map_some, h2]
theorem index_from_ok [U_index_from P] {w : List Nat} (h : Wd w) (hl : w.length ≤ 61) : callN P (n + 2) 6 [.val (.str w)] = .ret (.int (idx w)) .non := by
  refine fn_ret rfl ?_
  simp! [f_index_from]
  refine wp_for (fun k st => ∃ s, st = [.val (.str w), .val (.int (idx (w.take k))), s]) ⟨_, rfl⟩ ?_ ?_
  · rintro k _ _ ⟨s, rfl⟩ hk
    obtain ⟨c, hc, rfl⟩ := chars_get? hk
    have hkl := (List.getElem?_eq_some_iff.mp hc).1
    have h1 := idx_le (w := w.take k)
    have h2 := pow3_le (k := (w.take k).length) (by rw [List.length_take]; omega)
    have hlt : Lt c := h c (List.mem_of_getElem? hc)
    simp! [f_index_from_b0, letters_ok, six_ltrs hlt]
    exact ⟨_, by rw [List.take_add_one, hc, Option.toList_some, idx_snoc, stp]⟩
  · rintro _ ⟨s, rfl⟩
    simp! [List.length_map, List.take_length]
theorem word_from_ok [U_word_from P] {r : Nat} {i : Int} (h0 : 0 ≤ i) (hi : i < 3 ^ r) (hr : r ≤ 61) : callN P (n + 2) 7 [.val (.int r), .val (.int i)] = .ret (.str (wat r i)) .non := by
  refine fn_ret rfl ?_
  simp! [f_word_from]
  refine wp_for (fun k st => ∃ s4 s5 s6, st = [.val (.int r), .val (.int i), .val (.str (wat k (i / 3 ^ (r - k)))), .val (.int (i / 3 ^ (r - k))), s4, s5, s6])
    ⟨.no, .no, .no, by rw [Nat.sub_zero, Int.ediv_eq_zero_of_lt h0 hi]; rfl⟩ ?_ ?_
  · rintro k _ _ ⟨s4, s5, s6, rfl⟩ hk
    obtain ⟨rfl, h2⟩ := rngL_get? hk
    have hk : k < r := by omega
    have e1 : (r : Int) - (0 + (k : Int)) - 1 = ((r - (k + 1) : Nat) : Int) := by omega
    have e2 : i / 3 ^ (r - k) = i / 3 ^ (r - (k + 1)) / 3 := by rw [show r - k = (r - (k + 1)) + 1 by omega, Int.pow_succ, Int.ediv_ediv_of_nonneg (by have := p3pos (r - (k + 1)); omega)]
    have p1 := pow3_le (k := r - (k + 1)) (by omega)
    have q0 : 0 ≤ i / 3 ^ (r - (k + 1)) := Int.ediv_nonneg h0 (by omega)
    have q1 : i / 3 ^ (r - (k + 1)) ≤ i := Int.ediv_le_self _ h0
    have p2 := pow3_le (k := r) (by omega)
    generalize hJ : i / 3 ^ (r - (k + 1)) = J at e2 q0 q1
    have lt := ltr_lt (a := J / 3) (d := J - 3 * (J / 3)) (by omega) (by omega)
    have ix : idxD (.str (ltrs (J / 3))) (.int (J - 3 * (J / 3))) = some (.str [ltr (J / 3) (J - 3 * (J / 3))]) := by
      simp only [idxD, atL]
      rw [if_pos (by omega), lt.2.1]
      rfl
    have wl := wat_len k (J / 3)
    simp! [f_word_from_b0, e1, e2, power_ok, letters_ok, hJ, ix]
    rw [wat, show J % 3 = J - 3 * (J / 3) by omega]
    exact ⟨_, _, _, rfl⟩
  · rintro _ ⟨s4, s5, s6, rfl⟩
    simp! [rngL_len', Int.sub_zero, Int.toNat_natCast, Nat.sub_self, Int.pow_zero, Int.ediv_one]
def isW (w : List Nat) : Bool := w.all fun c => [97, 45, 98].contains c
theorem isW_iff {w : List Nat} : isW w = true ↔ Wd w := by
  unfold isW Wd Lt
  simp
theorem is_word_str [U_is_word P] {w : List Nat} : callN P (n + 1) 2 [.val (.str w)] = .ret (.bl (decide (w.length ≤ 60) && isW w)) .non := by
  refine fn_ret rfl ?_
  by_cases h : w.length ≤ 60
  · have h' : ¬ (60 : Int) < w.length := by omega
    have hc : ev (callN P n) G0 f_is_word_c0 [.val (.str w), .no] = .ok (.lst (w.map fun c => D.bl ([97, 45, 98].contains c))) [.val (.str w), .no] := by
      unfold f_is_word_c0
      rw [comp_all (r1 := [.val (.str w), .no]) (mk := fun c => .str [c]) (xs := w) (fun c => [97, 45, 98].contains c)]
      · rfl
      · simp! []
      · unfold LINE; omega
      · intro c hc
        rw [compB_eq]
        simp! [wipeS_cons, wipeS_nil, inD]
    simp! [f_is_word, h', hc, all_map, h]
    rfl
  · have h' : (60 : Int) < w.length := by omega
    simp! [f_is_word, h, h']
theorem is_word_no [U_is_word P] {d : D} (h : isiD d 2 = some false) : callN P (n + 1) 2 [.val d] = .ret (.bl false) .non := by
  refine fn_ret rfl ?_
  simp! [f_is_word, h]
theorem check_word_ok [U_check_word P] {w : List Nat} (h : Wd w) (hl : w.length ≤ 60) : callN P (n + 2) 3 [.val (.str w)] = .ret .non .non := by
  refine fn_ret rfl ?_
  simp! [f_check_word, is_word_str, hl, isW_iff.mpr h]
theorem check_rounds_ok [U_check_rounds P] {r : Int} (h0 : 0 ≤ r) (h : r ≤ 60) : callN P (n + 2) 1 [.val (.int r)] = .ret .non .non := by
  refine fn_ret rfl ?_
  simp! [f_check_rounds, is_integer_int, h0, h]
theorem index_of_ok [U_index_of P] {w : List Nat} (h : Wd w) (hl : w.length ≤ 60) : callN P (n + 3) 8 [.val (.str w)] = .ret (.int (idx w)) .non := by
  refine fn_ret rfl ?_
  simp! [f_index_of, check_word_ok h hl, index_from_ok h (by omega)]
theorem word_at_ok [U_word_at P] {r : Nat} {i : Int} (h0 : 0 ≤ i) (hi : i < 3 ^ r) (hr : r ≤ 60) : callN P (n + 3) 9 [.val (.int r), .val (.int i)] = .ret (.str (wat r i)) .non := by
  refine fn_ret rfl ?_
  have h1 : (r : Int) ≤ 60 := by omega
  have h2 : (0 : Int) ≤ r := by omega
  simp! [f_word_at, check_rounds_ok h2 h1, is_integer_int, power_ok (show r ≤ 61 by omega), h0, hi, word_from_ok h0 hi (show r ≤ 61 by omega)]
/-! ### neighbours -/
/-- the index of the word that looks the same -/
def pnt (b : Bool) (i : Int) : Int := i + if b = false then i % 2 else 1 - i % 2
def oth (b : Bool) (i : Int) : Int := if pnt b i = i then pnt b i - 1 else pnt b i
theorem point_A [U_point_of P] {i : Int} : callN P (n + 1) 20 [.val (.str [65]), .val (.int i)] = .ret (.int (pnt false i)) .non := by
  refine fn_ret rfl ?_
  simp! [f_point_of, pnt]
theorem point_B [U_point_of P] {i : Int} : callN P (n + 1) 20 [.val (.str [66]), .val (.int i)] = .ret (.int (pnt true i)) .non := by
  refine fn_ret rfl ?_
  simp! [f_point_of, pnt]
  rfl
def othD (b : Bool) (r : Nat) (i : Int) : D := if 0 ≤ oth b i ∧ oth b i < 3 ^ r then .int (oth b i) else .non
theorem pnt_le (b : Bool) {i : Int} (h0 : 0 ≤ i) : 0 ≤ pnt b i ∧ pnt b i ≤ i + 1 := by unfold pnt; split <;> omega
theorem other_A [U_other_index P] {r : Nat} {i : Int} (hr : r ≤ 61) (h0 : 0 ≤ i) (hi : i ≤ 3 ^ r) : callN P (n + 2) 21 [.val (.str [65]), .val (.int r), .val (.int i)] = .ret (othD false r i) .non := by
  refine fn_ret rfl ?_
  have := pow3_le hr
  have h1 := pnt_le false h0
  simp! [f_other_index, point_A, power_ok hr]
  rw [show (if pnt false i = i then pnt false i - 1 else pnt false i) = oth false i from rfl]
  unfold othD
  by_cases c1 : 0 ≤ oth false i <;> by_cases c2 : oth false i < 3 ^ r <;> simp [c1, c2]
theorem other_B [U_other_index P] {r : Nat} {i : Int} (hr : r ≤ 61) (h0 : 0 ≤ i) (hi : i ≤ 3 ^ r) : callN P (n + 2) 21 [.val (.str [66]), .val (.int r), .val (.int i)] = .ret (othD true r i) .non := by
  refine fn_ret rfl ?_
  have := pow3_le hr
  have h1 := pnt_le true h0
  simp! [f_other_index, point_B, power_ok hr]
  rw [show (if pnt true i = i then pnt true i - 1 else pnt true i) = oth true i from rfl]
  unfold othD
  by_cases c1 : 0 ≤ oth true i <;> by_cases c2 : oth true i < 3 ^ r <;> simp [c1, c2]
theorem joinD_map {α : Type} {s : List α} {g : α → Nat} (h : s.length ≤ 100000) : Mt.f .join [] (.lst (s.map fun c => .str [g c])) = some (.str (s.map g)) := by
  have e := strsOf_map (fun c => [g c]) s
  have j : ∀ l : List α, joinL [] (l.map fun c => [g c]) = l.map g := by
    intro l
    induction l with
    | nil => rfl
    | cons x l ih => cases l with
      | nil => rfl
      | cons y l => simp only [List.map_cons, joinL] at ih ⊢; rw [ih]; rfl
  have k : ((s.map fun c => [g c]).map (·.length)).sum = s.length := by
    clear e j h
    induction s with
    | nil => rfl
    | cons x l ih => simp only [List.map_cons, List.sum_cons, ih, List.length_cons, List.length_nil]; omega
  simp only [Mt.f, e, Option.bind_some, j, k, List.length_map, List.length_nil, Nat.mul_zero, Nat.add_zero]
  rw [if_pos (by unfold LINE; omega)]
/-- the neighbour: a word or nothing -/
def nbr (b : Bool) (w : List Nat) : D := if 0 ≤ oth b (idx w) ∧ oth b (idx w) < 3 ^ w.length then .str (wat w.length (oth b (idx w))) else .non
theorem nbr_ev [U_word_from P] {b : Bool} {w : List Nat} (hl : w.length ≤ 61) : ∀ s0 s1 s2 s3 s4 : Slot, s2 = .val (.int w.length) → ev (callN P (n + 2)) G0 (.ite (.isN (.var 5)) .non (.call 7 [.var 2, .var 5])) [s0, s1, s2, s3, s4, .val (othD b w.length (idx w))] = .ok (nbr b w) [s0, s1, s2, s3, s4, .val (othD b w.length (idx w))] := by
  rintro s0 s1 _ s3 s4 rfl
  unfold othD nbr
  by_cases c : 0 ≤ oth b (idx w) ∧ oth b (idx w) < 3 ^ w.length
  · simp! [c, word_from_ok c.1 c.2 hl]
  · simp! [c]
theorem neighbours_ok [U_neighbours P] {w : List Nat} (h : Wd w) (hl : w.length ≤ 60) : callN P (n + 3) 22 [.val (.str w)] = .ret (.tup [nbr false w, nbr true w]) .non := by
  refine fn_ret rfl ?_
  have h1 := @idx_le w
  have h2 := pow3_le (show w.length ≤ 61 by omega)
  have hc : ∀ s4, ev (callN P (n + 2)) G0 f_neighbours_c1 [.val (.str w), .val (.lst [othD false w.length (idx w), othD true w.length (idx w)]), .val (.int w.length), .val (.int (idx w)), s4, .no] = .ok (.lst [nbr false w, nbr true w]) [.val (.str w), .val (.lst [othD false w.length (idx w), othD true w.length (idx w)]), .val (.int w.length), .val (.int (idx w)), s4, .no] := by
    intro s4
    unfold f_neighbours_c1
    rw [comp_mapA (xs := [false, true]) (mk := fun b => othD b w.length (idx w)) (r1 := [.val (.str w), .val (.lst [othD false w.length (idx w), othD true w.length (idx w)]), .val (.int w.length), .val (.int (idx w)), s4, .no]) (fun b => nbr b w)]
    · rfl
    · simp! []
    · simp! []
    · intro b _
      rw [compB_eq]
      simp only [tgF_one, wipeS_cons, wipeS_nil, setF_succ, setF_zero, consF_nx, evc_none, List.set_cons_zero, List.set_cons_succ, R.bind_ok, brR_bl, if_true]
      rw [nbr_ev (by omega) _ _ _ _ _ rfl]
      rfl
  simp! [f_neighbours, check_word_ok h hl, index_from_ok h (show w.length ≤ 61 by omega), f_neighbours_c0, ev_comp, compR_eq, compL_nil, compL_cons, compC_ok, accO_some, accO_none, compB_eq, other_A, other_B, hc]
/-! ### swap -/
theorem swapped_ok [U_swapped P] {c : Nat} (h : Lt c) : callN P (n + 1) 23 [.val (.str [c])] = .ret (.str [swl c]) .non := by
  refine fn_ret rfl ?_
  rcases h with rfl | rfl | rfl <;> simp! [f_swapped, dgetD] <;> rfl
theorem swap_ok [U_swap P] {w : List Nat} (h : Wd w) (hl : w.length ≤ 60) : callN P (n + 3) 24 [.val (.str w)] = .ret (.str (sww w)) .non := by
  refine fn_ret rfl ?_
  have hc : ev (callN P (n + 2)) G0 f_swap_c0 [.val (.str w), .no] = .ok (.lst (w.map fun c => .str [swl c])) [.val (.str w), .no] := by
    unfold f_swap_c0
    rw [comp_mapA (r1 := [.val (.str w), .no]) (mk := fun c => .str [c]) (xs := w) (fun c => .str [swl c])]
    · rfl
    · simp! []
    · unfold LINE; omega
    · intro c hc
      rw [compB_eq]
      simp! [wipeS_cons, wipeS_nil, swapped_ok (h c hc)]
  simp! [f_swap, check_word_ok h hl, hc, joinD_map, sww]
theorem span_ok [U_span P] {w : List Nat} {r : Nat} (h : Wd w) (hr : r ≤ 60) (hl : w.length ≤ r) : callN P (n + 3) 25 [.val (.str w), .val (.int r)] = .ret (.tup [.int (idx w * 3 ^ (r - w.length)), .int (idx w * 3 ^ (r - w.length) + 3 ^ (r - w.length) - 1)]) .non := by
  refine fn_ret rfl ?_
  have h1 : (r : Int) ≤ 60 := by omega
  have h2 : (0 : Int) ≤ r := by omega
  have h3 : ¬ (r : Int) < w.length := by omega
  have e : (r : Int) - w.length = ((r - w.length : Nat) : Int) := by omega
  have i1 := @idx_le w
  have i2 := pow3_le (show w.length ≤ 61 by omega)
  have i3 := pow3_le (show r - w.length ≤ 61 by omega)
  have i4 := pow3_le (show r ≤ 61 by omega)
  have b : 0 ≤ idx w * 3 ^ (r - w.length) ∧ idx w * 3 ^ (r - w.length) < 3 ^ r := by
    have : (3 : Int) ^ r = 3 ^ w.length * 3 ^ (r - w.length) := by rw [← p3add]; congr 1; omega
    rw [this]
    exact ⟨Int.mul_nonneg i1.1 (by omega), Int.mul_lt_mul_of_pos_right i1.2 (by omega)⟩
  simp! [f_span, check_word_ok h (show w.length ≤ 60 by omega), check_rounds_ok h2 h1, index_from_ok h (show w.length ≤ 61 by omega), h3, e, power_ok (show r - w.length ≤ 61 by omega)]
end
end Z

/-! views -/
namespace Z
/-- the letter that a worker doesn't hear -/
def df (b : Bool) : Nat := if b then 98 else 97
def wk (b : Bool) : List Nat := if b then [66] else [65]
/-- the places that are heard -/
def hsF (d : Nat) : Nat → List Nat → List Nat
  | _, [] => []
  | k, c :: w => if c = d then hsF d (k + 1) w else k :: hsF d (k + 1) w
theorem hsF_snoc (d : Nat) : ∀ (w : List Nat) (k c : Nat), hsF d k (w ++ [c]) = hsF d k w ++ if c = d then [] else [k + w.length]
  | [], k, c => by simp [hsF]
  | x :: w, k, c => by
    simp only [List.cons_append, hsF, hsF_snoc d w]
    split <;> split <;> simp <;> omega
theorem hsF_lt (d : Nat) : ∀ (w : List Nat) (k x : Nat), x ∈ hsF d k w → x < k + w.length
  | [], k, x, h => by simp [hsF] at h
  | c :: w, k, x, h => by
    simp only [hsF] at h
    simp only [List.length_cons]
    split at h
    · have := hsF_lt d w _ _ h; omega
    · rcases List.mem_cons.mp h with rfl | h
      · omega
      · have := hsF_lt d w _ _ h; omega
/-- what is known of a word -/
def txk (d : Nat) (w : List Nat) : List Nat := match (hsF d 0 w).getLast? with
  | none => w
  | some p => w.take p ++ [63] ++ w.drop (p + 1)
def hrd (d : Nat) (w : List Nat) : Bool := !(hsF d 0 w).isEmpty
theorem txk_nil (d : Nat) : txk d [] = [] := rfl
theorem txk_snoc (d : Nat) (w : List Nat) (c : Nat) : txk d (w ++ [c]) = if c = d then txk d w ++ [c] else w ++ [63] := by
  unfold txk
  rw [hsF_snoc, Nat.zero_add]
  by_cases hc : c = d
  · rw [if_pos hc, if_pos hc, List.append_nil]
    cases e : (hsF d 0 w).getLast? with
    | none => rfl
    | some p =>
      have hp := hsF_lt d w 0 p (List.mem_of_getLast? e)
      dsimp only
      rw [List.take_append_of_le_length (by omega), List.drop_append_of_le_length (by omega)]
      simp
  · rw [if_neg hc, if_neg hc]
    simp
theorem hrd_snoc (d : Nat) (w : List Nat) (c : Nat) : hrd d (w ++ [c]) = (hrd d w || decide (c ≠ d)) := by
  unfold hrd
  rw [hsF_snoc]
  by_cases h : c = d <;> simp [h]
theorem snoc_ind {p : List Nat → Prop} (h0 : p []) (h1 : ∀ w c, p w → p (w ++ [c])) (w : List Nat) : p w := by
  have : ∀ l : List Nat, p l.reverse := by
    intro l
    induction l with
    | nil => exact h0
    | cons c l ih => rw [List.reverse_cons]; exact h1 _ c ih
  have := this w.reverse
  rwa [List.reverse_reverse] at this
theorem txk_len (d : Nat) (w : List Nat) : (txk d w).length = w.length := by
  induction w using snoc_ind with
  | h0 => rfl
  | h1 w c ih => rw [txk_snoc]; split <;> simp [ih]
theorem txk_in (b : Bool) {w : List Nat} (h : Wd w) : (txk (df b) w).contains 63 = hrd (df b) w := by
  induction w using snoc_ind with
  | h0 => rfl
  | h1 w c ih =>
    have hw : Wd w := fun x hx => h x (List.mem_append_left _ hx)
    have hc : Lt c := h c (by simp)
    rw [txk_snoc, hrd_snoc]
    have ih := ih hw
    split
    · rename_i e
      have : ¬ c = 63 := by rcases hc with rfl | rfl | rfl <;> decide
      simp only [List.contains_eq_mem, List.mem_append, List.mem_singleton] at ih ⊢
      have c2 : ¬ 63 = c := fun z => this z.symm
      have c3 : ¬ 63 = df b := e ▸ c2
      simp [c3, ih, e]
    · rename_i e
      simp [e]
/-- a worker's view -/
def vwD (b : Bool) (x y : Int) (w : List Nat) : D := .tup [.str (wk b), .int (if b then y else x), if hrd (df b) w then .int (if b then x else y) else .non, .str (txk (df b) w)]
section
variable {P : Prog} {n : Nat}
theorem dsub_df (b : Bool) : dsubD [[65], [66]] [.str [97], .str [98]] (.str (wk b)) = some (.str [df b]) := by cases b <;> rfl
theorem enum_eq : ∀ (w : List Nat) (k : Nat), enumL k (w.map fun c => .str [c]) = (w.zipIdx k).map fun p => .tup [.int p.2, .str [p.1]]
  | [], k => rfl
  | c :: w, k => by simp only [List.map_cons, enumL_cons, List.zipIdx_cons, enum_eq w (k + 1)]
theorem hs_filt (d : Nat) : ∀ (w : List Nat) (k : Nat), ((w.zipIdx k).filter fun p => decide (p.1 ≠ d)).map (fun p => D.int p.2) = (hsF d k w).map fun (p : Nat) => D.int p
  | [], k => rfl
  | c :: w, k => by
    simp only [List.zipIdx_cons, List.filter_cons, hsF]
    by_cases e : c = d
    · simp only [e, ne_eq, not_true_eq_false, decide_false, Bool.false_eq_true, if_false, if_true]
      exact hs_filt d w (k + 1)
    · simp only [e, ne_eq, not_false_eq_true, decide_true, if_true, if_false, List.map_cons, hs_filt d w (k + 1)]
theorem filt_map {α β : Type} (f : α → β) (p : β → Bool) (q : α → Bool) (h : ∀ a, p (f a) = q a) : ∀ l : List α, (l.map f).filter p = (l.filter q).map f
  | [] => rfl
  | a :: l => by
    simp only [List.map_cons, List.filter_cons, h, filt_map f p q h l]
    split <;> rfl
theorem text_of_ok [U_text_of P] {b : Bool} {w : List Nat} (hl : w.length ≤ 60) : callN P (n + 1) 51 [.val (.str (wk b)), .val (.str w)] = .ret (.str (txk (df b) w)) .non := by
  refine fn_ret rfl ?_
  have c0 : ∀ x2 : Slot, ev (callN P n) G0 f_text_of_c0 [.val (.str (wk b)), .val (.str w), x2, .no, .no] = .ok (.lst ((hsF (df b) 0 w).map fun (p : Nat) => D.int p)) [.val (.str (wk b)), .val (.str w), x2, .no, .no] := by
    intro x2
    unfold f_text_of_c0
    rw [comp_filter (r1 := [.val (.str (wk b)), .val (.str w), x2, .no, .no]) (xs := (w.zipIdx 0).map fun p => D.tup [.int p.2, .str [p.1]]) (fun d => match d with | .tup [_, .str [c]] => decide (c ≠ df b) | _ => false) (fun d => match d with | .tup [a, _] => a | _ => .non)]
    · rw [filt_map _ _ (fun p => decide (p.1 ≠ df b)) (fun _ => rfl), List.map_map, ← hs_filt]
      rfl
    · simp! [enum_eq]
    · rw [List.length_map, List.length_zipIdx]; unfold LINE; omega
    · intro x hx
      obtain ⟨⟨p, q⟩, hd, rfl⟩ := List.mem_map.mp hx
      rw [compB_eq]
      by_cases e : p = df b
      · subst e
        simp! [dsub_df]
        simp
      · have e2 : ¬ [p] = [df b] := by simpa using e
        simp! [dsub_df, e2]
        simp [e]
  cases e : (hsF (df b) 0 w).getLast? with
  | none =>
    have e0 : hsF (df b) 0 w = [] := List.getLast?_eq_none_iff.mp e
    have et : txk (df b) w = w := by unfold txk; rw [e]
    rw [e0] at c0
    simp! [f_text_of, c0, et]
  | some p =>
    have hp := hsF_lt (df b) w 0 p (List.mem_of_getLast? e)
    have et : txk (df b) w = w.take p ++ [63] ++ w.drop (p + 1) := by unfold txk; rw [e]
    obtain ⟨q, eq⟩ := List.getLast?_eq_some_iff.mp e
    rw [eq] at c0
    have hz : ¬ (((q ++ [p]).map fun (p : Nat) => D.int p).length : Int) = 0 := by rw [List.length_map, List.length_append]; simp; omega
    have hi : idxD (.lst ((q ++ [p]).map fun (p : Nat) => D.int p)) (.int (-1)) = some (.int p) := by
      simp only [idxD, atL]
      rw [if_neg (by decide), if_pos (by simp; omega)]
      simp only [List.length_map, List.length_append, List.length_singleton]
      rw [show (-1 + ((q.length + 1 : Nat) : Int)).toNat = q.length by omega]
      simp
    have t1 : (0 : Int) ≤ (p : Int) + 1 := by omega
    have t2 : ((p : Int) + 1).toNat = p + 1 := by omega
    have l1 : (w.take p).length + 1 ≤ 16777216 := by rw [List.length_take]; omega
    have l2 : (w.take p ++ [63]).length + (w.drop (p + 1)).length ≤ 16777216 := by simp only [List.length_append, List.length_take, List.length_drop, List.length_singleton]; omega
    have hn : negD (.int 1) = some (.int (-1)) := rfl
    simp! [f_text_of, c0, ↓hz, hn, ↓hi, sliS_to, sliS_from, t1, t2, l1, l2, et]
theorem is_input_ok [U_is_input P] {i : Int} (h0 : 0 ≤ i) (h : i ≤ 99) : callN P (n + 2) 48 [.val (.int i)] = .ret (.bl true) .non := by
  refine fn_ret rfl ?_
  simp! [f_is_input, is_integer_int, h0, h]
theorem view_of_ok [U_view_of P] {b : Bool} {x y : Int} {w : List Nat} (hx : 0 ≤ x ∧ x ≤ 99) (hy : 0 ≤ y ∧ y ≤ 99) (h : Wd w) (hl : w.length ≤ 60) : callN P (n + 5) 56 [.val (.str (wk b)), .val (.tup [.int x, .int y]), .val (.str w)] = .ret (vwD b x y w) .non := by
  refine fn_ret rfl ?_
  have i1 := is_input_ok (P := P) (n := n) hx.1 hx.2
  have i2 := is_input_ok (P := P) (n := n) hy.1 hy.2
  have cw : callN P (n + 4) 47 [.val (.str (wk b))] = .ret .non .non := by
    refine fn_ret rfl ?_
    have hi : inD (.str (wk b)) (.tup [.str [65], .str [66]]) = some true := by cases b <;> rfl
    simp! [f_check_worker, ↓hi]
  have ip : callN P (n + 3) 49 [.val (.tup [.int x, .int y])] = .ret (.bl true) .non := by
    refine fn_ret rfl ?_
    simp! [f_is_pair, i1, i2]
  have cp : callN P (n + 4) 50 [.val (.tup [.int x, .int y])] = .ret .non .non := by
    refine fn_ret rfl ?_
    simp! [f_check_pair, ip]
  have vf : callN P (n + 4) 55 [.val (.str (wk b)), .val (.tup [.int x, .int y]), .val (.str w)] = .ret (vwD b x y w) .non := by
    refine fn_ret rfl ?_
    have ht := text_of_ok (P := P) (n := n + 2) (b := b) hl
    have hin : inD (.str [63]) (.str (txk (df b) w)) = some (hrd (df b) w) := by simp only [inD, txk_in b h]
    cases b
    · have e : eqD (.str (wk false)) (.str [65]) = some true := by rfl
      cases e2 : hrd (df false) w <;> (rw [e2] at hin; simp! [f_view_from, ht, ↓hin, vwD, ↓e, e2])
    · have e : eqD (.str (wk true)) (.str [65]) = some false := by rfl
      cases e2 : hrd (df true) w <;> (rw [e2] at hin; simp! [f_view_from, ht, ↓hin, vwD, ↓e, e2, List.reverse_cons, List.reverse_nil])
  simp! [f_view_of, cw, cp, check_word_ok h hl, vf]
end
end Z

/-! what the laws share: the script's cells, digits, texts, powers, spots -/
namespace Z
section
variable {P : Prog} {n : Nat}
theorem take_ok [U__law_take P] {a l : Int} (h0 : 0 < l) (h1 : l ≤ 1000000000000000000000000000000000000000000) : callN P (n + 1) 12 [.io (.lst [.int a]), .val (.int l)] = .ret (.int (a % l)) (.lst [.int (a / l)]) := by
  refine fn_ret rfl ?_
  simp! [f__law_take, outOf_io, g_mod h0, List.length_cons, Int.cast_ofNat_Int]
theorem mixed_ok [U__law_mixed P] {a k : Int} (h0 : 0 ≤ k) (hk : k ≤ 100000) : ∃ i : Int, 0 ≤ i ∧ i < 2147483579 ∧ callN P (n + 1) 10 [.val (.int a), .val (.int k)] = .ret (.int i) .non := by
  have m1 := Int.emod_nonneg a (show (2147483647 : Int) ≠ 0 by decide)
  have m2 := Int.emod_lt_of_pos a (show (0 : Int) < 2147483647 by decide)
  generalize hx : a % 2147483647 = x at m1 m2
  have n1 := Int.emod_nonneg (x * 48271 + k * 69621 + 1048583) (show (2147483629 : Int) ≠ 0 by decide)
  have n2 := Int.emod_lt_of_pos (x * 48271 + k * 69621 + 1048583) (show (0 : Int) < 2147483629 by decide)
  generalize hy : (x * 48271 + k * 69621 + 1048583) % 2147483629 = y at n1 n2
  have o1 := Int.emod_nonneg (y * y) (show (2147483587 : Int) ≠ 0 by decide)
  have o2 := Int.emod_lt_of_pos (y * y) (show (0 : Int) < 2147483587 by decide)
  generalize hz : y * y % 2147483587 = z at o1 o2
  refine ⟨z * (z + 2) % 2147483579, Int.emod_nonneg _ (by decide), Int.emod_lt_of_pos _ (by decide), fn_ret rfl ?_⟩
  simp! [f__law_mixed, g_mod (show (0 : Int) < 2147483647 by decide), g_mod (show (0 : Int) < 2147483629 by decide), g_mod (show (0 : Int) < 2147483587 by decide), g_mod (show (0 : Int) < 2147483579 by decide), hx, hy, hz]
theorem powM {k : Nat} (h : k ≤ 24) : (1 : Int) ≤ 2147483579 ^ k ∧ ((2147483579 : Int) ^ k).natAbs < BIG := by
  have h1 : (2147483579 : Nat) ^ k ≤ 2147483579 ^ 24 := Nat.pow_le_pow_right (by omega) h
  have h2 : 1 ≤ (2147483579 : Nat) ^ k := Nat.one_le_pow _ _ (by omega)
  have e : (2147483579 : Int) ^ k = ((2147483579 ^ k : Nat) : Int) := by simp
  rw [e]
  exact ⟨by omega, big_of (k := 800) (Nat.lt_of_le_of_lt (by rw [Int.natAbs_natCast]; exact h1) (by decide +kernel)) (by decide)⟩
def M240 : Int := 1000000000000000000000000000000000000000000000000000000000000 * 1000000000000000000000000000000000000000000000000000000000000 * 1000000000000000000000000000000000000000000000000000000000000 * 1000000000000000000000000000000000000000000000000000000000000
theorem M240_pos : 0 < M240 := by decide +kernel
theorem ev_M240 {C : Calls} {r : St} : ev C G0 (.bin .mul (.bin .mul (.bin .mul (.bin .pow (.int 10) (.int 60)) (.bin .pow (.int 10) (.int 60))) (.bin .pow (.int 10) (.int 60))) (.bin .pow (.int 10) (.int 60))) r = .ok (.int M240) r := by
  have p2 : Op.g .pow (.int 10) (.int 60) = some (.int 1000000000000000000000000000000000000000000000000000000000000) := rfl
  have b1 : (1000000000000000000000000000000000000000000000000000000000000 : Int).natAbs < BIG := big_of (k := 300) (by decide +kernel) (by decide)
  have b2 : (1000000000000000000000000000000000000000000000000000000000000 * 1000000000000000000000000000000000000000000000000000000000000 : Int).natAbs < BIG := big_of (k := 600) (by decide +kernel) (by decide)
  have b3 : (1000000000000000000000000000000000000000000000000000000000000 * 1000000000000000000000000000000000000000000000000000000000000 * 1000000000000000000000000000000000000000000000000000000000000 : Int).natAbs < BIG := big_of (k := 900) (by decide +kernel) (by decide)
  simp only [ev_bin, ev_int, p2, R.bind_ok, R.of_some, g_mul b1 b1, g_mul b2 b1, g_mul b3 b1]
  rfl
theorem ev_1e18 {C : Calls} {r : St} : ev C G0 (.bin .pow (.int 10) (.int 18)) r = .ok (.int 1000000000000000000) r := by
  simp only [ev_bin, ev_int, R.bind_ok, show Op.g .pow (.int 10) (.int 18) = some (.int 1000000000000000000) from rfl, R.of_some]
theorem cell_ok [U__law_cell P] {ns : List Int} {k : Nat} (hk : k ≤ 100) : ∃ i : Int, callN P (n + 2) 11 [.val (.lst (ns.map .int)), .val (.int k)] = .ret (.int i) .non := by
  have key : ∀ c : Int, RetP [.val (.lst (ns.map .int)), .val (.int k)] (fun d o => (∃ i, d = .int i) ∧ o = .non) (exs (callN P (n + 1)) G0 (f__law_cell.body.drop 2) [.val (.lst (ns.map .int)), .val (.int k), .val (.int c), .no, .no]) := by
    intro c
    have e1 := @ev_M240 (callN P (n + 1))
    have e2 := @ev_1e18 (callN P (n + 1))
    simp only [f__law_cell, List.drop_succ_cons, List.drop_zero]
    generalize E.bin .mul (.bin .mul (.bin .mul (.bin .pow (.int 10) (.int 60)) (.bin .pow (.int 10) (.int 60))) (.bin .pow (.int 10) (.int 60))) (.bin .pow (.int 10) (.int 60)) = EM at e1 ⊢
    generalize E.bin .pow (.int 10) (.int 18) = E18 at e2 ⊢
    by_cases hc : 1000000000000000000 ≤ c
    · simp! [e1, e2, hc, g_mod M240_pos]
      exact ⟨_, rfl, ⟨_, rfl⟩, rfl⟩
    · simp! [e2, hc]
      refine wp_for (fun j st => ∃ f s, st = [.val (.lst (ns.map .int)), .val (.int k), .val (.int c), .val (.int f), s] ∧ 0 ≤ f ∧ f < 2147483579 ^ j) ⟨0, _, rfl, by decide, by decide⟩ ?_ ?_
      · rintro j _ _ ⟨f, s, rfl, h1, h2⟩ hj
        obtain ⟨rfl, h3⟩ := rngL_get? hj
        have hj : j < 24 := by omega
        have hjj : j * j ≤ 24 * 24 := Nat.mul_le_mul (by omega) (by omega)
        have ejj : (0 + (j : Int)) * (0 + j) = ((j * j : Nat) : Int) := by push_cast; simp
        obtain ⟨p1, p2⟩ := powM (k := j) (by omega)
        obtain ⟨m, m1, m2, m3⟩ := mixed_ok (P := P) (n := n) (a := c) (k := 7 * (k : Int) + 100 * (0 + (j : Int)) + ((j * j : Nat) : Int)) (by omega) (by omega)
        have p3 : f.natAbs < BIG := by omega
        simp! [f__law_cell_b0, ejj, m3, g_mul p3 (show (2147483579 : Int).natAbs < BIG from big_of (k := 60) (by decide) (by decide))]
        exact ⟨_, _, rfl, by omega, by rw [Int.pow_succ]; omega⟩
      · rintro _ ⟨f, s, rfl, h1, h2⟩
        simp! []
        exact ⟨_, rfl, ⟨_, rfl⟩, rfl⟩
  suffices h : ∃ d o, callN P (n + 2) 11 [.val (.lst (ns.map .int)), .val (.int k)] = .ret d o ∧ (∃ i, d = .int i) ∧ o = .non by
    obtain ⟨_, _, h1, ⟨i, rfl⟩, rfl⟩ := h
    exact ⟨i, h1⟩
  refine fn_retP rfl ?_
  have eb : f__law_cell.body = .set 2 (.int 0) :: .cond (.cmp .lt (.var 1) (.lenv 0)) [.set 2 (.idxv 0 (.var 1))] [] :: f__law_cell.body.drop 2 := rfl
  rw [eb, show f__law_cell.nl - f__law_cell.np = 3 from rfl]
  generalize f__law_cell.body.drop 2 = rest at key ⊢
  by_cases h : (k : Int) < ns.length
  · have hk2 : k < ns.length := by omega
    have ix : idxD (.lst (ns.map .int)) (.int k) = some (.int ns[k]) := by
      simp [idxD, atL, hk2]
    have := key ns[k]
    simp! [h, ix, List.length_map]
    exact this
  · have := key 0
    simp! [h, List.length_map]
    exact this
/-! ### texts -/
def sgn (i : Int) : Nat := [97, 45, 98].getD i.toNat 0
theorem sgn_lt (a : Int) : Lt (sgn (a % 3)) := by
  have : a % 3 = 0 ∨ a % 3 = 1 ∨ a % 3 = 2 := by omega
  rcases this with h | h | h <;> rw [h] <;> simp [sgn, Lt]
theorem sgn_at (a : Int) : idxD (.str [97, 45, 98]) (.int (a % 3)) = some (.str [sgn (a % 3)]) := by
  have : a % 3 = 0 ∨ a % 3 = 1 ∨ a % 3 = 2 := by omega
  rcases this with h | h | h <;> rw [h] <;> rfl
/-- the text that the digits tell, and what is left of them -/
def txw (m a : Int) : List Nat := (List.range (a % (m + 1)).toNat).map fun j => sgn (a / (m + 1) / 3 ^ j % 3)
def txa (m a : Int) : Int := a / (m + 1) / 3 ^ (a % (m + 1)).toNat
theorem txw_len {m a : Int} (h : 0 ≤ m) : ((txw m a).length : Int) ≤ m := by
  have := Int.emod_lt_of_pos a (show 0 < m + 1 by omega)
  unfold txw
  rw [List.length_map, List.length_range]
  omega
theorem txw_wd (m a : Int) : Wd (txw m a) := fun c hc => by
  obtain ⟨j, _, rfl⟩ := List.mem_map.mp hc
  exact sgn_lt _
theorem text_ok [U__law_text P] {m a : Int} (h0 : 0 ≤ m) (hm : m ≤ 1000) : callN P (n + 2) 13 [.io (.lst [.int a]), .val (.int m)] = .ret (.str (txw m a)) (.lst [.int (txa m a)]) := by
  refine fn_ret rfl ?_
  have l1 := Int.emod_lt_of_pos a (show 0 < m + 1 by omega)
  have l2 := Int.emod_nonneg a (show m + 1 ≠ 0 by omega)
  have hc : ev (callN P (n + 1)) G0 f__law_text_c0 [.io (.lst [.int a]), .val (.int m), .no] = .ok (.lst ((txw m a).map fun c => .str [c])) [.io (.lst [.int (txa m a)]), .val (.int m), .no] := by
    unfold f__law_text_c0
    rw [ev_comp, compR_eq]
    simp! [take_ok]
    obtain ⟨l, r', e, rfl, rfl⟩ := compL_inv (f := compB (.one 2) (evc (callN P (n + 1)) G0 none) (ev (callN P (n + 1)) G0 (.idx (.str [97, 45, 98]) (.callio 12 0 [.int 3]))) [2])
      (fun k acc st => acc = (List.range k).map (fun j => D.str [sgn (a / (m + 1) / 3 ^ j % 3)]) ∧ st = [.io (.lst [.int (a / (m + 1) / 3 ^ k)]), .val (.int m), .no])
      (xs := rngL 0 (a % (m + 1))) (r := [.io (.lst [.int (a / (m + 1))]), .val (.int m), .no]) ⟨rfl, by rw [Int.pow_zero, Int.ediv_one]⟩
      (fun k x acc st ⟨e1, e2⟩ hx => by
        obtain ⟨rfl, h3⟩ := rngL_get? hx
        subst e1 e2
        refine ⟨some (.str [sgn (a / (m + 1) / 3 ^ k % 3)]), [.io (.lst [.int (a / (m + 1) / 3 ^ (k + 1))]), .val (.int m), .no], ?_, ?_, ?_, rfl⟩
        · rw [compB_eq]
          simp! [take_ok, sgn_at]
          rw [Int.pow_succ, Int.ediv_ediv_of_nonneg (Int.le_of_lt (p3pos k))]
        · simp only [List.length_map, List.length_range]; unfold LINE; omega
        · rw [List.range_succ, List.map_append]; rfl)
    simp! [e]
    simp only [rngL_len', Int.sub_zero, txw, txa, List.map_map]
    rfl
  have hl := txw_len (m := m) (a := a) h0
  have := joinD_map (s := txw m a) (g := fun c => c) (by omega)
  simp! [f__law_text, hc, this, List.map_id', outOf_io]
/-! ### powers, spots -/
theorem lpower_ok [U__law_power P] {r : Nat} (h : r ≤ 61) : callN P (n + 1) 14 [.val (.int r)] = .ret (.int (3 ^ r)) .non := by
  refine fn_ret rfl ?_
  simp! [f__law_power]
  refine wp_for (fun k st => ∃ s, st = [.val (.int r), .val (.int (3 ^ k)), s]) ⟨_, rfl⟩ ?_ ?_
  · rintro k _ _ ⟨s, rfl⟩ hk
    obtain ⟨rfl, h2⟩ := rngL_get? hk
    have := pow3_le (k := k) (by omega)
    simp! [f__law_power_b0]
    exact ⟨_, by rw [p3succ]⟩
  · rintro _ ⟨s, rfl⟩
    simp! [rngL_len', Int.sub_zero, Int.toNat_natCast]
theorem lpower_okI [U__law_power P] {r : Int} (h0 : 0 ≤ r) (h : r ≤ 61) : callN P (n + 1) 14 [.val (.int r)] = .ret (.int (3 ^ r.toNat)) .non := by
  obtain ⟨k, rfl⟩ := Int.eq_ofNat_of_zero_le h0
  rw [lpower_ok (by omega), Int.toNat_natCast]
theorem dl_of {c : Nat} (h : Lt c) : dsubD [[97], [45], [98]] [.int 0, .int 1, .int 2] (.str [c]) = some (.int (of c)) := by
  rcases h with rfl | rfl | rfl <;> rfl
theorem lspot_ok [U__law_spot P] {w : List Nat} (h : Wd w) (hl : w.length ≤ 61) : callN P (n + 1) 15 [.val (.str w)] = .ret (.int (idx w)) .non := by
  refine fn_ret rfl ?_
  simp! [f__law_spot]
  refine wp_for (fun k st => ∃ s t, st = [.val (.str w), .val (.int (idx (w.take k))), s, t]) ⟨_, _, rfl⟩ ?_ ?_
  · rintro k _ _ ⟨s, t, rfl⟩ hk
    obtain ⟨c, hc, rfl⟩ := chars_get? hk
    have hkl := (List.getElem?_eq_some_iff.mp hc).1
    have h1 := idx_le (w := w.take k)
    have h2 := pow3_le (k := (w.take k).length) (by rw [List.length_take]; omega)
    have hlt : Lt c := h c (List.mem_of_getElem? hc)
    have ho := @of_le c
    simp! [f__law_spot_b0, dl_of hlt]
    rw [List.take_add_one, hc, Option.toList_some, idx_snoc, stp, dg]
    split <;> exact ⟨_, _, rfl⟩
  · rintro _ ⟨s, t, rfl⟩
    simp! [List.length_map, List.take_length]
end
end Z

/-! all texts of a length, in the order of their indexes -/
namespace Z
def ext3 (w : List Nat) : List (List Nat) := [w ++ [97], w ++ [45], w ++ [98]]
def TX : Nat → List (List Nat)
  | 0 => [[]]
  | k + 1 => (TX k).flatMap ext3
def txts (k : Nat) : List (List Nat) := (List.range (3 ^ k)).map fun i : Nat => wat k (i : Int)
theorem TX_wd : ∀ k, ∀ w ∈ TX k, Wd w ∧ w.length = k
  | 0, w, h => by simp [TX] at h; subst h; exact ⟨Wd.nil, rfl⟩
  | k + 1, w, h => by
    obtain ⟨v, hv, h⟩ := List.mem_flatMap.mp h
    obtain ⟨h1, h2⟩ := TX_wd k v hv
    simp only [ext3, List.mem_cons, List.not_mem_nil, or_false] at h
    rcases h with rfl | rfl | rfl
    · exact ⟨h1.snoc (.inl rfl), by simp [h2]⟩
    · exact ⟨h1.snoc (.inr (.inl rfl)), by simp [h2]⟩
    · exact ⟨h1.snoc (.inr (.inr rfl)), by simp [h2]⟩
theorem wat_three (k i : Nat) : [wat (k + 1) ((3 * i : Nat) : Int), wat (k + 1) ((3 * i + 1 : Nat) : Int), wat (k + 1) ((3 * i + 2 : Nat) : Int)].Perm (ext3 (wat k i)) := by
  have e : ∀ d : Nat, d < 3 → wat (k + 1) ((3 * i + d : Nat) : Int) = wat k i ++ [ltr i d] := fun d hd => by
    rw [wat, show ((3 * i + d : Nat) : Int) / 3 = (i : Int) by omega, show ((3 * i + d : Nat) : Int) % 3 = (d : Int) by omega]
  have e0 : wat (k + 1) ((3 * i : Nat) : Int) = wat k i ++ [ltr i (0 : Nat)] := e 0 (by omega)
  rw [e0, e 1 (by omega), e 2 (by omega)]
  unfold ext3
  by_cases h : (i : Int) % 2 = 0
  · have h0 : ltr i (0 : Nat) = 97 := by simp [ltr, ltrs, h]
    have h1 : ltr i (1 : Nat) = 45 := by simp [ltr, ltrs, h]
    have h2 : ltr i (2 : Nat) = 98 := by simp [ltr, ltrs, h]
    rw [h0, h1, h2]
  · have h0 : ltr i (0 : Nat) = 98 := by simp [ltr, ltrs, h]
    have h1 : ltr i (1 : Nat) = 45 := by simp [ltr, ltrs, h]
    have h2 : ltr i (2 : Nat) = 97 := by simp [ltr, ltrs, h]
    rw [h0, h1, h2]
    exact (List.reverse_perm [wat k i ++ [97], wat k i ++ [45], wat k i ++ [98]])
theorem range3 {α : Type} (f : Nat → α) : ∀ n : Nat, (List.range (3 * n)).map f = (List.range n).flatMap fun i => [f (3 * i), f (3 * i + 1), f (3 * i + 2)]
  | 0 => rfl
  | n + 1 => by
    rw [show 3 * (n + 1) = 3 * n + 1 + 1 + 1 by omega, List.range_succ, List.range_succ, List.range_succ, List.range_succ, List.flatMap_append, ← range3 f n]
    simp
theorem flat_perm {α β : Type} {f g : α → List β} : ∀ l : List α, (∀ a ∈ l, (f a).Perm (g a)) → (l.flatMap f).Perm (l.flatMap g)
  | [], _ => List.Perm.refl _
  | a :: l, h => by
    rw [List.flatMap_cons, List.flatMap_cons]
    exact (h a List.mem_cons_self).append (flat_perm l fun b hb => h b (List.mem_cons_of_mem _ hb))
theorem TX_perm : ∀ k, (TX k).Perm (txts k)
  | 0 => by simp [TX, txts, wat]
  | k + 1 => by
    have e : txts (k + 1) = (List.range (3 ^ k)).flatMap fun i => [wat (k + 1) ((3 * i : Nat) : Int), wat (k + 1) ((3 * i + 1 : Nat) : Int), wat (k + 1) ((3 * i + 2 : Nat) : Int)] := by
      unfold txts
      rw [Nat.pow_succ, Nat.mul_comm, range3]
    rw [e]
    refine ((TX_perm k).flatMap_right ext3).trans ?_
    unfold txts
    rw [List.flatMap_map]
    exact (flat_perm _ fun i _ => wat_three k i).symm
theorem txts_idx (k : Nat) : (txts k).map idx = (List.range (3 ^ k)).map fun i => ((i : Nat) : Int) := by
  unfold txts
  rw [List.map_map]
  refine List.map_congr_left fun i hi => ?_
  have := List.mem_range.mp hi
  refine wat_idx k i (by omega) ?_
  have e : (3 : Int) ^ k = ((3 ^ k : Nat) : Int) := by simp
  omega
theorem srt_eq {α : Type} {ks : List Int} {l : List α} {T : List (Int × α)} (hp : (ks.zip l).Perm T) (hs : T.Pairwise fun p q => p.1 < q.1) : srtL ks l = T.map Prod.snd := by
  unfold srtL
  congr 1
  refine List.Perm.eq_of_pairwise (le := fun p q => p.1 ≤ q.1) ?_ ?_ ?_ ((List.mergeSort_perm _ _).trans hp)
  · intro a b ha hb h1 h2
    have hb' := hb
    have ha' : a ∈ T := (hp.mem_iff.mp ((List.mergeSort_perm _ _).mem_iff.mp ha))
    refine Classical.byContradiction fun ne => ?_
    have key : ∀ {l : List (Int × α)}, l.Pairwise (fun p q => p.1 < q.1) → ∀ a ∈ l, ∀ b ∈ l, a.1 = b.1 → a = b := by
      intro l hl
      induction hl with
      | nil => intro a ha; cases ha
      | cons hx _ ih =>
        intro a ha b hb e
        rcases List.mem_cons.mp ha with rfl | ha
        · rcases List.mem_cons.mp hb with rfl | hb
          · rfl
          · have := hx b hb; omega
        · rcases List.mem_cons.mp hb with rfl | hb
          · have := hx a (by assumption); omega
          · exact ih a ha b hb e
    exact ne (key hs a ha' b hb' (by omega))
  · have := List.pairwise_mergeSort (le := fun p q : Int × α => decide (p.1 ≤ q.1)) (fun a b c h1 h2 => by simp at *; omega) (fun a b => by simp; omega) (ks.zip l)
    exact this.imp fun h => by simpa using h
  · exact hs.imp fun h => by omega
theorem zip_map {α β : Type} (f : α → β) : ∀ l : List α, (l.map f).zip l = l.map fun a => (f a, a)
  | [] => rfl
  | a :: l => by simp [zip_map f l]
theorem keys_of {C : Calls} {f : Nat} : ∀ {l : List (List Nat)}, (∀ w ∈ l, ∃ o, C f [.val (.str w)] = .ret (.int (idx w)) o) → keysC C f (l.map .str) = some (l.map idx)
  | [], _ => rfl
  | w :: l, h => by
    obtain ⟨o, e⟩ := h w List.mem_cons_self
    simp only [List.map_cons, keysC, e, keys_of fun v hv => h v (List.mem_cons_of_mem _ hv), Option.map_some]
theorem TX_pair (k : Nat) : ((txts k).map fun w => (idx w, D.str w)).Pairwise fun p q => p.1 < q.1 := by
  have h1 : ((txts k).map idx).Pairwise (· < ·) := by
    rw [txts_idx, List.pairwise_map]
    exact List.pairwise_lt_range.imp fun h => by omega
  rw [List.pairwise_map] at h1 ⊢
  exact h1
theorem srt_texts {C : Calls} {f k : Nat} (h : ∀ w, Wd w → w.length = k → ∃ o, C f [.val (.str w)] = .ret (.int (idx w)) o) : srtR C f (.lst ((TX k).map .str)) = some (.lst ((txts k).map .str)) := by
  have ek := keys_of (C := C) (f := f) (l := TX k) fun w hw => h w (TX_wd k w hw).1 (TX_wd k w hw).2
  have nd : ((TX k).map idx).Nodup := by
    have hp := (TX_perm k).map idx
    rw [hp.nodup_iff, txts_idx]
    have : (List.range (3 ^ k)).Pairwise (· ≠ ·) := List.nodup_range
    show List.Pairwise _ _
    rw [List.pairwise_map]
    exact this.imp fun h => by omega
  have ez : ((TX k).map idx).zip ((TX k).map D.str) = (TX k).map fun w => (idx w, D.str w) := by
    rw [List.zip_map']
  have es := srt_eq (ks := (TX k).map idx) (l := (TX k).map D.str) (T := (txts k).map fun w => (idx w, D.str w)) (by rw [ez]; exact (TX_perm k).map _) (TX_pair k)
  unfold srtR
  dsimp only
  rw [ek]
  dsimp only
  rw [if_pos nd, es, List.map_map]
  rfl
theorem TX_len : ∀ k, (TX k).length = 3 ^ k := fun k => by rw [(TX_perm k).length_eq]; simp [txts]
section
variable {P : Prog} {n : Nat}
theorem texts_ok [U__law_texts P] {k : Nat} (hk : k ≤ 6) : callN P (n + 2) 26 [.val (.int k)] = .ret (.lst ((txts k).map .str)) .non := by
  refine fn_ret rfl ?_
  simp! [f__law_texts]
  refine wp_for (fun j st => ∃ s2 s3 s4, st = [.val (.int k), .val (.lst ((TX j).map .str)), s2, s3, s4]) ⟨_, _, _, rfl⟩ ?_ ?_
  · rintro j _ _ ⟨s2, s3, s4, rfl⟩ hj
    obtain ⟨rfl, h3⟩ := rngL_get? hj
    have hj : j < k := by omega
    have p1 : 3 ^ j ≤ 3 ^ 6 := Nat.pow_le_pow_right (by omega) (by omega)
    simp! [f__law_texts_b1]
    refine wp_for (fun i st => ∃ s4, st = [.val (.int k), .val (.lst ((TX j).map .str)), .val (.int (0 + (j : Int))), .val (.lst ((((TX j).take i).flatMap ext3).map .str)), s4]) ⟨_, rfl⟩ ?_ ?_
    · rintro i _ _ ⟨s4, rfl⟩ hi
      obtain ⟨w, hw, rfl⟩ := map_get? hi
      have hil := (List.getElem?_eq_some_iff.mp hw).1
      rw [TX_len] at hil
      obtain ⟨_, wl⟩ := TX_wd j w (List.mem_of_getElem? hw)
      have fl : ((((TX j).take i).flatMap ext3).map D.str).length ≤ 100000 := by
        rw [List.length_map]
        have : ∀ l : List (List Nat), (l.flatMap ext3).length = 3 * l.length := by
          intro l
          induction l with
          | nil => rfl
          | cons x l ih => rw [List.flatMap_cons, List.length_append, ih]; simp [ext3]; omega
        rw [this, List.length_take, TX_len]
        omega
      have ga : Op.g .add (.lst ((((TX j).take i).flatMap ext3).map .str)) (.lst [.str (w ++ [97]), .str (w ++ [45]), .str (w ++ [98])]) = some (.lst ((((TX j).take (i + 1)).flatMap ext3).map .str)) := by
        rw [g_addL (by simp only [List.length_cons, List.length_nil]; unfold LINE; omega), List.take_add_one, hw, List.flatMap_append, List.map_append]
        rfl
      simp! [f__law_texts_b0, ga]
      exact ⟨_, rfl⟩
    · rintro _ ⟨s4, rfl⟩
      simp! [List.length_map, List.take_length]
      exact ⟨_, _, _, rfl⟩
  · rintro _ ⟨s2, s3, s4, rfl⟩
    have es := srt_texts (C := callN P (n + 1)) (f := 15) (k := k) fun w hw hl => ⟨_, lspot_ok hw (by omega)⟩
    simp! [rngL_len', Int.sub_zero, Int.toNat_natCast, es]
end
end Z

/-! words_from, is_view -/
namespace Z
def lts (b : Bool) : List Nat := if b then [97, 45] else [45, 98]
theorem lts_lt {b : Bool} {c : Nat} (h : c ∈ lts b) : Lt c ∧ c ≠ df b := by
  cases b <;> simp [lts] at h <;> rcases h with rfl | rfl <;> simp [Lt, df]
theorem txk_heard {d c : Nat} {u v : List Nat} (hc : c ≠ d) (h : v.all (· == d) = true) : txk d (u ++ c :: v) = u ++ 63 :: v := by
  induction v using snoc_ind with
  | h0 => rw [txk_snoc, if_neg hc]
  | h1 v e ih =>
    rw [List.all_append, Bool.and_eq_true] at h
    have he : e = d := by simpa using h.2
    rw [show u ++ c :: (v ++ [e]) = (u ++ c :: v) ++ [e] by simp, txk_snoc, if_pos he, ih h.1]
    simp
theorem txk_mid {d c : Nat} {u v : List Nat} (hc : c ≠ d) (hv : Wd v) : decide (txk d (u ++ c :: v) = u ++ 63 :: v) = v.all (· == d) := by
  cases h : v.all (· == d) with
  | true => rw [txk_heard hc h]; simp
  | false =>
    refine decide_eq_false fun z => ?_
    revert z
    induction v using snoc_ind with
    | h0 => simp at h
    | h1 v e ih =>
      rw [show u ++ c :: (v ++ [e]) = (u ++ c :: v) ++ [e] by simp, show u ++ 63 :: (v ++ [e]) = (u ++ 63 :: v) ++ [e] by simp, txk_snoc]
      have hv' : Wd v := fun x hx => hv x (List.mem_append_left _ hx)
      have he : Lt e := hv e (by simp)
      split
      · rename_i e1
        intro z
        have := List.append_cancel_right z
        refine ih hv' ?_ this
        rw [List.all_append] at h
        simpa [e1] using h
      · intro z
        have := (List.append_inj' z rfl).2
        have : (63 : Nat) = e := by simpa using this
        rcases he with rfl | rfl | rfl <;> cases this
theorem txk_plain {b : Bool} {w : List Nat} (h : Wd w) : decide (txk (df b) w = w) = !hrd (df b) w := by
  cases e : hrd (df b) w with
  | false =>
    have e0 : hsF (df b) 0 w = [] := by simpa [hrd] using e
    have : txk (df b) w = w := by unfold txk; rw [e0]; rfl
    rw [this]; simp
  | true =>
    refine decide_eq_false fun z => ?_
    have h1 := txk_in b h
    rw [z, e] at h1
    have : (63 : Nat) ∈ w := by simpa using h1
    rcases h 63 this with x | x | x <;> cases x
/-- the text: letters, at most one "?" -/
theorem split63 : ∀ {T : List Nat}, T.contains 63 = true → T.countP (· == 63) ≤ 1 → isW (T.map (rpl 45)) = true → ∃ u v, T = u ++ 63 :: v ∧ Wd u ∧ Wd v ∧ (∀ c, T.map (rpl c) = u ++ c :: v) ∧ (T.dropWhile (· != 63)).drop 1 = v
  | [], h, _, _ => by simp at h
  | y :: T, h, hc, hw => by
    have hw' : Wd ((y :: T).map (rpl 45)) := isW_iff.mp hw
    have tl : Wd (T.map (rpl 45)) := fun x hx => hw' x (by rw [List.map_cons]; exact List.mem_cons_of_mem _ hx)
    by_cases e : y = 63
    · subst e
      rw [List.countP_cons] at hc
      have h0 : T.countP (· == 63) = 0 := by simp at hc; simpa using hc
      have no : ∀ x ∈ T, ¬ x = 63 := fun x hx => by
        have := List.countP_eq_zero.mp h0 x hx
        simpa using this
      have id : ∀ c, T.map (rpl c) = T := fun c => by
        rw [List.map_congr_left (g := id) fun x hx => by simp [rpl, no x hx], List.map_id]
      refine ⟨[], T, rfl, Wd.nil, by rw [← id 45]; exact tl, fun c => by rw [List.map_cons, id c]; simp [rpl], by simp⟩
    · have hy : Lt y := by
        have := hw' (rpl 45 y) (by simp)
        simpa [rpl, e] using this
      obtain ⟨u, v, e1, hu, hv, hm, hd⟩ := split63 (T := T) (by simpa [Ne.symm e] using h) (by rw [List.countP_cons] at hc; omega) (isW_iff.mpr tl)
      refine ⟨y :: u, v, by rw [e1]; rfl, fun x hx => (List.mem_cons.mp hx).elim (fun z => z ▸ hy) (hu x), hv, fun c => by rw [List.map_cons, hm c]; simp [rpl, e], ?_⟩
      rw [List.dropWhile_cons, if_pos (by simpa using e)]
      exact hd
theorem plain63 {T : List Nat} (h : T.contains 63 = false) (hw : isW (T.map (rpl 45)) = true) : Wd T := by
  have : T.map (rpl 45) = T := by
    rw [List.map_congr_left (g := id) fun x hx => by
      have : x ≠ 63 := fun z => by subst z; simp [hx] at h
      simp [rpl, this], List.map_id]
  rw [this] at hw
  exact isW_iff.mp hw
def inB : D → Bool
  | .int i => decide (0 ≤ i ∧ i ≤ 99)
  | _ => false
/-- the text is what a worker knows of some word -/
def okT (b : Bool) (T : List Nat) : Bool := decide (T.length ≤ 60) && isW (T.map (rpl 45)) && decide (T.countP (· == 63) ≤ 1) && (if T.contains 63 then ((T.dropWhile (· != 63)).drop 1).all (· == df b) else !hrd (df b) T)
section
variable {P : Prog} {n : Nat}
theorem is_input_any [U_is_input P] {d : D} (h : shal 8 d = true) : callN P (n + 2) 48 [.val d] = .ret (.bl (inB d)) .non := by
  refine fn_ret rfl ?_
  have hi : callN P (n + 1) 0 [.val d] = .ret (.bl (match d with | .int _ => true | _ => false)) .non := by
    refine fn_ret rfl ?_
    cases d with
    | exc _ _ => simp [shal] at h
    | dct _ _ => simp [shal] at h
    | _ => simp! [f_is_integer]
  cases d with
  | int i =>
    by_cases h0 : 0 ≤ i
    · by_cases h1 : i ≤ 99 <;> simp! [f_is_input, hi, h0, h1, inB]
    · simp! [f_is_input, hi, h0, inB]
      simp
  | _ => simp! [f_is_input, hi, inB]
theorem srt_one {C : Calls} {f : Nat} {d : D} {k : Int} {o : D} (h : C f [.val d] = .ret (.int k) o) : srtR C f (.lst [d]) = some (.lst [d]) := by
  unfold srtR
  simp only [keysC, h, Option.map_some]
  rw [if_pos (by simp)]
  unfold srtL
  simp
theorem srtL_map {α β : Type} (f : α → β) (ks : List Int) (l : List α) : srtL ks (l.map f) = (srtL ks l).map f := by
  unfold srtL
  rw [List.zip_map_right, ← List.map_mergeSort (f := Prod.map id f) (r := fun p q => decide (p.1 ≤ q.1)) (by intros; rfl), List.map_map, List.map_map]
  rfl
theorem words_plain [U_words_from P] {b : Bool} {T : List Nat} (h : T.contains 63 = false) (hw : Wd T) (hl : T.length ≤ 60) : callN P (n + 3) 52 [.val (.str (wk b)), .val (.str T)] = .ret (.lst [.str T]) .non := by
  refine fn_ret rfl ?_
  have ix := index_from_ok (P := P) (n := n) hw (by omega)
  have c1 : T.length ≤ 1000000 ∧ [97, 45, 98].length ≤ 1000 ∧ [97, 45, 98].contains 63 = false := ⟨by omega, by decide, by decide⟩
  have hf : wfrD (some (.str T)) (some (.str (wk b))) (G0[0]?) [[65], [66]] [.str [97], .str [98]] = some (.lst [.str T]) := by
    show wfrD _ _ (some (.str [97, 45, 98])) _ _ = _
    unfold wfrD
    dsimp only
    rw [if_pos c1, if_neg (by rw [h]; decide)]
  simp! [f_words_from, vlv_val0, vlv_succ, hf, srt_one ix]
theorem words_two [U_words_from P] {b : Bool} {u v : List Nat} (hu : Wd u) (hv : Wd v) (hm : ∀ c, (u ++ 63 :: v).map (rpl c) = u ++ c :: v) (hl : (u ++ 63 :: v).length ≤ 60) : ∃ L : List (List Nat), callN P (n + 3) 52 [.val (.str (wk b)), .val (.str (u ++ 63 :: v))] = .ret (.lst (L.map .str)) .non ∧ L.length = 2 ∧ ∀ w ∈ L, ∃ c ∈ lts b, w = u ++ c :: v := by
  suffices h : ∃ x o, callN P (n + 3) 52 [.val (.str (wk b)), .val (.str (u ++ 63 :: v))] = .ret x o ∧ ∃ L : List (List Nat), x = .lst (L.map .str) ∧ o = .non ∧ L.length = 2 ∧ ∀ w ∈ L, ∃ c ∈ lts b, w = u ++ c :: v by
    obtain ⟨_, _, e, L, rfl, rfl, h⟩ := h
    exact ⟨L, e, h⟩
  refine fn_retP rfl ?_
  have c1 : (u ++ 63 :: v).length ≤ 1000000 ∧ [97, 45, 98].length ≤ 1000 ∧ [97, 45, 98].contains 63 = false := ⟨by omega, by decide, by decide⟩
  have hf : wfrD (some (.str (u ++ 63 :: v))) (some (.str (wk b))) (G0[0]?) [[65], [66]] [.str [97], .str [98]] = some (.lst (((lts b).map fun c => u ++ c :: v).map .str)) := by
    show wfrD _ _ (some (.str [97, 45, 98])) _ _ = _
    unfold wfrD
    dsimp only
    rw [if_pos c1, if_pos (by simp), List.map_map]
    cases b <;> simp [dlook, wk, lts, df, hm]
  have wd : ∀ c ∈ lts b, Wd (u ++ c :: v) := fun c hc x hx => by
    rcases List.mem_append.mp hx with hx | hx
    · exact hu x hx
    · rcases List.mem_cons.mp hx with rfl | hx
      · exact (lts_lt hc).1
      · exact hv x hx
  have hk := keys_of (C := callN P (n + 2)) (f := 6) (l := (lts b).map fun c => u ++ c :: v) fun w hw => by
    obtain ⟨c, hc, rfl⟩ := List.mem_map.mp hw
    exact ⟨_, index_from_ok (P := P) (n := n) (wd c hc) (by simp at hl ⊢; omega)⟩
  have nd : (((lts b).map fun c => u ++ c :: v).map idx).Nodup := by
    have hne : ∀ c ∈ lts b, ∀ e ∈ lts b, c ≠ e → idx (u ++ c :: v) ≠ idx (u ++ e :: v) := fun c hc e he z y => by
      have := idx_inj (k := (u ++ c :: v).length) rfl (by simp) (wd c hc) (wd e he) y
      have := List.append_cancel_left this
      exact z (by simpa using this)
    cases b
    · have := hne 45 (by simp [lts]) 98 (by simp [lts]) (by decide)
      simpa [lts] using this
    · have := hne 97 (by simp [lts]) 45 (by simp [lts]) (by decide)
      simpa [lts] using this
  have hs : srtR (callN P (n + 2)) 6 (.lst (((lts b).map fun c => u ++ c :: v).map .str)) = some (.lst ((srtL (((lts b).map fun c => u ++ c :: v).map idx) ((lts b).map fun c => u ++ c :: v)).map .str)) := by
    unfold srtR
    simp only [hk]
    rw [if_pos nd, srtL_map]
  simp! [f_words_from, vlv_val0, vlv_succ, hf, hs]
  refine ⟨_, rfl, _, rfl, rfl, ?_, fun w hw => ?_⟩
  · unfold srtL
    rw [List.length_map, List.length_mergeSort, List.length_zip]
    cases b <;> simp [lts]
  · unfold srtL at hw
    obtain ⟨p, hp, rfl⟩ := List.mem_map.mp hw
    have := List.mem_mergeSort.mp hp
    obtain ⟨c, hc, e⟩ := List.mem_map.mp (List.of_mem_zip (a := p.1) (b := p.2) this).2
    exact ⟨c, hc, e.symm⟩
theorem eq_strB (a b : List Nat) : eqD (.str a) (.str b) = some (decide (a = b)) := eqD_str a b
theorem view_c0 [U_is_view P] {b : Bool} {d : D} {T : List Nat} {L : List (List Nat)} (hw : callN P (n + 3) 52 [.val (.str (wk b)), .val (.str T)] = .ret (.lst (L.map .str)) .non) (hl : ∀ w ∈ L, w.length ≤ 60) (h2 : L.length ≤ 2) :
    ev (callN P (n + 3)) G0 f_is_view_c0 [.val d, .val (.str (wk b)), .val (.str T), .no] = .ok (.lst (L.map fun w => D.bl (decide (txk (df b) w = T)))) [.val d, .val (.str (wk b)), .val (.str T), .no] := by
  unfold f_is_view_c0
  rw [comp_mapA (r1 := [.val d, .val (.str (wk b)), .val (.str T), .no]) (mk := fun w => .str w) (xs := L) (fun w => .bl (decide (txk (df b) w = T)))]
  · rfl
  · simp! [hw]
  · unfold LINE; omega
  · intro w hw'
    rw [compB_eq]
    simp! [text_of_ok (P := P) (n := n + 2) (b := b) (hl w hw'), eqD_str]
theorem is_view_str [U_is_view P] {b : Bool} {x o : D} {T : List Nat} (hx : shal 8 x = true) (ho : shal 8 o = true) (hT : T.length ≤ 1000000) :
    callN P (n + 4) 53 [.val (.tup [.str (wk b), x, o, .str T])] = .ret (.bl (inB x && (okT b T && (if T.contains 63 then inB o else o.isNon)))) .non := by
  refine fn_ret rfl ?_
  have hi : inD (.str (wk b)) (.tup [.str [65], .str [66]]) = some true := by cases b <;> rfl
  have i1 := is_input_any (P := P) (n := n + 1) hx
  have i2 := is_input_any (P := P) (n := n + 1) ho
  have iw := is_word_str (P := P) (n := n + 2) (w := T.map (rpl 45))
  rw [List.length_map] at iw
  have x0 : ∀ a b c d : D, idxD (.tup [a, b, c, d]) (.int 0) = some a := fun _ _ _ _ => rfl
  have x1 : ∀ a b c d : D, idxD (.tup [a, b, c, d]) (.int 1) = some b := fun _ _ _ _ => rfl
  have x2 : ∀ a b c d : D, idxD (.tup [a, b, c, d]) (.int 2) = some c := fun _ _ _ _ => rfl
  have x3 : ∀ a b c d : D, idxD (.tup [a, b, c, d]) (.int 3) = some d := fun _ _ _ _ => rfl
  have r1 : rep1D (some (.str T)) = some (.str (T.map (rpl 45))) := by unfold rep1D; dsimp only; rw [if_pos hT]
  cases ex : inB x with
  | false =>
    rw [ex] at i1
    simp! [f_is_view, ↓hi, i1, ↓x0, ↓x1]
  | true =>
    rw [ex] at i1
    by_cases hw : (decide (T.length ≤ 60) && isW (T.map (rpl 45))) = true
    · rw [hw] at iw
      have hw' := hw
      simp only [Bool.and_eq_true, decide_eq_true_eq] at hw'
      by_cases hc : T.countP (fun x => x == 63) ≤ 1
      · have hc' : ¬ (1 : Int) < ((T.countP fun x => x == 63 : Nat) : Int) := by omega
        have hin : inD (.str [63]) (.str T) = some (T.contains 63) := by simp only [inD]
        cases h63 : T.contains 63 with
        | false =>
          rw [h63] at hin
          have pw := plain63 h63 hw'.2
          have c0 := view_c0 (P := P) (n := n) (d := .tup [.str (wk b), x, o, .str T]) (L := [T]) (words_plain (b := b) h63 pw hw'.1) (by simpa using hw'.1) (by simp)
          rw [List.map_cons, List.map_nil, txk_plain pw] at c0
          cases hh : hrd (df b) T <;> rw [hh] at c0 <;> simp! [f_is_view, ↓hi, i1, ↓x0, ↓x1, ↓x2, ↓x3, vlv_val0, vlv_succ, r1, iw, mtf_count, hc', c0, blsOf, List.all_cons, List.all_nil, id, ↓hin, okT, hw, hc, h63, hh]
        | true =>
          rw [h63] at hin
          obtain ⟨u, v, eT, hu, hv, hm, hd⟩ := split63 h63 hc hw'.2
          have hm' : ∀ c, (u ++ 63 :: v).map (rpl c) = u ++ c :: v := by rw [← eT]; exact hm
          have hl60 : (u ++ 63 :: v).length ≤ 60 := by rw [← eT]; exact hw'.1
          obtain ⟨L, e1, e2, e3⟩ := words_two (P := P) (n := n) (b := b) hu hv hm' hl60
          rw [← eT] at e1
          have c0 := view_c0 (P := P) (n := n) (d := .tup [.str (wk b), x, o, .str T]) e1 (fun w hw => by obtain ⟨c, _, rfl⟩ := e3 w hw; simp at hl60 ⊢; omega) (by omega)
          have em : (L.map fun w => D.bl (decide (txk (df b) w = T))) = [.bl (v.all (· == df b)), .bl (v.all (· == df b))] := by
            have : (L.map fun w => D.bl (decide (txk (df b) w = T))) = L.map fun _ => D.bl (v.all (· == df b)) := List.map_congr_left fun w hw => by
              obtain ⟨c, hc, rfl⟩ := e3 w hw
              rw [eT, txk_mid (lts_lt hc).2 hv]
            rw [this]
            match L, e2 with
            | [_, _], _ => rfl
          rw [em] at c0
          have ok : okT b T = v.all (· == df b) := by
            unfold okT
            rw [hw, h63, if_pos rfl, hd, Bool.true_and, decide_eq_true hc, Bool.true_and]
          rw [ok]
          cases hh : v.all (· == df b) <;> rw [hh] at c0 <;> simp! [f_is_view, ↓hi, i1, i2, ↓x0, ↓x1, ↓x2, ↓x3, vlv_val0, vlv_succ, r1, iw, mtf_count, hc', c0, blsOf, List.all_cons, List.all_nil, id, ↓hin, h63]
      · have hc' : (1 : Int) < ((T.countP fun x => x == 63 : Nat) : Int) := by omega
        have ok : okT b T = false := by
          unfold okT
          rw [decide_eq_false hc, Bool.and_false, Bool.false_and]
        simp! [f_is_view, ↓hi, i1, ↓x0, ↓x1, ↓x2, ↓x3, vlv_val0, vlv_succ, r1, iw, mtf_count, hc', ok]
    · have hw0 : (decide (T.length ≤ 60) && isW (T.map (rpl 45))) = false := by simpa using hw
      rw [hw0] at iw
      have ok : okT b T = false := by
        unfold okT
        rw [hw0, Bool.false_and, Bool.false_and]
      simp! [f_is_view, ↓hi, i1, ↓x0, ↓x1, ↓x2, ↓x3, vlv_val0, vlv_succ, r1, iw, ok]
end
end Z

/-! neighbours: the word with its last heard letter changed -/
namespace Z
def oc (b : Bool) (c : Nat) : Nat := if b then (if c = 97 then 45 else 97) else (if c = 45 then 98 else 45)
theorem othF (i : Int) : oth false i = if (i + 1) % 2 = 0 then i + 1 else i - 1 := by
  simp only [oth, pnt]
  split <;> split <;> simp_all <;> omega
theorem othT (i : Int) : oth true i = if (i + 1) % 2 = 1 then i + 1 else i - 1 := by
  simp only [oth, pnt]
  split <;> split <;> simp_all <;> omega
theorem oc_lts {b : Bool} {c : Nat} (h : c ∈ lts b) : oc b c ∈ lts b ∧ oc b c ≠ c ∧ (lts b).Perm [c, oc b c] := by
  cases b <;> simp [lts] at h <;> rcases h with rfl | rfl <;> simp [lts, oc]
  · exact List.Perm.swap _ _ _
  · exact List.Perm.swap _ _ _
theorem oth_a {b : Bool} {c : Nat} {m : Int} (h : c ∈ lts b) : oth b (stp m c) = stp m (oc b c) := by
  cases b <;> simp [lts] at h <;> rcases h with rfl | rfl <;> simp only [othF, othT, stp, dg, of, oc] <;> by_cases hm : m % 2 = 0 <;> simp [hm] <;> omega
theorem oth_b {b : Bool} {i j : Int} (h : oth b i = j) : oth b (stp i (df b)) = stp j (df b) := by
  subst h
  cases b
  · simp only [othF, df, stp, dg, of]
    by_cases hm : i % 2 = 0
    · have h1 : ¬ (i + 1) % 2 = 0 := by omega
      have h2 : ¬ (i - 1) % 2 = 0 := by omega
      have h3 : ¬ (3 * i + 1) % 2 = 0 := by omega
      simp [hm, h1, h2, h3]
      omega
    · have h1 : (i + 1) % 2 = 0 := by omega
      have h3 : (3 * i + 2 + 1) % 2 = 0 := by omega
      simp [hm, h1, h3]
      omega
  · simp only [othT, df, stp, dg, of]
    by_cases hm : i % 2 = 0
    · have h1 : (i + 1) % 2 = 1 := by omega
      have h2 : ¬ (i + 1) % 2 = 0 := by omega
      have h3 : (3 * i + 2 + 1) % 2 = 1 := by omega
      simp [hm, h1, h3]
      omega
    · have h1 : ¬ (i + 1) % 2 = 1 := by omega
      have h2 : (i - 1) % 2 = 0 := by omega
      have h3 : ¬ (3 * i + 1) % 2 = 1 := by omega
      simp [hm, h1, h2, h3]
      omega
theorem oth_heard {b : Bool} {u v : List Nat} {c : Nat} (hc : c ∈ lts b) (hv : v.all (· == df b) = true) : oth b (idx (u ++ c :: v)) = idx (u ++ oc b c :: v) := by
  induction v using snoc_ind with
  | h0 => rw [idx_snoc, idx_snoc, oth_a hc]
  | h1 v e ih =>
    rw [List.all_append, Bool.and_eq_true] at hv
    have he : e = df b := by simpa using hv.2
    subst he
    have := oth_b (ih hv.1)
    rw [← idx_snoc, ← idx_snoc] at this
    simpa using this
theorem idx_deaf (b : Bool) {w : List Nat} (h : w.all (· == df b) = true) : idx w = if b then 3 ^ w.length - 1 else 0 := by
  induction w using snoc_ind with
  | h0 => cases b <;> rfl
  | h1 w e ih =>
    rw [List.all_append, Bool.and_eq_true] at h
    have he : e = df b := by simpa using h.2
    subst he
    rw [idx_snoc, ih h.1, List.length_append]
    cases b
    · rfl
    · have o := p3odd w.length
      simp only [if_true, List.length_cons, List.length_nil, Nat.zero_add, p3succ, stp, dg, df, of]
      have : (3 ^ w.length - 1 : Int) % 2 = 0 := by omega
      simp [this]
      omega
theorem nbr_deaf (b : Bool) {w : List Nat} (h : w.all (· == df b) = true) : nbr b w = .non := by
  unfold nbr
  rw [if_neg]
  rw [idx_deaf b h]
  have o := p3odd w.length
  have p := p3pos w.length
  cases b
  · simp only [Bool.false_eq_true, if_false, othF]
    rw [if_neg (by decide)]
    omega
  · simp only [if_true, othT]
    have : (3 ^ w.length - 1 + 1 : Int) % 2 = 1 := by omega
    rw [if_pos this]
    omega
theorem nbr_heard {b : Bool} {u v : List Nat} {c : Nat} (hu : Wd u) (hc : c ∈ lts b) (hv : v.all (· == df b) = true) : nbr b (u ++ c :: v) = .str (u ++ oc b c :: v) := by
  have hv' : Wd v := fun x hx => by
    have := List.all_eq_true.mp hv x hx
    have e : x = df b := by simpa using this
    rw [e]
    cases b
    · exact .inl rfl
    · exact .inr (.inr rfl)
  have hw : Wd (u ++ oc b c :: v) := fun x hx => by
    rcases List.mem_append.mp hx with hx | hx
    · exact hu x hx
    · rcases List.mem_cons.mp hx with rfl | hx
      · exact (lts_lt (oc_lts hc).1).1
      · exact hv' x hx
  have le := @idx_le (u ++ oc b c :: v)
  have hl : (u ++ oc b c :: v).length = (u ++ c :: v).length := by simp
  unfold nbr
  rw [oth_heard hc hv, if_pos (by rw [← hl]; exact le), ← hl, wat_of hw]
end Z

/-! views of words are views; errors of views (cut out of M_k10) -/
namespace Z
def KS3 : List Nat := [0, 1, 2, 3, 4, 7, 8, 10, 11, 12, 14, 17]
/-- a word -/
def wdB : D → Bool
  | .str w => decide (w.length ≤ 60) && isW w
  | _ => false
def isInt : D → Bool
  | .int _ => true
  | _ => false
/-- a number from 0 to m -/
def upB (m : Int) : D → Bool
  | .int i => decide (0 ≤ i ∧ i ≤ m)
  | _ => false
def isPB : D → Bool
  | .tup [x, y] => inB x && inB y
  | _ => false
section
variable {P : Prog} {n : Nat}
theorem is_integer_any [U_is_integer P] {d : D} (h : shal 8 d = true) : callN P (n + 1) 0 [.val d] = .ret (.bl (isInt d)) .non := by
  refine fn_ret rfl ?_
  cases d with
  | exc _ _ => simp [shal] at h
  | dct _ _ => simp [shal] at h
  | _ => simp! [f_is_integer, isInt]
theorem is_word_any [U_is_word P] {d : D} (h : shal 8 d = true) : callN P (n + 1) 2 [.val d] = .ret (.bl (wdB d)) .non := by
  cases d with
  | str w => exact is_word_str
  | exc _ _ => simp [shal] at h
  | dct _ _ => simp [shal] at h
  | _ => exact is_word_no rfl
theorem check_word_x [U_check_word P] {d : D} (h : shal 8 d = true) (hw : wdB d = false) : callN P (n + 2) 3 [.val d] = .exc (.exc 1 []) .non := by
  refine fn_exc rfl ?_
  simp! [f_check_word, is_word_any h, hw]
theorem check_rounds_x [U_check_rounds P] {d : D} (h : shal 8 d = true) (hw : upB 60 d = false) : callN P (n + 2) 1 [.val d] = .exc (.exc 2 []) .non := by
  refine fn_exc rfl ?_
  have hi := is_integer_any (P := P) (n := n) h
  cases d with
  | int i =>
    have : ¬ (0 ≤ i ∧ i ≤ 60) := by simpa [upB] using hw
    by_cases h0 : 0 ≤ i
    · have h1 : ¬ i ≤ 60 := fun z => this ⟨h0, z⟩
      simp! [f_check_rounds, hi, isInt, h0, h1]
    · simp! [f_check_rounds, hi, isInt, h0]
  | _ => simp! [f_check_rounds, hi, isInt]
def nms3 : List (List Nat) := [[119, 111, 114, 100], [110, 117, 109, 98, 101, 114], [119, 111, 114, 107, 101, 114], [112, 97, 105, 114], [97, 100, 118, 101, 114, 115, 97, 114, 121], [108, 101, 116, 116, 101, 114, 115], [118, 105, 101, 119], [110, 111, 119, 111, 114, 100], [110, 111, 112, 108, 97, 99, 101], [108, 97, 114, 103, 101], [102, 111, 114, 98, 105, 100, 100, 101, 110]]
theorem only_k [U__law_only P] {k : Nat} {s : List Nat} (hk : (k = 1 ∧ s = [119, 111, 114, 100]) ∨ (k = 2 ∧ s = [110, 117, 109, 98, 101, 114]) ∨ (k = 3 ∧ s = [119, 111, 114, 107, 101, 114]) ∨ (k = 4 ∧ s = [112, 97, 105, 114]) ∨ (k = 10 ∧ s = [118, 105, 101, 119])) : callN P (n + 2) 32 [.val (.exc k []), .val (.str s)] = .ret (.bl true) .non := by
  have hI : ∀ t, isxD [0, 1, 2, 3, 4, 7, 8, 10, 11, 12, 14, 17] t (.exc k []) = some (.bl (subX k t)) := fun t => by rcases hk with ⟨rfl, _⟩ | ⟨rfl, _⟩ | ⟨rfl, _⟩ | ⟨rfl, _⟩ | ⟨rfl, _⟩ <;> rfl
  have hb : ∀ (a b : List D), a.length + b.length ≤ 100 → Op.g .add (.lst a) (.lst b) = some (.lst (a ++ b)) := fun a b h => g_addL (by unfold LINE; omega)
  have kd : callN P (n + 1) 31 [.val (.exc k [])] = .ret (.lst (nms3.map fun z => .bl (decide (z = s)))) .non := by
    refine fn_ret rfl ?_
    rcases hk with ⟨rfl, rfl⟩ | ⟨rfl, rfl⟩ | ⟨rfl, rfl⟩ | ⟨rfl, rfl⟩ | ⟨rfl, rfl⟩ <;> (simp! [f__law_kinds, hI, hb, subX]; rfl)
  refine fn_ret rfl ?_
  have c0 : ev (callN P (n + 1)) G0 f__law_only_c0 [.val (.exc k []), .val (.str s), .val (.lst [.str [119, 111, 114, 100], .str [110, 117, 109, 98, 101, 114], .str [119, 111, 114, 107, 101, 114], .str [112, 97, 105, 114], .str [97, 100, 118, 101, 114, 115, 97, 114, 121], .str [108, 101, 116, 116, 101, 114, 115], .str [118, 105, 101, 119], .str [110, 111, 119, 111, 114, 100], .str [110, 111, 112, 108, 97, 99, 101], .str [108, 97, 114, 103, 101]]), .no] =
      .ok (.lst (nms3.map fun z => .bl (decide (z = s)))) [.val (.exc k []), .val (.str s), .val (.lst [.str [119, 111, 114, 100], .str [110, 117, 109, 98, 101, 114], .str [119, 111, 114, 107, 101, 114], .str [112, 97, 105, 114], .str [97, 100, 118, 101, 114, 115, 97, 114, 121], .str [108, 101, 116, 116, 101, 114, 115], .str [118, 105, 101, 119], .str [110, 111, 119, 111, 114, 100], .str [110, 111, 112, 108, 97, 99, 101], .str [108, 97, 114, 103, 101]]), .no] := by
    unfold f__law_only_c0
    rw [comp_mapA (r1 := [.val (.exc k []), .val (.str s), .val (.lst [.str [119, 111, 114, 100], .str [110, 117, 109, 98, 101, 114], .str [119, 111, 114, 107, 101, 114], .str [112, 97, 105, 114], .str [97, 100, 118, 101, 114, 115, 97, 114, 121], .str [108, 101, 116, 116, 101, 114, 115], .str [118, 105, 101, 119], .str [110, 111, 119, 111, 114, 100], .str [110, 111, 112, 108, 97, 99, 101], .str [108, 97, 114, 103, 101]]), .no]) (mk := .str) (xs := nms3) (fun z => .bl (decide (z = s)))]
    · rfl
    · simp! [hb]; rfl
    · decide
    · intro z _
      rw [compB_eq]
      simp! []
  have q : eqD (.lst (nms3.map fun z => .bl (decide (z = s)))) (.lst (nms3.map fun z => .bl (decide (z = s)))) = some true := eqD_refl (by
    simp only [shal, List.all_map]
    exact List.all_eq_true.mpr fun x _ => rfl)
  have s0 : subX k 0 = true := by simp [subX]
  have s1 : subX k 100 = true := by simp [subX]
  simp! [f__law_only, hI, s0, s1, kd, c0, ↓q]
theorem is_pair_any [U_is_pair P] {d : D} (h : shal 8 d = true) (h2 : ∀ x y, d = .tup [x, y] → shal 8 x = true ∧ shal 8 y = true) : callN P (n + 3) 49 [.val d] = .ret (.bl (isPB d)) .non := by
  refine fn_ret rfl ?_
  cases d with
  | tup l =>
    by_cases e : (l.length : Int) = 2
    · match l, e with
      | [x, y], _ =>
        obtain ⟨a, b⟩ := h2 x y rfl
        have i1 := is_input_any (P := P) (n := n) a
        have i2 := is_input_any (P := P) (n := n) b
        have x0 : idxD (.tup [x, y]) (.int 0) = some x := rfl
        have x1 : idxD (.tup [x, y]) (.int 1) = some y := rfl
        cases ex : inB x <;> rw [ex] at i1 <;> simp! [f_is_pair, ↓x0, ↓x1, i1, i2, isPB, ex]
    · have : isPB (.tup l) = false := by
        match l, e with
        | [], _ => rfl
        | [_], _ => rfl
        | [_, _], e => exact absurd rfl e
        | _ :: _ :: _ :: _, _ => rfl
      simp! [f_is_pair, e, this]
  | exc _ _ => simp [shal] at h
  | dct _ _ => simp [shal] at h
  | _ => simp! [f_is_pair, isPB]
theorem view_x3 [U_view_of P] {a b c : D} (h : inD a (.tup [.str [65], .str [66]]) = some false) : callN P (n + 5) 56 [.val a, .val b, .val c] = .exc (.exc 3 []) .non := by
  have hc : callN P (n + 4) 47 [.val a] = .exc (.exc 3 []) .non := by
    refine fn_exc rfl ?_
    simp! [f_check_worker, ↓h]
  refine fn_exc rfl ?_
  simp! [f_view_of, hc]
theorem ck_worker [U_check_worker P] {b : Bool} : callN P (n + 1) 47 [.val (.str (wk b))] = .ret .non .non := by
  refine fn_ret rfl ?_
  have hi : inD (.str (wk b)) (.tup [.str [65], .str [66]]) = some true := by cases b <;> rfl
  simp! [f_check_worker, ↓hi]
theorem view_x4 [U_view_of P] {b : Bool} {d c : D} (h : shal 8 d = true) (h2 : ∀ x y, d = .tup [x, y] → shal 8 x = true ∧ shal 8 y = true) (hp : isPB d = false) : callN P (n + 5) 56 [.val (.str (wk b)), .val d, .val c] = .exc (.exc 4 []) .non := by
  have hc : callN P (n + 4) 50 [.val d] = .exc (.exc 4 []) .non := by
    refine fn_exc rfl ?_
    simp! [f_check_pair, is_pair_any (P := P) (n := n) h h2, hp]
  refine fn_exc rfl ?_
  simp! [f_view_of, ck_worker, hc]
theorem ck_pair [U_check_pair P] {x y : Int} (hx : 0 ≤ x ∧ x ≤ 99) (hy : 0 ≤ y ∧ y ≤ 99) : callN P (n + 4) 50 [.val (.tup [.int x, .int y])] = .ret .non .non := by
  refine fn_ret rfl ?_
  have hp := is_pair_any (P := P) (n := n) (d := .tup [.int x, .int y]) rfl (fun a b e => by cases e; exact ⟨rfl, rfl⟩)
  have : isPB (.tup [.int x, .int y]) = true := by simp [isPB, inB, hx.1, hx.2, hy.1, hy.2]
  simp! [f_check_pair, hp, this]
theorem view_x1 [U_view_of P] {b : Bool} {x y : Int} {d : D} (hx : 0 ≤ x ∧ x ≤ 99) (hy : 0 ≤ y ∧ y ≤ 99) (h : shal 8 d = true) (hw : wdB d = false) : callN P (n + 5) 56 [.val (.str (wk b)), .val (.tup [.int x, .int y]), .val d] = .exc (.exc 1 []) .non := by
  refine fn_exc rfl ?_
  simp! [f_view_of, ck_worker, ck_pair (P := P) (n := n) hx hy, check_word_x h hw]
/-- what is no view -/
def NoV (P : Prog) (n : Nat) (d : D) : Prop := callN P (n + 4) 53 [.val d] = .ret (.bl false) .non
theorem check_view_x [U_check_view P] {d : D} (h : NoV P n d) : callN P (n + 5) 54 [.val d] = .exc (.exc 10 []) .non := by
  refine fn_exc rfl ?_
  unfold NoV at h
  simp! [f_check_view, h]
theorem words_x [U_words_of P] {d : D} (h : NoV P n d) : callN P (n + 6) 57 [.val d] = .exc (.exc 10 []) .non := by
  refine fn_exc rfl ?_
  simp! [f_words_of, check_view_x h]
theorem future_x10 [U_future P] {d e : D} (h : NoV P n d) : callN P (n + 6) 67 [.val d, .val e] = .exc (.exc 10 []) .non := by
  refine fn_exc rfl ?_
  simp! [f_future, check_view_x h]
theorem hrd_split {d : Nat} {w : List Nat} (h : hrd d w = true) : ∃ u c v, w = u ++ c :: v ∧ c ≠ d ∧ v.all (· == d) = true := by
  induction w using snoc_ind with
  | h0 => cases h
  | h1 w e ih =>
    rw [hrd_snoc] at h
    by_cases he : e = d
    · obtain ⟨u, c, v, e1, e2, e3⟩ := ih (by simpa [he] using h)
      exact ⟨u, c, v ++ [e], by rw [e1]; simp, e2, by rw [List.all_append, e3]; simp [he]⟩
    · exact ⟨w, e, [], by simp, he, rfl⟩
theorem wd63 {w : List Nat} (h : Wd w) : ∀ x ∈ w, x ≠ 63 := fun x hx e => by
  have := h x hx
  rw [e] at this
  rcases this with z | z | z <;> cases z
theorem map_wd {w : List Nat} (h : Wd w) (c : Nat) : w.map (rpl c) = w := by
  rw [List.map_congr_left (g := id) fun x hx => by simp [rpl, wd63 h x hx], List.map_id]
theorem dw63 : ∀ {u v : List Nat}, (∀ x ∈ u, x ≠ 63) → ((u ++ 63 :: v).dropWhile (· != 63)).drop 1 = v
  | [], v, _ => by simp
  | x :: u, v, h => by
    rw [List.cons_append, List.dropWhile_cons, if_pos (by simpa using h x List.mem_cons_self)]
    exact dw63 fun y hy => h y (List.mem_cons_of_mem _ hy)
theorem cnt63 {w : List Nat} (h : Wd w) : w.countP (· == 63) = 0 := List.countP_eq_zero.mpr fun x hx => by simpa using wd63 h x hx
theorem okT_view {b : Bool} {w : List Nat} (h : Wd w) (hl : w.length ≤ 60) : okT b (txk (df b) w) = true := by
  have hlen : decide ((txk (df b) w).length ≤ 60) = true := by rw [txk_len]; exact decide_eq_true hl
  have hin := txk_in b h
  cases e : hrd (df b) w with
  | false =>
    have et : txk (df b) w = w := by have := txk_plain (b := b) h; rw [e] at this; simpa using this
    unfold okT
    rw [hlen, hin, e, et, map_wd h, isW_iff.mpr h, cnt63 h, e]
    rfl
  | true =>
    obtain ⟨u, c, v, rfl, hc, hv⟩ := hrd_split e
    have hu : Wd u := fun x hx => h x (List.mem_append_left _ hx)
    have hv' : Wd v := fun x hx => h x (List.mem_append_right _ (List.mem_cons_of_mem _ hx))
    have et := txk_heard (u := u) hc hv
    unfold okT
    rw [hlen, hin, e, et, dw63 (wd63 hu), hv, List.map_append, List.map_cons, map_wd hu, map_wd hv', List.countP_append, List.countP_cons, cnt63 hu, cnt63 hv']
    have : isW (u ++ rpl 45 63 :: v) = true := isW_iff.mpr fun x hx => by
      rcases List.mem_append.mp hx with hx | hx
      · exact hu x hx
      · rcases List.mem_cons.mp hx with rfl | hx
        · simp [rpl, Lt]
        · exact hv' x hx
    rw [this]
    rfl
theorem is_view_vw [U_is_view P] {b : Bool} {x y : Int} {w : List Nat} (hx : 0 ≤ x ∧ x ≤ 99) (hy : 0 ≤ y ∧ y ≤ 99) (h : Wd w) (hl : w.length ≤ 60) : callN P (n + 4) 53 [.val (vwD b x y w)] = .ret (.bl true) .non := by
  have e := is_view_str (P := P) (n := n) (b := b) (x := .int (if b then y else x)) (o := if hrd (df b) w then .int (if b then x else y) else .non) (T := txk (df b) w) rfl (by split <;> rfl) (by rw [txk_len]; omega)
  have i1 : inB (.int (if b then y else x)) = true := by cases b <;> simp [inB, hx.1, hx.2, hy.1, hy.2]
  have i2 : inB (.int (if b then x else y)) = true := by cases b <;> simp [inB, hx.1, hx.2, hy.1, hy.2]
  rw [i1, okT_view h hl, txk_in b h] at e
  unfold vwD
  rw [e]
  cases hrd (df b) w
  · rfl
  · simp [i2]
theorem view_words [U_words_from P] {b : Bool} {w : List Nat} (h : Wd w) (hl : w.length ≤ 60) : ∃ (w0 : List Nat) (L : List (List Nat)), callN P (n + 3) 52 [.val (.str (wk b)), .val (.str (txk (df b) w))] = .ret (.lst ((w0 :: L).map .str)) .non ∧ Wd w0 ∧ w0.length = w.length := by
  cases e : hrd (df b) w with
  | false =>
    have et : txk (df b) w = w := by have := txk_plain (b := b) h; rw [e] at this; simpa using this
    have hin := txk_in b h
    rw [et, e] at hin
    rw [et]
    exact ⟨w, [], words_plain hin h hl, h, rfl⟩
  | true =>
    obtain ⟨u, c, v, rfl, hc, hv⟩ := hrd_split e
    have hu : Wd u := fun x hx => h x (List.mem_append_left _ hx)
    have hv' : Wd v := fun x hx => h x (List.mem_append_right _ (List.mem_cons_of_mem _ hx))
    rw [txk_heard (u := u) hc hv]
    obtain ⟨L, e1, e2, e3⟩ := words_two (P := P) (n := n) (b := b) hu hv' (fun c => by rw [List.map_append, List.map_cons, map_wd hu, map_wd hv']; simp [rpl]) (by simpa using hl)
    match L, e2 with
    | [a, b'], _ =>
      obtain ⟨c2, hc2, rfl⟩ := e3 a (by simp)
      refine ⟨_, [b'], e1, fun x hx => ?_, by simp⟩
      rcases List.mem_append.mp hx with hx | hx
      · exact hu x hx
      · rcases List.mem_cons.mp hx with rfl | hx
        · exact (lts_lt hc2).1
        · exact hv' x hx
theorem check_view_vw [U_check_view P] {b : Bool} {x y : Int} {w : List Nat} (hx : 0 ≤ x ∧ x ≤ 99) (hy : 0 ≤ y ∧ y ≤ 99) (h : Wd w) (hl : w.length ≤ 60) : callN P (n + 5) 54 [.val (vwD b x y w)] = .ret .non .non := by
  refine fn_ret rfl ?_
  have := is_view_vw (P := P) (n := n) (b := b) hx hy h hl
  generalize vwD b x y w = d at this
  simp! [f_check_view, this]
theorem vw_at (b : Bool) (x y : Int) (w : List Nat) : idxD (vwD b x y w) (.int 0) = some (.str (wk b)) ∧ idxD (vwD b x y w) (.int 3) = some (.str (txk (df b) w)) := ⟨rfl, rfl⟩
theorem words_ok [U_words_of P] {b : Bool} {x y : Int} {w : List Nat} (hx : 0 ≤ x ∧ x ≤ 99) (hy : 0 ≤ y ∧ y ≤ 99) (h : Wd w) (hl : w.length ≤ 60) : ∃ d, callN P (n + 6) 57 [.val (vwD b x y w)] = .ret d .non := by
  obtain ⟨w0, L, e, _, _⟩ := view_words (P := P) (n := n + 2) (b := b) h hl
  have c := check_view_vw (P := P) (n := n) (b := b) hx hy h hl
  obtain ⟨a0, a3⟩ := vw_at b x y w
  generalize vwD b x y w = d at c a0 a3
  refine ⟨.lst ((w0 :: L).map .str), fn_ret rfl ?_⟩
  simp! [f_words_of, c, ↓a0, ↓a3, e]
theorem future_x2 [U_future P] {b : Bool} {x y : Int} {w : List Nat} {d : D} (hx : 0 ≤ x ∧ x ≤ 99) (hy : 0 ≤ y ∧ y ≤ 99) (h : Wd w) (hl : w.length ≤ 60) (hs : shal 8 d = true) (hd : upB 60 d = false) : callN P (n + 6) 67 [.val (vwD b x y w), .val d] = .exc (.exc 2 []) .non := by
  have c := check_view_vw (P := P) (n := n) (b := b) hx hy h hl
  generalize vwD b x y w = v at c
  refine fn_exc rfl ?_
  simp! [f_future, c, check_rounds_x (P := P) (n := n + 3) hs hd]
theorem future_less [U_future P] {b : Bool} {x y : Int} {w : List Nat} {i : Int} (hx : 0 ≤ x ∧ x ≤ 99) (hy : 0 ≤ y ∧ y ≤ 99) (h : Wd w) (hl : w.length ≤ 60) (h0 : 0 ≤ i) (h1 : i < w.length) : callN P (n + 6) 67 [.val (vwD b x y w), .val (.int i)] = .exc (.exc 2 []) .non := by
  have c := check_view_vw (P := P) (n := n) (b := b) hx hy h hl
  obtain ⟨a0, a3⟩ := vw_at b x y w
  have tl := txk_len (df b) w
  generalize vwD b x y w = v at c a0 a3
  refine fn_exc rfl ?_
  simp! [f_future, c, check_rounds_ok (P := P) (n := n + 3) h0 (show i ≤ 60 by omega), ↓a3, tl, h1]
theorem future_ok [U_future P] {b : Bool} {x y : Int} {w : List Nat} (hx : 0 ≤ x ∧ x ≤ 99) (hy : 0 ≤ y ∧ y ≤ 99) (h : Wd w) (hl : w.length ≤ 60) : ∃ d, callN P (n + 6) 67 [.val (vwD b x y w), .val (.int (w.length : Nat))] = .ret d .non := by
  suffices h : ∃ d o, callN P (n + 6) 67 [.val (vwD b x y w), .val (.int (w.length : Nat))] = .ret d o ∧ o = .non by
    obtain ⟨d, _, e, rfl⟩ := h
    exact ⟨d, e⟩
  obtain ⟨w0, L, e, hw0, hl0⟩ := view_words (P := P) (n := n + 2) (b := b) h hl
  have c := check_view_vw (P := P) (n := n) (b := b) hx hy h hl
  obtain ⟨a0, a3⟩ := vw_at b x y w
  have tl := txk_len (df b) w
  generalize vwD b x y w = v at c a0 a3
  have ix := index_from_ok (P := P) (n := n + 3) hw0 (by omega)
  have hp : callN P (n + 5) 20 [.val (.str (wk b)), .val (.int (idx w0))] = .ret (.int (pnt b (idx w0))) .non := by cases b; exact point_A; exact point_B
  have p0 := power_ok (P := P) (n := n + 4) (r := 0) (by omega)
  have pr := power_ok (P := P) (n := n + 4) (r := w.length) (by omega)
  have i0 : idxD (.lst ((w0 :: L).map .str)) (.int 0) = some (.str w0) := rfl
  have bi := @idx_le w0
  have bp := pnt_le b bi.1
  have b3 := pow3_le (k := w0.length) (by omega)
  generalize idx w0 = i at ix hp bi bp
  generalize pnt b i = q at hp bp
  have z1 : Op.g .mul (.int (q - 1)) (.int 1) = some (.int ((q - 1) * 1)) := g_mul (big60 (by omega) (by omega)) (by decide)
  have z2 : Op.g .mul (.int (q + 1)) (.int 1) = some (.int ((q + 1) * 1)) := g_mul (big60 (by omega) (by omega)) (by decide)
  have zz : ((w.length : Nat) : Int) - ((w.length : Nat) : Int) = ((0 : Nat) : Int) := by omega
  have p0' : callN P (n + 5) 4 [.val (.int 0)] = .ret (.int 1) .non := p0
  refine fn_retP rfl ?_
  simp! [f_future, c, check_rounds_ok (P := P) (n := n + 3) (show (0 : Int) ≤ ((w.length : Nat) : Int) by omega) (show ((w.length : Nat) : Int) ≤ 60 by omega), ↓a3, ↓a0, tl, zz, p0', e, ↓i0, ix, hp, ↓z1, ↓z2, pr, Int.lt_irrefl]
  exact ⟨_, rfl, rfl⟩
end
end Z

/-! the law's own view -/
namespace Z
theorem hs_range (d : Nat) (w : List Nat) : (List.range w.length).filter (fun i => decide (w.getD i 0 ≠ d)) = hsF d 0 w := by
  induction w using snoc_ind with
  | h0 => rfl
  | h1 w c ih =>
    rw [List.length_append, List.length_singleton, List.range_succ, List.filter_append, hsF_snoc, ← ih, Nat.zero_add]
    congr 1
    · refine List.filter_congr fun i hi => ?_
      have := List.mem_range.mp hi
      simp [List.getD_eq_getElem?_getD, List.getElem?_append_left this]
    · by_cases e : c = d
      · simp [e, List.getD_eq_getElem?_getD]
      · simp [e, List.getD_eq_getElem?_getD]
section
variable {P : Prog} {n : Nat}
theorem heard_ok [U__law_heard P] {b : Bool} {w : List Nat} (hl : w.length ≤ 60) : callN P (n + 1) 58 [.val (.str (wk b)), .val (.str w)] = .ret (.lst ((hsF (df b) 0 w).map fun (p : Nat) => D.int p)) .non := by
  have c0 : ev (callN P n) G0 f__law_heard_c0 [.val (.str (wk b)), .val (.str w), .val (.str [df b]), .no] = .ok (.lst ((hsF (df b) 0 w).map fun (p : Nat) => D.int p)) [.val (.str (wk b)), .val (.str w), .val (.str [df b]), .no] := by
    unfold f__law_heard_c0
    rw [comp_filter (r1 := [.val (.str (wk b)), .val (.str w), .val (.str [df b]), .no]) (xs := (List.range w.length).map fun i : Nat => D.int (i : Int)) (fun d => match d with | .int i => decide (w.getD i.toNat 0 ≠ df b) | _ => false) (fun d => d)]
    · rw [filt_map _ _ (fun i : Nat => decide (w.getD i 0 ≠ df b)) (fun i => by simp), hs_range, List.map_id']
      rfl
    · have : rngL 0 (w.length : Nat) = (List.range w.length).map fun i : Nat => D.int (i : Int) := by unfold rngL; simp
      rw [← this]
      simp! []
    · rw [List.length_map, List.length_range]; unfold LINE; omega
    · intro x hx
      obtain ⟨i, hi, rfl⟩ := List.mem_map.mp hx
      have hi := List.mem_range.mp hi
      have hx : idxD (.str w) (.int (i : Int)) = some (.str [w.getD i 0]) := by
        simp [idxD, atL, hi, List.getD_eq_getElem?_getD]
      rw [compB_eq]
      by_cases e : w.getD i 0 = df b
      · simp! [↓hx, e]
        simp
      · have e2 : ¬ [w.getD i 0] = [df b] := by simpa using e
        simp! [↓hx, e2]
        have e3 : ¬ w[i]?.getD 0 = df b := by rw [← List.getD_eq_getElem?_getD]; exact e
        simp [e, e3]
  have ds := dsub_df b
  refine fn_ret rfl ?_
  simp! [f__law_heard, ds, c0]
theorem sight_ok [U__law_sight P] {b : Bool} {x y : Int} {w : List Nat} (hl : w.length ≤ 60) : callN P (n + 2) 59 [.val (.str (wk b)), .val (.tup [.int x, .int y]), .val (.str w)] = .ret (vwD b x y w) .non := by
  have hh := heard_ok (P := P) (n := n) (b := b) hl
  have ne : ¬ ([66] : List Nat) = [65] := by decide
  refine fn_ret rfl ?_
  cases e : (hsF (df b) 0 w).getLast? with
  | none =>
    have e0 : hsF (df b) 0 w = [] := List.getLast?_eq_none_iff.mp e
    have et : txk (df b) w = w := by unfold txk; rw [e]
    have eh : hrd (df b) w = false := by unfold hrd; rw [e0]; rfl
    rw [e0] at hh
    have q : eqD (.lst []) (.lst []) = some true := rfl
    unfold vwD
    rw [et, eh]
    cases b <;> simp only [wk, Bool.false_eq_true, if_false, if_true] at hh ⊢
    · simp! [f__law_sight, hh, ne, q, List.map_nil]
    · simp! [f__law_sight, hh, ne, q, List.map_nil]
  | some p =>
    have hp := hsF_lt (df b) w 0 p (List.mem_of_getLast? e)
    have et : txk (df b) w = w.take p ++ [63] ++ w.drop (p + 1) := by unfold txk; rw [e]
    obtain ⟨q, eq⟩ := List.getLast?_eq_some_iff.mp e
    have eh : hrd (df b) w = true := by unfold hrd; rw [eq]; simp
    rw [eq] at hh
    have hz : eqD (.lst ((q ++ [p]).map fun (p : Nat) => D.int p)) (.lst []) = some false := by
      unfold eqD
      rw [if_pos]
      · cases q <;> simp [eqd, eqds]
      · simp only [shal, List.all_map, Bool.and_eq_true]
        exact ⟨List.all_eq_true.mpr fun x _ => rfl, rfl⟩
    have hi : idxD (.lst ((q ++ [p]).map fun (p : Nat) => D.int p)) (.int (-1)) = some (.int p) := by
      simp only [idxD, atL]
      rw [if_neg (by decide), if_pos (by simp; omega)]
      simp only [List.length_map, List.length_append, List.length_singleton]
      rw [show (-1 + ((q.length + 1 : Nat) : Int)).toNat = q.length by omega]
      simp
    have t1 : (0 : Int) ≤ (p : Int) + 1 := by omega
    have t2 : ((p : Int) + 1).toNat = p + 1 := by omega
    have l1 : (w.take p).length + 1 ≤ 16777216 := by rw [List.length_take]; omega
    have l2 : (w.take p ++ [63]).length + (w.drop (p + 1)).length ≤ 16777216 := by simp only [List.length_append, List.length_take, List.length_drop, List.length_singleton]; omega
    have hn : negD (.int 1) = some (.int (-1)) := rfl
    unfold vwD
    rw [et, eh]
    generalize (q ++ [p]).map (fun (p : Nat) => D.int p) = L at *
    cases b <;> simp only [wk, Bool.false_eq_true, if_false, if_true] at hh ⊢
    · simp! [f__law_sight, hh, ne, ↓hz, hn, ↓hi, sliS_to, sliS_from, t1, t2, l1, l2]
    · simp! [f__law_sight, hh, ne, ↓hz, hn, ↓hi, sliS_to, sliS_from, t1, t2, l1, l2]
end
end Z

/-! the words of a view, exactly -/
namespace Z
def srt2 (a b : List Nat) : List (List Nat) := if idx a < idx b then [a, b] else [b, a]
theorem srt_pair {a b : List Nat} (ne : idx a ≠ idx b) : srtL [idx a, idx b] [a, b] = srt2 a b := by
  unfold srt2
  by_cases h : idx a < idx b
  · rw [if_pos h, srt_eq (T := [(idx a, a), (idx b, b)]) (List.Perm.refl _) (by simpa using h)]
    rfl
  · rw [if_neg h, srt_eq (ks := [idx a, idx b]) (l := [a, b]) (T := [(idx b, b), (idx a, a)]) (List.Perm.swap _ _ _) (by simp; omega)]
    rfl
theorem srt2_comm {a b : List Nat} (ne : idx a ≠ idx b) : srt2 a b = srt2 b a := by
  unfold srt2
  by_cases h : idx a < idx b
  · rw [if_pos h, if_neg (by omega)]
  · rw [if_neg h, if_pos (by omega)]
theorem wd_at {b : Bool} {u v : List Nat} (hu : Wd u) (hv : Wd v) : ∀ c ∈ lts b, Wd (u ++ c :: v) := fun c hc x hx => by
  rcases List.mem_append.mp hx with hx | hx
  · exact hu x hx
  · rcases List.mem_cons.mp hx with rfl | hx
    · exact (lts_lt hc).1
    · exact hv x hx
theorem idx_ne {b : Bool} {u v : List Nat} (hu : Wd u) (hv : Wd v) {c e : Nat} (hc : c ∈ lts b) (he : e ∈ lts b) (z : c ≠ e) : idx (u ++ c :: v) ≠ idx (u ++ e :: v) := fun y => by
  have := idx_inj (k := (u ++ c :: v).length) rfl (by simp) (wd_at hu hv c hc) (wd_at hu hv e he) y
  have := List.append_cancel_left this
  exact z (by simpa using this)
section
variable {P : Prog} {n : Nat}
theorem words_S [U_words_from P] {b : Bool} {u v : List Nat} {c : Nat} (hu : Wd u) (hv : Wd v) (hc : c ∈ lts b) (hl : (u ++ c :: v).length ≤ 60) : callN P (n + 3) 52 [.val (.str (wk b)), .val (.str (u ++ 63 :: v))] = .ret (.lst ((srt2 (u ++ c :: v) (u ++ oc b c :: v)).map .str)) .non := by
  have hm : ∀ c, (u ++ 63 :: v).map (rpl c) = u ++ c :: v := fun c => by rw [List.map_append, List.map_cons, map_wd hu, map_wd hv]; simp [rpl]
  have hl2 : (u ++ 63 :: v).length ≤ 60 := by simpa using hl
  have c1 : (u ++ 63 :: v).length ≤ 1000000 ∧ [97, 45, 98].length ≤ 1000 ∧ [97, 45, 98].contains 63 = false := ⟨by omega, by decide, by decide⟩
  have hf : wfrD (some (.str (u ++ 63 :: v))) (some (.str (wk b))) (G0[0]?) [[65], [66]] [.str [97], .str [98]] = some (.lst (((lts b).map fun c => u ++ c :: v).map .str)) := by
    show wfrD _ _ (some (.str [97, 45, 98])) _ _ = _
    unfold wfrD
    dsimp only
    rw [if_pos c1, if_pos (by simp), List.map_map]
    cases b <;> simp [dlook, wk, lts, df, hm]
  have hk := keys_of (C := callN P (n + 2)) (f := 6) (l := (lts b).map fun c => u ++ c :: v) fun w hw => by
    obtain ⟨c, hc, rfl⟩ := List.mem_map.mp hw
    exact ⟨_, index_from_ok (P := P) (n := n) (wd_at hu hv c hc) (by simp at hl ⊢; omega)⟩
  obtain ⟨p, q, e, hp, hq, hpq⟩ : ∃ p q, lts b = [p, q] ∧ p ∈ lts b ∧ q ∈ lts b ∧ p ≠ q := by
    cases b
    · exact ⟨45, 98, rfl, by simp [lts], by simp [lts], by decide⟩
    · exact ⟨97, 45, rfl, by simp [lts], by simp [lts], by decide⟩
  have ne := idx_ne hu hv hp hq hpq
  have hs : srtR (callN P (n + 2)) 6 (.lst (((lts b).map fun c => u ++ c :: v).map .str)) = some (.lst ((srt2 (u ++ p :: v) (u ++ q :: v)).map .str)) := by
    unfold srtR
    simp only [hk]
    rw [e]
    simp only [List.map_cons, List.map_nil]
    rw [if_pos (by simpa using ne)]
    have := srtL_map D.str [idx (u ++ p :: v), idx (u ++ q :: v)] [u ++ p :: v, u ++ q :: v]
    rw [srt_pair ne] at this
    exact congrArg (fun l => some (D.lst l)) this
  have fin : srt2 (u ++ p :: v) (u ++ q :: v) = srt2 (u ++ c :: v) (u ++ oc b c :: v) := by
    obtain ⟨o1, o2, o3⟩ := oc_lts hc
    rw [e] at hc o1
    simp only [List.mem_cons, List.not_mem_nil, or_false] at hc o1
    rcases hc with rfl | rfl
    · rcases o1 with o1 | o1
      · exact absurd o1 o2
      · rw [o1]
    · rcases o1 with o1 | o1
      · rw [o1]
        exact srt2_comm ne
      · exact absurd o1 o2
  rw [← fin]
  refine fn_ret rfl ?_
  simp! [f_words_from, vlv_val0, vlv_succ, hf, hs]
end
end Z

/-! the core defs of a law alone, by their numbers (printed by gen2.py) -/
namespace Z
/- 60: _law_who _law_inputs _law_text_here _law_found _law_other _law_due _law_words -/
def f__law_good_4 : Fn := ⟨3, 7, [.set 3 (.call 56 [.var 0, .var 1, .var 2]), .cond (.or (.cmp .ne (.var 3) (.call 59 [.var 0, .var 1, .var 2])) (.or (.not (.isi (.var 3) 3)) (.notT (.call 53 [.var 3])))) [.ret (.bl false)] [], .cond (.or (.cmp .ne (.callk 56 [.var 2, .var 1, .var 0] [2, 1, 0]) (.var 3)) (.notT (.callk 53 [.var 3] [0]))) [.ret (.bl false)] [], .set 4 (.idx (.call 22 [.var 2]) (.sidx (.lst [.str [65], .str [66]]) (.var 0))), .set 5 (.ite (.isN (.var 4)) (.lst [.var 2]) (.srtk 8 (.lst [.var 2, .var 4]))), .cond (.and (.notN (.var 4)) (.cmp .ne (.call 56 [.var 0, .var 1, .var 4]) (.var 3))) [.ret (.bl false)] [], .own 6 (.call 57 [.var 3]), .cond (.or (.not (.isov 6 4)) (.eqv 6 true (.var 5))) [.ret (.bl false)] [], .app 6 (.str [97]), .ret (.cmp .eq (.callk 57 [.var 3] [0]) (.var 5))]⟩
class U__law_good_4 (P : Prog) : Prop extends U_index_of P, U_neighbours P, U_is_view P, U_view_of P, U_words_of P, U__law_sight P where
  h60 : P.get 60 = some f__law_good_4
instance {P : Prog} [u : U__law_good_4 P] : Has P 60 f__law_good_4 := ⟨u.h60⟩

/- 61: _law_script _law_turn _law_who _law_own _law_k _law_inputs _law_text_here _law_length _law_at _law_some _law_one -/
def f_law_6_b0 : List S := [.cond (.not (.call 60 [.var 2, .var 5, .var 10])) [.ret (.bl false)] []]
def f_law_6_b1 : List S := [.loop (.one 2) (.e (.lst [.str [65], .str [66]])) f_law_6_b0]
def f_law_6_b2 : List S := [.set 5 (.tup [.callio 12 3 [.int 100], .callio 12 3 [.int 100]]), .set 6 (.callio 13 3 [.idx (.lst [.int 4, .int 20, .int 60]) (.var 4)]), .set 7 (.lenv 6), .set 8 (.callio 12 3 [.bin .add (.var 7) (.int 1)]), .set 9 (.lst [.var 6, .bin .mul (.str [97]) (.var 7), .bin .mul (.str [98]) (.var 7)]), .loop (.one 10) (.e (.bin .add (.var 9) (.lst [.bin .add (.sli (.var 6) none (some (.var 8))) (.bin .mul (.str [97]) (.bin .sub (.var 7) (.var 8))), .bin .add (.sli (.var 6) none (some (.var 8))) (.bin .mul (.str [98]) (.bin .sub (.var 7) (.var 8)))]))) f_law_6_b1]
def f_law_6_b3 : List S := [.own 3 (.lst [.call 11 [.var 0, .var 1]]), .loop (.one 4) (.rng1 (.int 3)) f_law_6_b2]
def f_law_6_b4 : List S := [.cond (.or (.not (.call 60 [.var 2, .tup [.int 0, .int 99], .str []])) (.not (.call 60 [.var 2, .tup [.int 99, .int 0], .bin .mul (.str [45]) (.int 60)]))) [.ret (.bl false)] []]
def f_law_6 : Fn := ⟨1, 11, [.loop (.one 1) (.rng1 (.bi .max2 [.bi .min2 [.lenv 0, .int 5], .int 1])) f_law_6_b3, .loop (.one 2) (.e (.lst [.str [65], .str [66]])) f_law_6_b4, .cond (.or (.cmp .ne (.call 57 [.tup [.str [65], .int 1, .int 2, .str [45, 63]]]) (.lst [.str [45, 98], .str [45, 45]])) (.cmp .ne (.call 57 [.tup [.str [66], .int 2, .int 1, .str [45, 63]]]) (.lst [.str [45, 45], .str [45, 97]]))) [.ret (.bl false)] [], .ret (.and (.cmp .eq (.call 57 [.tup [.str [66], .int 7, .int 4, .str [97, 63]]]) (.lst [.str [97, 97], .str [97, 45]])) (.cmp .eq (.call 57 [.tup [.str [66], .int 2, .int 1, .str [98, 45, 63]]]) (.lst [.str [98, 45, 45], .str [98, 45, 97]])))]⟩
class U_law_6 (P : Prog) : Prop extends U__law_cell P, U__law_take P, U__law_text P, U_words_of P, U__law_good_4 P where
  h61 : P.get 61 = some f_law_6
instance {P : Prog} [u : U_law_6 P] : Has P 61 f_law_6 := ⟨u.h61⟩

end Z

/-! k07 -/
namespace Z
theorem hrd_all {d : Nat} {w : List Nat} (h : hrd d w = false) : w.all (· == d) = true := by
  induction w using snoc_ind with
  | h0 => rfl
  | h1 w c ih =>
    rw [hrd_snoc, Bool.or_eq_false_iff] at h
    rw [List.all_append, ih h.1]
    simpa using h.2
theorem lts_of {b : Bool} {c : Nat} (h : Lt c) (hd : c ≠ df b) : c ∈ lts b := by
  cases b <;> rcases h with rfl | rfl | rfl <;> simp [lts, df] at hd ⊢
theorem vw_same {b : Bool} {x y : Int} {u v : List Nat} {c e : Nat} (hc : c ≠ df b) (he : e ≠ df b) (hv : v.all (· == df b) = true) : vwD b x y (u ++ c :: v) = vwD b x y (u ++ e :: v) := by
  have key : ∀ c, c ≠ df b → hrd (df b) (u ++ c :: v) = true := fun c hc => by
    clear he
    induction v using snoc_ind with
    | h0 => rw [hrd_snoc]; simp [hc]
    | h1 v z ih =>
      rw [List.all_append, Bool.and_eq_true] at hv
      have := ih hv.1
      rw [show u ++ c :: (v ++ [z]) = (u ++ c :: v) ++ [z] by simp, hrd_snoc, this]
      rfl
  unfold vwD
  rw [txk_heard hc hv, txk_heard he hv, key c hc, key e he]
theorem vw_shal (b : Bool) (x y : Int) (w : List Nat) : shal 9 (vwD b x y w) = true := by
  unfold vwD
  cases hrd (df b) w <;> rfl
section
variable {P : Prog} {n : Nat}
theorem words_57 [U_words_of P] {b : Bool} {x y : Int} {w : List Nat} {L : List D} (hx : 0 ≤ x ∧ x ≤ 99) (hy : 0 ≤ y ∧ y ≤ 99) (h : Wd w) (hl : w.length ≤ 60) (hw : callN P (n + 5) 52 [.val (.str (wk b)), .val (.str (txk (df b) w))] = .ret (.lst L) .non) : callN P (n + 6) 57 [.val (vwD b x y w)] = .ret (.lst L) .non := by
  have c := check_view_vw (P := P) (n := n) (b := b) hx hy h hl
  obtain ⟨a0, a3⟩ := vw_at b x y w
  generalize vwD b x y w = d at c a0 a3
  refine fn_ret rfl ?_
  simp! [f_words_of, c, ↓a0, ↓a3, hw]
theorem good4_ok [U__law_good_4 P] {b : Bool} {x y : Int} {w : List Nat} (hx : 0 ≤ x ∧ x ≤ 99) (hy : 0 ≤ y ∧ y ≤ 99) (h : Wd w) (hl : w.length ≤ 60) : callN P (n + 7) 60 [.val (.str (wk b)), .val (.tup [.int x, .int y]), .val (.str w)] = .ret (.bl true) .non := by
  have hv := view_of_ok (P := P) (n := n + 1) (b := b) hx hy h hl
  have hs := sight_ok (P := P) (n := n + 4) (b := b) (x := x) (y := y) hl
  have iv := is_view_vw (P := P) (n := n + 2) (b := b) hx hy h hl
  have nb := neighbours_ok (P := P) (n := n + 3) h hl
  have qv := eqD_refl (vw_shal b x y w)
  have ix : sidxD [.str [65], .str [66]] (.str (wk b)) = some (.int (if b then 1 else 0)) := by cases b <;> rfl
  have in' : idxD (.tup [nbr false w, nbr true w]) (.int (if b then 1 else 0)) = some (nbr b w) := by cases b <;> rfl
  have is3 : isiD (vwD b x y w) 3 = some true := rfl
  cases e : hrd (df b) w with
  | false =>
    have ha := hrd_all e
    have nd := nbr_deaf b ha
    have et : txk (df b) w = w := by have := txk_plain (b := b) h; rw [e] at this; simpa using this
    have hin := txk_in b h
    rw [et, e] at hin
    have hw := words_57 (P := P) (n := n) (b := b) (x := x) (y := y) hx hy h hl (L := [.str w]) (by rw [et]; exact words_plain (P := P) (n := n + 2) hin h hl)
    have q1 : eqD (.lst [.str w]) (.lst [.str w]) = some true := eqD_refl rfl
    rw [nd] at in'
    generalize vwD b x y w = V at *
    refine fn_ret rfl ?_
    simp! [f__law_good_4, hv, hs, iv, ↓qv, ↓is3, nb, ↓ix, ↓in', hw, ev_isov, ↓q1, isNon_non]
  | true =>
    obtain ⟨u, c, v, rfl, hc, hvv⟩ := hrd_split e
    have hu : Wd u := fun x hx => h x (List.mem_append_left _ hx)
    have hv' : Wd v := fun x hx => h x (List.mem_append_right _ (List.mem_cons_of_mem _ hx))
    have hcl : c ∈ lts b := lts_of (h c (by simp)) hc
    obtain ⟨ol, one, _⟩ := oc_lts hcl
    have od := (lts_lt ol).2
    have h2 := wd_at hu hv' _ ol
    have hl2 : (u ++ oc b c :: v).length ≤ 60 := by simpa using hl
    have nd := nbr_heard (b := b) hu hcl hvv
    have hv2 := view_of_ok (P := P) (n := n + 1) (b := b) hx hy h2 hl2
    rw [← vw_same (x := x) (y := y) hc od hvv] at hv2
    have hw := words_57 (P := P) (n := n) (b := b) (x := x) (y := y) hx hy h hl (L := (srt2 (u ++ c :: v) (u ++ oc b c :: v)).map .str) (by rw [txk_heard hc hvv]; exact words_S (P := P) (n := n + 2) hu hv' hcl hl)
    have ne := idx_ne hu hv' hcl ol (Ne.symm one)
    have sr : srtR (callN P (n + 6)) 8 (.lst [.str (u ++ c :: v), .str (u ++ oc b c :: v)]) = some (.lst ((srt2 (u ++ c :: v) (u ++ oc b c :: v)).map .str)) := by
      have hk := keys_of (C := callN P (n + 6)) (f := 8) (l := [u ++ c :: v, u ++ oc b c :: v]) fun w hw => by
        simp only [List.mem_cons, List.not_mem_nil, or_false] at hw
        rcases hw with rfl | rfl
        · exact ⟨_, index_of_ok (P := P) (n := n + 3) h hl⟩
        · exact ⟨_, index_of_ok (P := P) (n := n + 3) h2 hl2⟩
      unfold srtR
      simp only [List.map_cons, List.map_nil] at hk
      simp only [hk]
      rw [if_pos (by simpa using ne)]
      have := srtL_map D.str [idx (u ++ c :: v), idx (u ++ oc b c :: v)] [u ++ c :: v, u ++ oc b c :: v]
      rw [srt_pair ne] at this
      exact congrArg (fun l => some (D.lst l)) this
    have sl : (srt2 (u ++ c :: v) (u ++ oc b c :: v)).length = 2 := by unfold srt2; split <;> rfl
    have q1 : eqD (.lst ((srt2 (u ++ c :: v) (u ++ oc b c :: v)).map .str)) (.lst ((srt2 (u ++ c :: v) (u ++ oc b c :: v)).map .str)) = some true := eqD_refl (by
      simp only [shal, List.all_map]
      exact List.all_eq_true.mpr fun x _ => rfl)
    have sl2 : ((srt2 (u ++ c :: v) (u ++ oc b c :: v)).map D.str).length < 16777216 := by rw [List.length_map, sl]; decide
    rw [nd] at in'
    generalize (srt2 (u ++ c :: v) (u ++ oc b c :: v)).map D.str = L at *
    generalize vwD b x y (u ++ c :: v) = V at *
    generalize u ++ c :: v = w at *
    generalize u ++ oc b c :: v = w' at *
    refine fn_ret rfl ?_
    simp! [f__law_good_4, hv, hv2, hs, iv, ↓qv, ↓is3, nb, ↓ix, ↓in', hw, ev_isov, ↓q1, ↓sr, sl2]
theorem words_fix [U_words_of P] {b : Bool} {x y : Int} {u v : List Nat} {c : Nat} (hx : 0 ≤ x ∧ x ≤ 99) (hy : 0 ≤ y ∧ y ≤ 99) (hu : Wd u) (hv : Wd v) (hc : c ∈ lts b) (hvv : v.all (· == df b) = true) (hl : (u ++ c :: v).length ≤ 60) : callN P (n + 6) 57 [.val (vwD b x y (u ++ c :: v))] = .ret (.lst ((srt2 (u ++ c :: v) (u ++ oc b c :: v)).map .str)) .non :=
  words_57 (P := P) (n := n) (b := b) hx hy (wd_at hu hv c hc) hl (by rw [txk_heard (lts_lt hc).2 hvv]; exact words_S (P := P) (n := n + 2) hu hv hc hl)
theorem loop_b1 [U__law_good_4 P] {xs : List D} {x y : Int} (hx : 0 ≤ x ∧ x ≤ 99) (hy : 0 ≤ y ∧ y ≤ 99) (h : ∀ d ∈ xs, ∃ w, d = .str w ∧ Wd w ∧ w.length ≤ 60) {s0 s1 s2 s3 s4 s6 s7 s8 s9 s10 : Slot} {Q : F → Prop} {rest : St → F} (k : ∀ s2 s10, Q (rest [s0, s1, s2, s3, s4, .val (.tup [.int x, .int y]), s6, s7, s8, s9, s10])) :
    Q ((forL (exs (callN P (n + 7)) G0 f_law_6_b1) (.one 10) xs [s0, s1, s2, s3, s4, .val (.tup [.int x, .int y]), s6, s7, s8, s9, s10]).then rest) := by
  refine wp_for (fun _ st => ∃ s2 s10, st = [s0, s1, s2, s3, s4, .val (.tup [.int x, .int y]), s6, s7, s8, s9, s10]) ⟨_, _, rfl⟩ ?_ ?_
  · rintro i d _ ⟨s2, s10, rfl⟩ hd
    obtain ⟨w, rfl, hw, hl⟩ := h d (List.mem_of_getElem? hd)
    simp! [f_law_6_b1]
    refine wp_for (fun _ st => ∃ s2, st = [s0, s1, s2, s3, s4, .val (.tup [.int x, .int y]), s6, s7, s8, s9, .val (.str w)]) ⟨_, rfl⟩ ?_ ?_
    · rintro j e _ ⟨s2, rfl⟩ he
      obtain ⟨b, rfl⟩ : ∃ b, e = .str (wk b) := by
        have := List.mem_of_getElem? he
        simp only [List.mem_cons, List.not_mem_nil, or_false] at this
        rcases this with rfl | rfl
        · exact ⟨false, rfl⟩
        · exact ⟨true, rfl⟩
      have g := good4_ok (P := P) (n := n) (b := b) hx hy hw hl
      simp! [f_law_6_b0, g]
      exact ⟨_, rfl⟩
    · rintro _ ⟨s2, rfl⟩
      simp! []
      exact ⟨_, _, rfl⟩
  · rintro _ ⟨s2, s10, rfl⟩
    exact k s2 s10
theorem law_true [U_law_6 P] (ns : List Int) : ∃ o, callN P (n + 8) 61 [.val (.lst (ns.map .int))] = .ret (.bl true) o := by
  refine ⟨.non, fn_ret rfl ?_⟩
  simp! [f_law_6, List.length_map]
  refine wp_for (fun k st => ∃ s1 s2 s3 s4 s5 s6 s7 s8 s9 s10, st = [.val (.lst (ns.map .int)), s1, s2, s3, s4, s5, s6, s7, s8, s9, s10]) ⟨_, _, _, _, _, _, _, _, _, _, rfl⟩ ?_ ?_
  · rintro k _ _ ⟨s1, s2, s3, s4, s5, s6, s7, s8, s9, s10, rfl⟩ hk
    obtain ⟨rfl, hk2⟩ := rngL_get? hk
    have hk3 : k ≤ 100 := by
      revert hk2
      split <;> split <;> omega
    obtain ⟨d0, hc⟩ := cell_ok (P := P) (n := n + 5) (ns := ns) hk3
    rw [show (k : Int) = 0 + (k : Int) by omega] at hc
    simp! [f_law_6_b3, hc]
    refine wp_for (fun _ st => ∃ (d : Int) (s2 s4 s5 s6 s7 s8 s9 s10 : Slot), st = [.val (.lst (ns.map .int)), .val (.int (0 + (k : Int))), s2, .own (.lst [.int d]), s4, s5, s6, s7, s8, s9, s10]) ⟨_, _, _, _, _, _, _, _, _, rfl⟩ ?_ ?_
    · rintro j _ _ ⟨d, s2, s4, s5, s6, s7, s8, s9, s10, rfl⟩ hj
      obtain ⟨rfl, hj2⟩ := rngL_get? hj
      obtain ⟨m, hm, m0, m60⟩ : ∃ m : Int, idxD (.lst [.int 4, .int 20, .int 60]) (.int (0 + (j : Int))) = some (.int m) ∧ 0 ≤ m ∧ m ≤ 60 := by
        have : (0 : Int) + (j : Int) = 0 ∨ (0 : Int) + (j : Int) = 1 ∨ (0 : Int) + (j : Int) = 2 := by omega
        rcases this with e | e | e <;> rw [e] <;> exact ⟨_, rfl, by decide, by decide⟩
      have a1 := Int.emod_nonneg d (show (100 : Int) ≠ 0 by decide)
      have a2 := Int.emod_lt_of_pos d (show (0 : Int) < 100 by decide)
      have b1 := Int.emod_nonneg (d / 100) (show (100 : Int) ≠ 0 by decide)
      have b2 := Int.emod_lt_of_pos (d / 100) (show (0 : Int) < 100 by decide)
      generalize hx : d % 100 = x at a1 a2
      generalize hy : d / 100 % 100 = y at b1 b2
      generalize hd2 : d / 100 / 100 = d2
      have tx := text_ok (P := P) (n := n + 5) (m := m) (a := d2) m0 (by omega)
      have hw := txw_wd m d2
      have hwl : (txw m d2).length ≤ 60 := by have := txw_len (a := d2) m0; omega
      generalize txw m d2 = w at tx hw hwl
      generalize txa m d2 = d3 at tx
      have e1 := Int.emod_nonneg d3 (show ((w.length : Nat) : Int) + 1 ≠ 0 by omega)
      have e2 := Int.emod_lt_of_pos d3 (show (0 : Int) < ((w.length : Nat) : Int) + 1 by omega)
      obtain ⟨t, ht⟩ := Int.eq_ofNat_of_zero_le e1
      have htl : t ≤ w.length := by omega
      generalize hd4 : d3 / (((w.length : Nat) : Int) + 1) = d4
      have ma : Op.g .mul (.str [97]) (.int (w.length : Nat)) = some (.str (List.replicate w.length 97)) := by
        rw [g_mulS (by omega) (by omega) (by unfold LINE; simp; omega), rep_one]
        simp
      have mb : Op.g .mul (.str [98]) (.int (w.length : Nat)) = some (.str (List.replicate w.length 98)) := by
        rw [g_mulS (by omega) (by omega) (by unfold LINE; simp; omega), rep_one]
        simp
      have hsub : ((w.length : Nat) : Int) - (t : Int) = ((w.length - t : Nat) : Int) := by omega
      have ma2 : Op.g .mul (.str [97]) (.int ((w.length - t : Nat) : Int)) = some (.str (List.replicate (w.length - t) 97)) := by
        rw [g_mulS (by omega) (by omega) (by unfold LINE; simp; omega), rep_one]
        simp
      have mb2 : Op.g .mul (.str [98]) (.int ((w.length - t : Nat) : Int)) = some (.str (List.replicate (w.length - t) 98)) := by
        rw [g_mulS (by omega) (by omega) (by unfold LINE; simp; omega), rep_one]
        simp
      have sl : sliD (.str w) none (some (t : Int)) = some (.str (w.take t)) := by
        rw [sliS_to (by omega)]
        simp
      have ad : ∀ a b : List Nat, a.length + b.length ≤ 1000 → Op.g .add (.str a) (.str b) = some (.str (a ++ b)) := fun a b h => g_addS (by unfold LINE; omega)
      have ada : Op.g .add (.str (w.take t)) (.str (List.replicate (w.length - t) 97)) = some (.str (w.take t ++ List.replicate (w.length - t) 97)) := ad _ _ (by simp; omega)
      have adb : Op.g .add (.str (w.take t)) (.str (List.replicate (w.length - t) 98)) = some (.str (w.take t ++ List.replicate (w.length - t) 98)) := ad _ _ (by simp; omega)
      have wt : Wd (w.take t) := fun x hx => hw x (List.mem_of_mem_take hx)
      have wr : ∀ (c n : Nat), Lt c → Wd (List.replicate n c) := fun c n hc x hx => by rw [(List.mem_replicate.mp hx).2]; exact hc
      have wa : ∀ (a b : List Nat), Wd a → Wd b → Wd (a ++ b) := fun a b ha hb x hx => by
        rcases List.mem_append.mp hx with hx | hx
        · exact ha x hx
        · exact hb x hx
      have all : ∀ d ∈ [D.str w, .str (List.replicate w.length 97), .str (List.replicate w.length 98), .str (w.take t ++ List.replicate (w.length - t) 97), .str (w.take t ++ List.replicate (w.length - t) 98)], ∃ w, d = .str w ∧ Wd w ∧ w.length ≤ 60 := fun d hd => by
        simp only [List.mem_cons, List.not_mem_nil, or_false] at hd
        rcases hd with rfl | rfl | rfl | rfl | rfl
        · exact ⟨_, rfl, hw, hwl⟩
        · exact ⟨_, rfl, wr _ _ (.inl rfl), by simpa using hwl⟩
        · exact ⟨_, rfl, wr _ _ (.inr (.inr rfl)), by simpa using hwl⟩
        · exact ⟨_, rfl, wa _ _ wt (wr _ _ (.inl rfl)), by simp; omega⟩
        · exact ⟨_, rfl, wa _ _ wt (wr _ _ (.inr (.inr rfl))), by simp; omega⟩
      have l5 : ∀ (a b : List D), a.length + b.length ≤ 100 → Op.g .add (.lst a) (.lst b) = some (.lst (a ++ b)) := fun a b h => g_addL (by unfold LINE; omega)
      generalize List.replicate w.length 97 = wA at *
      generalize List.replicate w.length 98 = wB at *
      generalize w.take t ++ List.replicate (w.length - t) 97 = wC at *
      generalize w.take t ++ List.replicate (w.length - t) 98 = wE at *
      simp! [f_law_6_b2, take_ok, hx, hy, hd2, ↓hm, tx, ht, hd4, ↓ma, ↓mb, hsub, ↓ma2, ↓mb2, ↓sl, ↓ada, ↓adb, l5]
      refine loop_b1 ⟨a1, by omega⟩ ⟨b1, by omega⟩ all fun s2 s10 => ?_
      simp! []
      exact ⟨_, _, _, _, _, _, _, _, _, rfl⟩
    · rintro _ ⟨d, s2, s4, s5, s6, s7, s8, s9, s10, rfl⟩
      simp! []
      exact ⟨_, _, _, _, _, _, _, _, _, _, rfl⟩
  · rintro _ ⟨s1, s2, s3, s4, s5, s6, s7, s8, s9, s10, rfl⟩
    have m60 : Op.g .mul (.str [45]) (.int 60) = some (.str (List.replicate 60 45)) := by
      rw [g_mulS (by decide) (by decide) (by decide)]; rfl
    have w60 : Wd (List.replicate 60 45) := Wd.rep (.inr (.inl rfl)) 60
    have l60 : (List.replicate 60 45).length ≤ 60 := by simp
    have n45 : Wd [45] := fun x hx => by rw [List.mem_singleton.mp hx]; exact .inr (.inl rfl)
    have n97 : Wd [97] := fun x hx => by rw [List.mem_singleton.mp hx]; exact .inl rfl
    have n9 : Wd [98, 45] := fun x hx => by
      simp only [List.mem_cons, List.not_mem_nil, or_false] at hx
      rcases hx with rfl | rfl
      · exact .inr (.inr rfl)
      · exact .inr (.inl rfl)
    have v1 : callN P (n + 7) 57 [.val (.tup [.str [65], .int 1, .int 2, .str [45, 63]])] = .ret (.lst [.str [45, 98], .str [45, 45]]) .non := words_fix (P := P) (n := n + 1) (b := false) (x := 1) (y := 2) (u := [45]) (v := []) (c := 45) (by decide) (by decide) n45 Wd.nil (by decide) rfl (by decide)
    have v2 : callN P (n + 7) 57 [.val (.tup [.str [66], .int 2, .int 1, .str [45, 63]])] = .ret (.lst [.str [45, 45], .str [45, 97]]) .non := words_fix (P := P) (n := n + 1) (b := true) (x := 1) (y := 2) (u := [45]) (v := []) (c := 45) (by decide) (by decide) n45 Wd.nil (by decide) rfl (by decide)
    have v3 : callN P (n + 7) 57 [.val (.tup [.str [66], .int 7, .int 4, .str [97, 63]])] = .ret (.lst [.str [97, 97], .str [97, 45]]) .non := words_fix (P := P) (n := n + 1) (b := true) (x := 4) (y := 7) (u := [97]) (v := []) (c := 45) (by decide) (by decide) n97 Wd.nil (by decide) rfl (by decide)
    have v4 : callN P (n + 7) 57 [.val (.tup [.str [66], .int 2, .int 1, .str [98, 45, 63]])] = .ret (.lst [.str [98, 45, 45], .str [98, 45, 97]]) .non := words_fix (P := P) (n := n + 1) (b := true) (x := 1) (y := 2) (u := [98, 45]) (v := []) (c := 45) (by decide) (by decide) n9 Wd.nil (by decide) rfl (by decide)
    have q1 : eqD (.lst [.str [45, 98], .str [45, 45]]) (.lst [.str [45, 98], .str [45, 45]]) = some true := rfl
    have q2 : eqD (.lst [.str [45, 45], .str [45, 97]]) (.lst [.str [45, 45], .str [45, 97]]) = some true := rfl
    have q3 : eqD (.lst [.str [97, 97], .str [97, 45]]) (.lst [.str [97, 97], .str [97, 45]]) = some true := rfl
    have q4 : eqD (.lst [.str [98, 45, 45], .str [98, 45, 97]]) (.lst [.str [98, 45, 45], .str [98, 45, 97]]) = some true := rfl
    generalize List.replicate 60 45 = w at m60 w60 l60
    refine wp_for (fun _ st => ∃ s2, st = [.val (.lst (ns.map .int)), s1, s2, s3, s4, s5, s6, s7, s8, s9, s10]) ⟨_, rfl⟩ ?_ ?_
    · rintro j e _ ⟨s2, rfl⟩ he
      obtain ⟨b, rfl⟩ : ∃ b, e = .str (wk b) := by
        have := List.mem_of_getElem? he
        simp only [List.mem_cons, List.not_mem_nil, or_false] at this
        rcases this with rfl | rfl
        · exact ⟨false, rfl⟩
        · exact ⟨true, rfl⟩
      have g1 := good4_ok (P := P) (n := n) (b := b) (x := 0) (y := 99) (by decide) (by decide) Wd.nil (by decide)
      have g2 := good4_ok (P := P) (n := n) (b := b) (x := 99) (y := 0) (by decide) (by decide) w60 l60
      simp! [f_law_6_b4, g1, g2, ↓m60]
      exact ⟨_, rfl⟩
    · rintro _ ⟨s2, rfl⟩
      simp! [v1, v2, v3, v4, ↓q1, ↓q2, ↓q3, ↓q4]
end
end Z

end
namespace Z
namespace L
open PySem PySem.Spec PyProof.Rows L2
def top (i : Nat) : Stmt := PySem.Challenge.pw_lossdepth_k07_views_and_their_words.main.body.getD i (.Pass ⟨0, 0, 0, 0⟩)
def dd (n : Str) (i : Nat) : He.DefD := ⟨(n, none), n, n, defArgs (top i), defBody (top i), defScope (top i), [], []⟩
def s_0 : DefS := ⟨"is_integer", top 9, ["value"], 1, f_is_integer.body⟩
def s_2 : DefS := ⟨"is_word", top 10, ["value", "letter"], 1, f_is_word.body⟩
def s_3 : DefS := ⟨"check_word", top 11, ["word"], 1, f_check_word.body⟩
def s_4 : DefS := ⟨"power", top 12, ["rounds", "found", "turn"], 1, f_power.body⟩
def s_5 : DefS := ⟨"letters_at", top 13, ["index"], 1, f_letters_at.body⟩
def s_6 : DefS := ⟨"index_from", top 14, ["word", "index", "letter"], 1, f_index_from.body⟩
def s_7 : DefS := ⟨"word_from", top 15, ["rounds", "index", "word", "done", "turn", "part", "letter"], 2, f_word_from.body⟩
def s_8 : DefS := ⟨"index_of", top 16, ["word"], 1, f_index_of.body⟩
def s_20 : DefS := ⟨"point_of", top 17, ["worker", "index"], 2, f_point_of.body⟩
def s_21 : DefS := ⟨"other_index", top 18, ["worker", "rounds", "index", "point", "other"], 3, f_other_index.body⟩
def s_22 : DefS := ⟨"neighbours", top 19, ["word", "found", "rounds", "index", "worker", "other"], 1, f_neighbours.body⟩
def s_47 : DefS := ⟨"check_worker", top 23, ["worker"], 1, f_check_worker.body⟩
def s_48 : DefS := ⟨"is_input", top 24, ["value"], 1, f_is_input.body⟩
def s_49 : DefS := ⟨"is_pair", top 25, ["value"], 1, f_is_pair.body⟩
def s_50 : DefS := ⟨"check_pair", top 26, ["pair"], 1, f_check_pair.body⟩
def s_51 : DefS := ⟨"text_of", top 27, ["worker", "word", "heard", "place", "letter"], 2, f_text_of.body⟩
def s_52 : DefS := ⟨"words_from", top 28, ["worker", "text", "some", "letter"], 2, f_words_from.body⟩
def s_53 : DefS := ⟨"is_view", top 29, ["value", "worker", "text", "word"], 1, f_is_view.body⟩
def s_54 : DefS := ⟨"check_view", top 30, ["view"], 1, f_check_view.body⟩
def s_55 : DefS := ⟨"view_from", top 31, ["worker", "pair", "word", "text", "mine", "other"], 3, f_view_from.body⟩
def s_56 : DefS := ⟨"view_of", top 32, ["worker", "pair", "word"], 3, f_view_of.body⟩
def s_57 : DefS := ⟨"words_of", top 33, ["view"], 1, f_words_of.body⟩
def s_10 : DefS := ⟨"_law_mixed", top 35, ["_law_cell_here", "_law_k", "_law_mix"], 2, f__law_mixed.body⟩
def s_11 : DefS := ⟨"_law_cell", top 36, ["_law_script", "_law_k", "_law_cell_here", "_law_found", "_law_j"], 2, f__law_cell.body⟩
def s_12 : DefS := ⟨"_law_take", top 37, ["_law_own", "_law_length", "_law_digit"], 2, f__law_take.body⟩
def s_13 : DefS := ⟨"_law_text", top 38, ["_law_own", "_law_most", "_law_k"], 2, f__law_text.body⟩
def s_58 : DefS := ⟨"_law_heard", top 39, ["_law_who", "_law_text_here", "_law_deaf", "_law_place"], 2, f__law_heard.body⟩
def s_59 : DefS := ⟨"_law_sight", top 40, ["_law_who", "_law_inputs", "_law_text_here", "_law_heard_here", "_law_mine", "_law_other"], 3, f__law_sight.body⟩
def s_60 : DefS := ⟨"_law_good", top 41, ["_law_who", "_law_inputs", "_law_text_here", "_law_found", "_law_other", "_law_due", "_law_words"], 3, f__law_good_4.body⟩
def s_61 : DefS := ⟨"law", top 42, ["_law_script", "_law_turn", "_law_who", "_law_own", "_law_k", "_law_inputs", "_law_text_here", "_law_length", "_law_at", "_law_some", "_law_one"], 1, f_law_6.body⟩
def ds : List (Nat × DefS) := [(0, s_0), (2, s_2), (3, s_3), (4, s_4), (5, s_5), (6, s_6), (7, s_7), (8, s_8), (20, s_20), (21, s_21), (22, s_22), (47, s_47), (48, s_48), (49, s_49), (50, s_50), (51, s_51), (52, s_52), (53, s_53), (54, s_54), (55, s_55), (56, s_56), (57, s_57), (10, s_10), (11, s_11), (12, s_12), (13, s_13), (58, s_58), (59, s_59), (60, s_60), (61, s_61)]
def ts : List Tab := [("DEAF", ([[65], [66]], [.inr [97], .inr [98]]))]
def xs : List Nat := [0, 1, 3, 4, 10]
def is : List Nat := []
def T : Tb := ⟨[(0, "LETTERS"), (1, "MOST_ROUNDS"), (2, "MOST_INPUT")], ([(0, "is_integer", 1), (2, "is_word", 1), (3, "check_word", 1), (4, "power", 1), (5, "letters_at", 1), (6, "index_from", 1), (7, "word_from", 2), (8, "index_of", 1), (20, "point_of", 2), (21, "other_index", 3), (22, "neighbours", 1), (47, "check_worker", 1), (48, "is_input", 1), (49, "is_pair", 1), (50, "check_pair", 1), (51, "text_of", 2), (52, "words_from", 2), (53, "is_view", 1), (54, "check_view", 1), (55, "view_from", 3), (56, "view_of", 3), (57, "words_of", 1), (10, "_law_mixed", 2), (11, "_law_cell", 2), (12, "_law_take", 2), (13, "_law_text", 2), (58, "_law_heard", 2), (59, "_law_sight", 3), (60, "_law_good", 3), (61, "law", 1)] : List (Nat × Str × Nat)), [(53, ["value"], [0]), (56, ["word", "pair", "worker"], [2, 1, 0]), (57, ["view"], [0])], ["all", "bool", "enumerate", "int", "isinstance", "len", "list", "max", "min", "range", "sorted", "str", "tuple"], ts, xs, [], is, [52, 57]⟩
def di (n : Str) (i : Nat) : He.DefD := ⟨(n, some "__init__"), "__init__", n ++ ".__init__", defArgs (iniOf (top i)), defBody (iniOf (top i)), defScope (iniOf (top i)), [.non], []⟩
def fn : List He.DefD := ([dd "is_integer" 9, dd "is_word" 10, dd "check_word" 11, dd "power" 12, dd "letters_at" 13, dd "index_from" 14, dd "word_from" 15, dd "index_of" 16, dd "point_of" 17, dd "other_index" 18, dd "neighbours" 19, dd "check_worker" 23, dd "is_input" 24, dd "is_pair" 25, dd "check_pair" 26, dd "text_of" 27, dd "words_from" 28, dd "is_view" 29, dd "check_view" 30, dd "view_from" 31, dd "view_of" 32, dd "words_of" 33, dd "_law_mixed" 35, dd "_law_cell" 36, dd "_law_take" 37, dd "_law_text" 38, dd "_law_heard" 39, dd "_law_sight" 40, dd "_law_good" 41, dd "law" 42] : List He.DefD)
def fa : List He.Fa := ([.glo "is_integer", .glo "is_word", .glo "check_word", .glo "power", .glo "letters_at", .glo "index_from", .glo "word_from", .glo "index_of", .glo "point_of", .glo "other_index", .glo "neighbours", .glo "check_worker", .glo "is_input", .glo "is_pair", .glo "check_pair", .glo "text_of", .glo "words_from", .glo "is_view", .glo "check_view", .glo "view_from", .glo "view_of", .glo "words_of", .glo "_law_mixed", .glo "_law_cell", .glo "_law_take", .glo "_law_text", .glo "_law_heard", .glo "_law_sight", .glo "_law_good", .glo "law"] : List He.Fa) ++ ([.str "LETTERS" "a-b", .int "MOST_ROUNDS" 60, .int "MOST_INPUT" 99, .free "all", .free "bool", .free "enumerate", .free "int", .free "isinstance", .free "len", .free "list", .free "max", .free "min", .free "range", .free "sorted", .free "str", .free "tuple", .glo "DEAF", .glo "LossError", .glo "InvalidWord", .glo "InvalidWorker", .glo "InvalidPair", .glo "InvalidView"] : List He.Fa)
def gd : List (Str × D) := []
abbrev R : PySem.W.OpenRow := PySem.W.OpenLaw.row PySem.Challenge.rw_lossdepth_k07_views_and_their_words
abbrev hk : PySem.W.Hook := hookY 4 fa fn gd ts xs is
def ob (s : PySem.W.SharedT) : AlY := obsYG 4 fa fn gd ts xs is (HandSHeadRun.getT s)
theorem ob_eq (s : PySem.W.SharedT) : ob s = hk.obs s.abs := obsYG_eq (HandSHeadRun.getT_eq s)
def loose : List Str := (["LossError", "InvalidWord", "InvalidWorker", "InvalidPair", "InvalidView", "LETTERS", "MOST_ROUNDS", "is_integer", "is_word", "check_word", "power", "letters_at", "index_from", "word_from", "index_of", "point_of", "other_index", "neighbours", "DEAF", "MOST_INPUT", "check_worker", "is_input", "is_pair", "check_pair", "text_of", "words_from", "is_view", "check_view", "view_from", "view_of"] : List Str) ++ (["words_of", "_law_mixed", "_law_cell", "_law_take", "_law_text", "_law_heard", "_law_sight", "_law_good"] : List Str)
theorem runF (w : World) : HandSHeadRun.RunEq R (PySem.W.view R.prog [42]) hk ob 20000 loose (w.withFollow "special-get-raises" false) := by
  intro os
  kernel_rfl
theorem runT (w : World) : HandSHeadRun.RunEq R (PySem.W.view R.prog [42]) hk ob 20000 loose (w.withFollow "special-get-raises" true) := by
  intro os
  kernel_rfl
theorem run (w : World) : HandSHeadRun.RunEq R (PySem.W.view R.prog [42]) hk ob 20000 loose w := PySem.W.byRow2 "special-get-raises" (P := fun w => HandSHeadRun.RunEq R (PySem.W.view R.prog [42]) hk ob 20000 loose w) runF runT w
theorem ds_ok : ds.all (fun d => DefS.ok T d.2) = true := by kernel_rfl
theorem oko : T.fno.all (fun f => match ds.lookup f with | some d => DefS.okO T d | none => false) = true := by kernel_rfl
theorem okq : T.fnq.all (fun q => match ds.lookup q.1 with | some d => decide (d.name = q.2.1) && decide (d.np = q.2.2) && DefS.okQ T d | none => false) = true := by kernel_rfl
def DfOk (K : PySem.W.Frag) (mg : Str → Option Value) (f : Nat) (d : DefS) : Prop := ∃ fa fd, FunD K d.name d.name (defArgs d.st) (defBody d.st) (defScope d.st) [] [] fa fd ∧ mg d.name = some (.ref fa) ∧ Binds K fd d.ps [] ∧
    ∀ nms ks, (f, nms, ks) ∈ T.kb → ks.length = d.np ∧ KBinds K fd d.ps nms (gK nms.length ks .none) (gK nms.length ks .non)
theorem df_0 {K : PySem.W.Frag} {h : Heap} {mg : Str → Option Value} (X : K.In h) (G : h.Ns mainGlobals mg) (c : He.SaysD fa fn K) : DfOk K mg 0 s_0 := by
  obtain ⟨fd, F⟩ := c.def_ 0 (d := dd "is_integer" 9) rfl
  have b : Binds K fd ["value"] [] := FunD.bindsN F fun _ _ _ _ _ _ us hl => match us, hl with | [_], _ => rfl
  refine ⟨_, fd, F, He.glo_ok X G (c.fact 0 (f := .glo "is_integer") rfl), b, fun nms ks hm => ?_⟩
  simp only [T, List.mem_cons, Prod.mk.injEq, List.not_mem_nil, or_false] at hm
  exact absurd hm (by simp)
theorem df_2 {K : PySem.W.Frag} {h : Heap} {mg : Str → Option Value} (X : K.In h) (G : h.Ns mainGlobals mg) (c : He.SaysD fa fn K) : DfOk K mg 2 s_2 := by
  obtain ⟨fd, F⟩ := c.def_ 1 (d := dd "is_word" 10) rfl
  have b : Binds K fd ["value"] [] := FunD.bindsN F fun _ _ _ _ _ _ us hl => match us, hl with | [_], _ => rfl
  refine ⟨_, fd, F, He.glo_ok X G (c.fact 1 (f := .glo "is_word") rfl), b, fun nms ks hm => ?_⟩
  simp only [T, List.mem_cons, Prod.mk.injEq, List.not_mem_nil, or_false] at hm
  exact absurd hm (by simp)
theorem df_3 {K : PySem.W.Frag} {h : Heap} {mg : Str → Option Value} (X : K.In h) (G : h.Ns mainGlobals mg) (c : He.SaysD fa fn K) : DfOk K mg 3 s_3 := by
  obtain ⟨fd, F⟩ := c.def_ 2 (d := dd "check_word" 11) rfl
  have b : Binds K fd ["word"] [] := FunD.bindsN F fun _ _ _ _ _ _ us hl => match us, hl with | [_], _ => rfl
  refine ⟨_, fd, F, He.glo_ok X G (c.fact 2 (f := .glo "check_word") rfl), b, fun nms ks hm => ?_⟩
  simp only [T, List.mem_cons, Prod.mk.injEq, List.not_mem_nil, or_false] at hm
  exact absurd hm (by simp)
theorem df_4 {K : PySem.W.Frag} {h : Heap} {mg : Str → Option Value} (X : K.In h) (G : h.Ns mainGlobals mg) (c : He.SaysD fa fn K) : DfOk K mg 4 s_4 := by
  obtain ⟨fd, F⟩ := c.def_ 3 (d := dd "power" 12) rfl
  have b : Binds K fd ["rounds"] [] := FunD.bindsN F fun _ _ _ _ _ _ us hl => match us, hl with | [_], _ => rfl
  refine ⟨_, fd, F, He.glo_ok X G (c.fact 3 (f := .glo "power") rfl), b, fun nms ks hm => ?_⟩
  simp only [T, List.mem_cons, Prod.mk.injEq, List.not_mem_nil, or_false] at hm
  exact absurd hm (by simp)
theorem df_5 {K : PySem.W.Frag} {h : Heap} {mg : Str → Option Value} (X : K.In h) (G : h.Ns mainGlobals mg) (c : He.SaysD fa fn K) : DfOk K mg 5 s_5 := by
  obtain ⟨fd, F⟩ := c.def_ 4 (d := dd "letters_at" 13) rfl
  have b : Binds K fd ["index"] [] := FunD.bindsN F fun _ _ _ _ _ _ us hl => match us, hl with | [_], _ => rfl
  refine ⟨_, fd, F, He.glo_ok X G (c.fact 4 (f := .glo "letters_at") rfl), b, fun nms ks hm => ?_⟩
  simp only [T, List.mem_cons, Prod.mk.injEq, List.not_mem_nil, or_false] at hm
  exact absurd hm (by simp)
theorem df_6 {K : PySem.W.Frag} {h : Heap} {mg : Str → Option Value} (X : K.In h) (G : h.Ns mainGlobals mg) (c : He.SaysD fa fn K) : DfOk K mg 6 s_6 := by
  obtain ⟨fd, F⟩ := c.def_ 5 (d := dd "index_from" 14) rfl
  have b : Binds K fd ["word"] [] := FunD.bindsN F fun _ _ _ _ _ _ us hl => match us, hl with | [_], _ => rfl
  refine ⟨_, fd, F, He.glo_ok X G (c.fact 5 (f := .glo "index_from") rfl), b, fun nms ks hm => ?_⟩
  simp only [T, List.mem_cons, Prod.mk.injEq, List.not_mem_nil, or_false] at hm
  exact absurd hm (by simp)
theorem df_7 {K : PySem.W.Frag} {h : Heap} {mg : Str → Option Value} (X : K.In h) (G : h.Ns mainGlobals mg) (c : He.SaysD fa fn K) : DfOk K mg 7 s_7 := by
  obtain ⟨fd, F⟩ := c.def_ 6 (d := dd "word_from" 15) rfl
  have b : Binds K fd ["rounds", "index"] [] := FunD.bindsN F fun _ _ _ _ _ _ us hl => match us, hl with | [_, _], _ => rfl
  refine ⟨_, fd, F, He.glo_ok X G (c.fact 6 (f := .glo "word_from") rfl), b, fun nms ks hm => ?_⟩
  simp only [T, List.mem_cons, Prod.mk.injEq, List.not_mem_nil, or_false] at hm
  exact absurd hm (by simp)
theorem df_8 {K : PySem.W.Frag} {h : Heap} {mg : Str → Option Value} (X : K.In h) (G : h.Ns mainGlobals mg) (c : He.SaysD fa fn K) : DfOk K mg 8 s_8 := by
  obtain ⟨fd, F⟩ := c.def_ 7 (d := dd "index_of" 16) rfl
  have b : Binds K fd ["word"] [] := FunD.bindsN F fun _ _ _ _ _ _ us hl => match us, hl with | [_], _ => rfl
  refine ⟨_, fd, F, He.glo_ok X G (c.fact 7 (f := .glo "index_of") rfl), b, fun nms ks hm => ?_⟩
  simp only [T, List.mem_cons, Prod.mk.injEq, List.not_mem_nil, or_false] at hm
  exact absurd hm (by simp)
theorem df_20 {K : PySem.W.Frag} {h : Heap} {mg : Str → Option Value} (X : K.In h) (G : h.Ns mainGlobals mg) (c : He.SaysD fa fn K) : DfOk K mg 20 s_20 := by
  obtain ⟨fd, F⟩ := c.def_ 8 (d := dd "point_of" 17) rfl
  have b : Binds K fd ["worker", "index"] [] := FunD.bindsN F fun _ _ _ _ _ _ us hl => match us, hl with | [_, _], _ => rfl
  refine ⟨_, fd, F, He.glo_ok X G (c.fact 8 (f := .glo "point_of") rfl), b, fun nms ks hm => ?_⟩
  simp only [T, List.mem_cons, Prod.mk.injEq, List.not_mem_nil, or_false] at hm
  exact absurd hm (by simp)
theorem df_21 {K : PySem.W.Frag} {h : Heap} {mg : Str → Option Value} (X : K.In h) (G : h.Ns mainGlobals mg) (c : He.SaysD fa fn K) : DfOk K mg 21 s_21 := by
  obtain ⟨fd, F⟩ := c.def_ 9 (d := dd "other_index" 18) rfl
  have b : Binds K fd ["worker", "rounds", "index"] [] := FunD.bindsN F fun _ _ _ _ _ _ us hl => match us, hl with | [_, _, _], _ => rfl
  refine ⟨_, fd, F, He.glo_ok X G (c.fact 9 (f := .glo "other_index") rfl), b, fun nms ks hm => ?_⟩
  simp only [T, List.mem_cons, Prod.mk.injEq, List.not_mem_nil, or_false] at hm
  exact absurd hm (by simp)
theorem df_22 {K : PySem.W.Frag} {h : Heap} {mg : Str → Option Value} (X : K.In h) (G : h.Ns mainGlobals mg) (c : He.SaysD fa fn K) : DfOk K mg 22 s_22 := by
  obtain ⟨fd, F⟩ := c.def_ 10 (d := dd "neighbours" 19) rfl
  have b : Binds K fd ["word"] [] := FunD.bindsN F fun _ _ _ _ _ _ us hl => match us, hl with | [_], _ => rfl
  refine ⟨_, fd, F, He.glo_ok X G (c.fact 10 (f := .glo "neighbours") rfl), b, fun nms ks hm => ?_⟩
  simp only [T, List.mem_cons, Prod.mk.injEq, List.not_mem_nil, or_false] at hm
  exact absurd hm (by simp)
theorem df_47 {K : PySem.W.Frag} {h : Heap} {mg : Str → Option Value} (X : K.In h) (G : h.Ns mainGlobals mg) (c : He.SaysD fa fn K) : DfOk K mg 47 s_47 := by
  obtain ⟨fd, F⟩ := c.def_ 11 (d := dd "check_worker" 23) rfl
  have b : Binds K fd ["worker"] [] := FunD.bindsN F fun _ _ _ _ _ _ us hl => match us, hl with | [_], _ => rfl
  refine ⟨_, fd, F, He.glo_ok X G (c.fact 11 (f := .glo "check_worker") rfl), b, fun nms ks hm => ?_⟩
  simp only [T, List.mem_cons, Prod.mk.injEq, List.not_mem_nil, or_false] at hm
  exact absurd hm (by simp)
theorem df_48 {K : PySem.W.Frag} {h : Heap} {mg : Str → Option Value} (X : K.In h) (G : h.Ns mainGlobals mg) (c : He.SaysD fa fn K) : DfOk K mg 48 s_48 := by
  obtain ⟨fd, F⟩ := c.def_ 12 (d := dd "is_input" 24) rfl
  have b : Binds K fd ["value"] [] := FunD.bindsN F fun _ _ _ _ _ _ us hl => match us, hl with | [_], _ => rfl
  refine ⟨_, fd, F, He.glo_ok X G (c.fact 12 (f := .glo "is_input") rfl), b, fun nms ks hm => ?_⟩
  simp only [T, List.mem_cons, Prod.mk.injEq, List.not_mem_nil, or_false] at hm
  exact absurd hm (by simp)
theorem df_49 {K : PySem.W.Frag} {h : Heap} {mg : Str → Option Value} (X : K.In h) (G : h.Ns mainGlobals mg) (c : He.SaysD fa fn K) : DfOk K mg 49 s_49 := by
  obtain ⟨fd, F⟩ := c.def_ 13 (d := dd "is_pair" 25) rfl
  have b : Binds K fd ["value"] [] := FunD.bindsN F fun _ _ _ _ _ _ us hl => match us, hl with | [_], _ => rfl
  refine ⟨_, fd, F, He.glo_ok X G (c.fact 13 (f := .glo "is_pair") rfl), b, fun nms ks hm => ?_⟩
  simp only [T, List.mem_cons, Prod.mk.injEq, List.not_mem_nil, or_false] at hm
  exact absurd hm (by simp)
theorem df_50 {K : PySem.W.Frag} {h : Heap} {mg : Str → Option Value} (X : K.In h) (G : h.Ns mainGlobals mg) (c : He.SaysD fa fn K) : DfOk K mg 50 s_50 := by
  obtain ⟨fd, F⟩ := c.def_ 14 (d := dd "check_pair" 26) rfl
  have b : Binds K fd ["pair"] [] := FunD.bindsN F fun _ _ _ _ _ _ us hl => match us, hl with | [_], _ => rfl
  refine ⟨_, fd, F, He.glo_ok X G (c.fact 14 (f := .glo "check_pair") rfl), b, fun nms ks hm => ?_⟩
  simp only [T, List.mem_cons, Prod.mk.injEq, List.not_mem_nil, or_false] at hm
  exact absurd hm (by simp)
theorem df_51 {K : PySem.W.Frag} {h : Heap} {mg : Str → Option Value} (X : K.In h) (G : h.Ns mainGlobals mg) (c : He.SaysD fa fn K) : DfOk K mg 51 s_51 := by
  obtain ⟨fd, F⟩ := c.def_ 15 (d := dd "text_of" 27) rfl
  have b : Binds K fd ["worker", "word"] [] := FunD.bindsN F fun _ _ _ _ _ _ us hl => match us, hl with | [_, _], _ => rfl
  refine ⟨_, fd, F, He.glo_ok X G (c.fact 15 (f := .glo "text_of") rfl), b, fun nms ks hm => ?_⟩
  simp only [T, List.mem_cons, Prod.mk.injEq, List.not_mem_nil, or_false] at hm
  exact absurd hm (by simp)
theorem df_52 {K : PySem.W.Frag} {h : Heap} {mg : Str → Option Value} (X : K.In h) (G : h.Ns mainGlobals mg) (c : He.SaysD fa fn K) : DfOk K mg 52 s_52 := by
  obtain ⟨fd, F⟩ := c.def_ 16 (d := dd "words_from" 28) rfl
  have b : Binds K fd ["worker", "text"] [] := FunD.bindsN F fun _ _ _ _ _ _ us hl => match us, hl with | [_, _], _ => rfl
  refine ⟨_, fd, F, He.glo_ok X G (c.fact 16 (f := .glo "words_from") rfl), b, fun nms ks hm => ?_⟩
  simp only [T, List.mem_cons, Prod.mk.injEq, List.not_mem_nil, or_false] at hm
  exact absurd hm (by simp)
theorem df_53 {K : PySem.W.Frag} {h : Heap} {mg : Str → Option Value} (X : K.In h) (G : h.Ns mainGlobals mg) (c : He.SaysD fa fn K) : DfOk K mg 53 s_53 := by
  obtain ⟨fd, F⟩ := c.def_ 17 (d := dd "is_view" 29) rfl
  have b : Binds K fd ["value"] [] := FunD.bindsN F fun _ _ _ _ _ _ us hl => match us, hl with | [_], _ => rfl
  refine ⟨_, fd, F, He.glo_ok X G (c.fact 17 (f := .glo "is_view") rfl), b, fun nms ks hm => ?_⟩
  simp only [T, List.mem_cons, Prod.mk.injEq, List.not_mem_nil, or_false] at hm
  rcases hm with ⟨z, rfl, rfl⟩ | ⟨z, rfl, rfl⟩ | ⟨z, rfl, rfl⟩
  · exact ⟨rfl, kb_of (nms := ["value"]) (ks := [0]) F (by decide) fun _ _ _ _ _ _ ws hl => match ws, hl with | [_], _ => rfl⟩
  · exact absurd z (by decide)
  · exact absurd z (by decide)
theorem df_54 {K : PySem.W.Frag} {h : Heap} {mg : Str → Option Value} (X : K.In h) (G : h.Ns mainGlobals mg) (c : He.SaysD fa fn K) : DfOk K mg 54 s_54 := by
  obtain ⟨fd, F⟩ := c.def_ 18 (d := dd "check_view" 30) rfl
  have b : Binds K fd ["view"] [] := FunD.bindsN F fun _ _ _ _ _ _ us hl => match us, hl with | [_], _ => rfl
  refine ⟨_, fd, F, He.glo_ok X G (c.fact 18 (f := .glo "check_view") rfl), b, fun nms ks hm => ?_⟩
  simp only [T, List.mem_cons, Prod.mk.injEq, List.not_mem_nil, or_false] at hm
  exact absurd hm (by simp)
theorem df_55 {K : PySem.W.Frag} {h : Heap} {mg : Str → Option Value} (X : K.In h) (G : h.Ns mainGlobals mg) (c : He.SaysD fa fn K) : DfOk K mg 55 s_55 := by
  obtain ⟨fd, F⟩ := c.def_ 19 (d := dd "view_from" 31) rfl
  have b : Binds K fd ["worker", "pair", "word"] [] := FunD.bindsN F fun _ _ _ _ _ _ us hl => match us, hl with | [_, _, _], _ => rfl
  refine ⟨_, fd, F, He.glo_ok X G (c.fact 19 (f := .glo "view_from") rfl), b, fun nms ks hm => ?_⟩
  simp only [T, List.mem_cons, Prod.mk.injEq, List.not_mem_nil, or_false] at hm
  exact absurd hm (by simp)
theorem df_56 {K : PySem.W.Frag} {h : Heap} {mg : Str → Option Value} (X : K.In h) (G : h.Ns mainGlobals mg) (c : He.SaysD fa fn K) : DfOk K mg 56 s_56 := by
  obtain ⟨fd, F⟩ := c.def_ 20 (d := dd "view_of" 32) rfl
  have b : Binds K fd ["worker", "pair", "word"] [] := FunD.bindsN F fun _ _ _ _ _ _ us hl => match us, hl with | [_, _, _], _ => rfl
  refine ⟨_, fd, F, He.glo_ok X G (c.fact 20 (f := .glo "view_of") rfl), b, fun nms ks hm => ?_⟩
  simp only [T, List.mem_cons, Prod.mk.injEq, List.not_mem_nil, or_false] at hm
  rcases hm with ⟨z, rfl, rfl⟩ | ⟨z, rfl, rfl⟩ | ⟨z, rfl, rfl⟩
  · exact absurd z (by decide)
  · exact ⟨rfl, kb_of (nms := ["word", "pair", "worker"]) (ks := [2, 1, 0]) F (by decide) fun _ _ _ _ _ _ ws hl => match ws, hl with | [_, _, _], _ => rfl⟩
  · exact absurd z (by decide)
theorem df_57 {K : PySem.W.Frag} {h : Heap} {mg : Str → Option Value} (X : K.In h) (G : h.Ns mainGlobals mg) (c : He.SaysD fa fn K) : DfOk K mg 57 s_57 := by
  obtain ⟨fd, F⟩ := c.def_ 21 (d := dd "words_of" 33) rfl
  have b : Binds K fd ["view"] [] := FunD.bindsN F fun _ _ _ _ _ _ us hl => match us, hl with | [_], _ => rfl
  refine ⟨_, fd, F, He.glo_ok X G (c.fact 21 (f := .glo "words_of") rfl), b, fun nms ks hm => ?_⟩
  simp only [T, List.mem_cons, Prod.mk.injEq, List.not_mem_nil, or_false] at hm
  rcases hm with ⟨z, rfl, rfl⟩ | ⟨z, rfl, rfl⟩ | ⟨z, rfl, rfl⟩
  · exact absurd z (by decide)
  · exact absurd z (by decide)
  · exact ⟨rfl, kb_of (nms := ["view"]) (ks := [0]) F (by decide) fun _ _ _ _ _ _ ws hl => match ws, hl with | [_], _ => rfl⟩
theorem df_10 {K : PySem.W.Frag} {h : Heap} {mg : Str → Option Value} (X : K.In h) (G : h.Ns mainGlobals mg) (c : He.SaysD fa fn K) : DfOk K mg 10 s_10 := by
  obtain ⟨fd, F⟩ := c.def_ 22 (d := dd "_law_mixed" 35) rfl
  have b : Binds K fd ["_law_cell_here", "_law_k"] [] := FunD.bindsN F fun _ _ _ _ _ _ us hl => match us, hl with | [_, _], _ => rfl
  refine ⟨_, fd, F, He.glo_ok X G (c.fact 22 (f := .glo "_law_mixed") rfl), b, fun nms ks hm => ?_⟩
  simp only [T, List.mem_cons, Prod.mk.injEq, List.not_mem_nil, or_false] at hm
  exact absurd hm (by simp)
theorem df_11 {K : PySem.W.Frag} {h : Heap} {mg : Str → Option Value} (X : K.In h) (G : h.Ns mainGlobals mg) (c : He.SaysD fa fn K) : DfOk K mg 11 s_11 := by
  obtain ⟨fd, F⟩ := c.def_ 23 (d := dd "_law_cell" 36) rfl
  have b : Binds K fd ["_law_script", "_law_k"] [] := FunD.bindsN F fun _ _ _ _ _ _ us hl => match us, hl with | [_, _], _ => rfl
  refine ⟨_, fd, F, He.glo_ok X G (c.fact 23 (f := .glo "_law_cell") rfl), b, fun nms ks hm => ?_⟩
  simp only [T, List.mem_cons, Prod.mk.injEq, List.not_mem_nil, or_false] at hm
  exact absurd hm (by simp)
theorem df_12 {K : PySem.W.Frag} {h : Heap} {mg : Str → Option Value} (X : K.In h) (G : h.Ns mainGlobals mg) (c : He.SaysD fa fn K) : DfOk K mg 12 s_12 := by
  obtain ⟨fd, F⟩ := c.def_ 24 (d := dd "_law_take" 37) rfl
  have b : Binds K fd ["_law_own", "_law_length"] [] := FunD.bindsN F fun _ _ _ _ _ _ us hl => match us, hl with | [_, _], _ => rfl
  refine ⟨_, fd, F, He.glo_ok X G (c.fact 24 (f := .glo "_law_take") rfl), b, fun nms ks hm => ?_⟩
  simp only [T, List.mem_cons, Prod.mk.injEq, List.not_mem_nil, or_false] at hm
  exact absurd hm (by simp)
theorem df_13 {K : PySem.W.Frag} {h : Heap} {mg : Str → Option Value} (X : K.In h) (G : h.Ns mainGlobals mg) (c : He.SaysD fa fn K) : DfOk K mg 13 s_13 := by
  obtain ⟨fd, F⟩ := c.def_ 25 (d := dd "_law_text" 38) rfl
  have b : Binds K fd ["_law_own", "_law_most"] [] := FunD.bindsN F fun _ _ _ _ _ _ us hl => match us, hl with | [_, _], _ => rfl
  refine ⟨_, fd, F, He.glo_ok X G (c.fact 25 (f := .glo "_law_text") rfl), b, fun nms ks hm => ?_⟩
  simp only [T, List.mem_cons, Prod.mk.injEq, List.not_mem_nil, or_false] at hm
  exact absurd hm (by simp)
theorem df_58 {K : PySem.W.Frag} {h : Heap} {mg : Str → Option Value} (X : K.In h) (G : h.Ns mainGlobals mg) (c : He.SaysD fa fn K) : DfOk K mg 58 s_58 := by
  obtain ⟨fd, F⟩ := c.def_ 26 (d := dd "_law_heard" 39) rfl
  have b : Binds K fd ["_law_who", "_law_text_here"] [] := FunD.bindsN F fun _ _ _ _ _ _ us hl => match us, hl with | [_, _], _ => rfl
  refine ⟨_, fd, F, He.glo_ok X G (c.fact 26 (f := .glo "_law_heard") rfl), b, fun nms ks hm => ?_⟩
  simp only [T, List.mem_cons, Prod.mk.injEq, List.not_mem_nil, or_false] at hm
  exact absurd hm (by simp)
theorem df_59 {K : PySem.W.Frag} {h : Heap} {mg : Str → Option Value} (X : K.In h) (G : h.Ns mainGlobals mg) (c : He.SaysD fa fn K) : DfOk K mg 59 s_59 := by
  obtain ⟨fd, F⟩ := c.def_ 27 (d := dd "_law_sight" 40) rfl
  have b : Binds K fd ["_law_who", "_law_inputs", "_law_text_here"] [] := FunD.bindsN F fun _ _ _ _ _ _ us hl => match us, hl with | [_, _, _], _ => rfl
  refine ⟨_, fd, F, He.glo_ok X G (c.fact 27 (f := .glo "_law_sight") rfl), b, fun nms ks hm => ?_⟩
  simp only [T, List.mem_cons, Prod.mk.injEq, List.not_mem_nil, or_false] at hm
  exact absurd hm (by simp)
theorem df_60 {K : PySem.W.Frag} {h : Heap} {mg : Str → Option Value} (X : K.In h) (G : h.Ns mainGlobals mg) (c : He.SaysD fa fn K) : DfOk K mg 60 s_60 := by
  obtain ⟨fd, F⟩ := c.def_ 28 (d := dd "_law_good" 41) rfl
  have b : Binds K fd ["_law_who", "_law_inputs", "_law_text_here"] [] := FunD.bindsN F fun _ _ _ _ _ _ us hl => match us, hl with | [_, _, _], _ => rfl
  refine ⟨_, fd, F, He.glo_ok X G (c.fact 28 (f := .glo "_law_good") rfl), b, fun nms ks hm => ?_⟩
  simp only [T, List.mem_cons, Prod.mk.injEq, List.not_mem_nil, or_false] at hm
  exact absurd hm (by simp)
theorem df_61 {K : PySem.W.Frag} {h : Heap} {mg : Str → Option Value} (X : K.In h) (G : h.Ns mainGlobals mg) (c : He.SaysD fa fn K) : DfOk K mg 61 s_61 := by
  obtain ⟨fd, F⟩ := c.def_ 29 (d := dd "law" 42) rfl
  have b : Binds K fd ["_law_script"] [] := FunD.bindsN F fun _ _ _ _ _ _ us hl => match us, hl with | [_], _ => rfl
  refine ⟨_, fd, F, He.glo_ok X G (c.fact 29 (f := .glo "law") rfl), b, fun nms ks hm => ?_⟩
  simp only [T, List.mem_cons, Prod.mk.injEq, List.not_mem_nil, or_false] at hm
  exact absurd hm (by simp)
theorem df_all {K : PySem.W.Frag} {h : Heap} {mg : Str → Option Value} (X : K.In h) (G : h.Ns mainGlobals mg) (c : He.SaysD fa fn K) : ∀ p ∈ ds, DfOk K mg p.1 p.2 := by
  unfold ds
  exact List.forall_mem_cons.mpr ⟨df_0 X G c, List.forall_mem_cons.mpr ⟨df_2 X G c, List.forall_mem_cons.mpr ⟨df_3 X G c, List.forall_mem_cons.mpr ⟨df_4 X G c, List.forall_mem_cons.mpr ⟨df_5 X G c, List.forall_mem_cons.mpr ⟨df_6 X G c, List.forall_mem_cons.mpr ⟨df_7 X G c, List.forall_mem_cons.mpr ⟨df_8 X G c, List.forall_mem_cons.mpr ⟨df_20 X G c, List.forall_mem_cons.mpr ⟨df_21 X G c, List.forall_mem_cons.mpr ⟨df_22 X G c, List.forall_mem_cons.mpr ⟨df_47 X G c, List.forall_mem_cons.mpr ⟨df_48 X G c, List.forall_mem_cons.mpr ⟨df_49 X G c, List.forall_mem_cons.mpr ⟨df_50 X G c, List.forall_mem_cons.mpr ⟨df_51 X G c, List.forall_mem_cons.mpr ⟨df_52 X G c, List.forall_mem_cons.mpr ⟨df_53 X G c, List.forall_mem_cons.mpr ⟨df_54 X G c, List.forall_mem_cons.mpr ⟨df_55 X G c, List.forall_mem_cons.mpr ⟨df_56 X G c, List.forall_mem_cons.mpr ⟨df_57 X G c, List.forall_mem_cons.mpr ⟨df_10 X G c, List.forall_mem_cons.mpr ⟨df_11 X G c, List.forall_mem_cons.mpr ⟨df_12 X G c, List.forall_mem_cons.mpr ⟨df_13 X G c, List.forall_mem_cons.mpr ⟨df_58 X G c, List.forall_mem_cons.mpr ⟨df_59 X G c, List.forall_mem_cons.mpr ⟨df_60 X G c, List.forall_mem_cons.mpr ⟨df_61 X G c, fun _ z => nomatch z⟩⟩⟩⟩⟩⟩⟩⟩⟩⟩⟩⟩⟩⟩⟩⟩⟩⟩⟩⟩⟩⟩⟩⟩⟩⟩⟩⟩⟩⟩
theorem facts {K : PySem.W.Frag} {h : Heap} {mg : Str → Option Value} (X : K.In h) (G : h.Ns mainGlobals mg) {w : World} (cy : SaysY fa fn gd ts xs is w K) : AllOk w K mg T ds G0 := by
  have cz := cy.z
  have c := cz.d
  refine ⟨rfl, ds_ok, oko, okq, fun g x z => ?_, fun x z => ?_, fun f d hd => df_all X G c _ (lookup_mem hd), fun x ks cs z => ?_, fun k z => xfB_ok (cy.xf k z) ?_, fun k z => ?_⟩
  · have z := lookup_mem z
    simp only [T, List.mem_cons, Prod.mk.injEq, List.not_mem_nil, or_false] at z
    rcases z with ⟨rfl, rfl⟩ | ⟨rfl, rfl⟩ | ⟨rfl, rfl⟩
    · obtain ⟨t, e⟩ := He.str_ok X G (c.fact 30 (f := .str "LETTERS" "a-b") rfl)
      exact ⟨.str [97, 45, 98], .str "a-b", _, rfl, e, ⟨t, rfl⟩, fun F => Rep.str_iff.mpr ⟨by with_unfolding_all rfl, by decide, by decide⟩⟩
    · obtain ⟨t, e⟩ := He.int_ok X G (c.fact 31 (f := .int "MOST_ROUNDS" 60) rfl)
      exact ⟨.int 60, .int 60, _, rfl, e, ⟨t, rfl⟩, fun F => Rep.int_iff.mpr rfl⟩
    · obtain ⟨t, e⟩ := He.int_ok X G (c.fact 32 (f := .int "MOST_INPUT" 99) rfl)
      exact ⟨.int 99, .int 99, _, rfl, e, ⟨t, rfl⟩, fun F => Rep.int_iff.mpr rfl⟩
  · simp only [T, List.mem_cons, List.not_mem_nil, or_false] at z
    rcases z with rfl | rfl | rfl | rfl | rfl | rfl | rfl | rfl | rfl | rfl | rfl | rfl | rfl
    · exact He.free_ok X G (c.fact 33 (f := .free "all") rfl)
    · exact He.free_ok X G (c.fact 34 (f := .free "bool") rfl)
    · exact He.free_ok X G (c.fact 35 (f := .free "enumerate") rfl)
    · exact He.free_ok X G (c.fact 36 (f := .free "int") rfl)
    · exact He.free_ok X G (c.fact 37 (f := .free "isinstance") rfl)
    · exact He.free_ok X G (c.fact 38 (f := .free "len") rfl)
    · exact He.free_ok X G (c.fact 39 (f := .free "list") rfl)
    · exact He.free_ok X G (c.fact 40 (f := .free "max") rfl)
    · exact He.free_ok X G (c.fact 41 (f := .free "min") rfl)
    · exact He.free_ok X G (c.fact 42 (f := .free "range") rfl)
    · exact He.free_ok X G (c.fact 43 (f := .free "sorted") rfl)
    · exact He.free_ok X G (c.fact 44 (f := .free "str") rfl)
    · exact He.free_ok X G (c.fact 45 (f := .free "tuple") rfl)
  · have z := lookup_memS z
    simp only [T, ts, List.mem_cons, Prod.mk.injEq, List.not_mem_nil, or_false] at z
    obtain ⟨rfl, rfl, rfl⟩ := z
    · exact ⟨_, He.glo_ok X G (c.fact 46 (f := .glo "DEAF") rfl), cy.tab (t := ("DEAF", ([[65], [66]], [.inr [97], .inr [98]]))) (by simp [ts])⟩
  · replace z : k ∈ xs := z
    simp only [xs, List.mem_cons, List.not_mem_nil, or_false] at z
    rcases z with rfl | rfl | rfl | rfl | rfl
    · exact He.glo_ok X G (c.fact 47 (f := .glo "LossError") rfl)
    · exact He.glo_ok X G (c.fact 48 (f := .glo "InvalidWord") rfl)
    · exact He.glo_ok X G (c.fact 49 (f := .glo "InvalidWorker") rfl)
    · exact He.glo_ok X G (c.fact 50 (f := .glo "InvalidPair") rfl)
    · exact He.glo_ok X G (c.fact 51 (f := .glo "InvalidView") rfl)
  · replace z : k ∈ is := z
    have zz := cy.xi k z
    simp only [is, List.mem_cons, List.not_mem_nil, or_false] at z
abbrev PR : Prog := progOf ds G0
instance : Glo PR := ⟨rfl⟩
instance : U_is_integer PR := { h0 := rfl }
instance : U_is_word PR := { h2 := rfl }
instance : U_check_word PR := { h3 := rfl }
instance : U_power PR := { h4 := rfl }
instance : U_letters_at PR := { h5 := rfl }
instance : U_index_from PR := { h6 := rfl }
instance : U_word_from PR := { h7 := rfl }
instance : U_index_of PR := { h8 := rfl }
instance : U_point_of PR := { h20 := rfl }
instance : U_other_index PR := { h21 := rfl }
instance : U_neighbours PR := { h22 := rfl }
instance : U_check_worker PR := { h47 := rfl }
instance : U_is_input PR := { h48 := rfl }
instance : U_is_pair PR := { h49 := rfl }
instance : U_check_pair PR := { h50 := rfl }
instance : U_text_of PR := { h51 := rfl }
instance : U_words_from PR := { h52 := rfl }
instance : U_is_view PR := { h53 := rfl }
instance : U_check_view PR := { h54 := rfl }
instance : U_view_from PR := { h55 := rfl }
instance : U_view_of PR := { h56 := rfl }
instance : U_words_of PR := { h57 := rfl }
instance : U__law_mixed PR := { h10 := rfl }
instance : U__law_cell PR := { h11 := rfl }
instance : U__law_take PR := { h12 := rfl }
instance : U__law_text PR := { h13 := rfl }
instance : U__law_heard PR := { h58 := rfl }
instance : U__law_sight PR := { h59 := rfl }
instance : U__law_good_4 PR := { h60 := rfl }
instance : U_law_6 PR := { h61 := rfl }
end L
end Z
open PySem PySem.W PySem.Calls PyProof.Rows
theorem PySem.Challenge.cw_lossdepth_k07_views_and_their_words_holds : PySem.Challenge.rw_lossdepth_k07_views_and_their_words.Holds := by
  w_on; o_law
  refine HandSHeadRun.head_any (r := OpenLaw.row PySem.Challenge.rw_lossdepth_k07_views_and_their_words) (q := view (OpenLaw.row PySem.Challenge.rw_lossdepth_k07_views_and_their_words).prog [42]) (H := Z.L.hk) (ob := Z.L.ob) (M := 20000) (loose := Z.L.loose) (d := HandSHeadRun.topDef (OpenLaw.row PySem.Challenge.rw_lossdepth_k07_views_and_their_words).prog 42) (kwd := []) Z.L.ob_eq
    (by kernel_rfl) (fun s => by kernel_rfl) Z.L.run (by kernel_rfl) (by kernel_rfl) (by kernel_rfl) (by rfl) (by first | assumption | decide +kernel) (by decide +kernel) ⟨rfl, rfl, rfl, rfl, rfl, by decide +kernel⟩ ?hw ?hc
  case hw => w_witness2
  case hc =>
    refine Z.walk_ofW (l := PySem.Challenge.rw_lossdepth_k07_views_and_their_words) (n := 63) (k := 24) (x := "_law_script") rfl (by decide) (by kernel_rfl) ⟨rfl, by decide, by decide⟩ ?F
    intro w mg fa h Y G hmg0
    obtain ⟨K, KX, cy⟩ := Y
    have cz := cy.z
    have c := cz.d
    have hmg : mg ("law" : PySem.Str) = some (.ref fa) := by
      have e : (HandSHeadRun.topDef (OpenLaw.row PySem.Challenge.rw_lossdepth_k07_views_and_their_words).prog 42).name = ("law" : PySem.Str) := by kernel_rfl
      rw [← e]
      exact hmg0
    have A := Z.L.facts KX G cy
    obtain ⟨fd, F⟩ := c.def_ 29 (d := Z.L.dd "law" 42) rfl
    have e := hmg.symm.trans (He.glo_ok KX G (c.fact 29 (f := .glo "law") rfl))
    cases e
    have b := L2.FunD.bindsA (ps := ["_law_script"]) F fun _ _ _ _ _ _ us hl => match us, hl with | [_], _ => rfl
    refine ⟨K, fd, Z.SpOf K (fun _ => 0) 1 (Z.callN Z.L.PR 8 61), KX, fun s v => b s [v] rfl, fun H a ns hl _ hS => Z.law_sp hS (Z.law_true ns), fun base _ _ => ?_⟩
    have ef : Z.callN Z.L.PR 8 61 = Z.runFn (Z.callN Z.L.PR 7) Z.G0 Z.L.s_61.fn := by
      funext as
      rfl
    rw [ef]
    exact Z.def_ok (d := Z.L.s_61) F (by kernel_rfl) (Z.all_ok A 7)
