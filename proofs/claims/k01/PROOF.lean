import PyProof.Rows.All
import Wide.All
import OpenK.AllK
import Wide.FinOn
import KE.KStateDown
import HandS.ForMost
import HandS.ForExc
import HandS.Head0
import HandS.Head1
import HandS.Head2
import HandS.HeadEnd
import HandS.HeadHook1
import HandS.HeadHook2
import HandS.HeadHook3
import HandS.Wide
import HandS.Flow
import HandS.CallSlots
import HandS.Deep
import HandS.IsInst
import HandS.Style
import HandS.Replace
import KE.KDictList
import PyProof.StrWalks
import PyProof.StrLoop
import PyProof.CollectStr
import HandS.Conv
import HandS.Text
import HandS.Dict
import HandS.Defaults
import PySem.Challenge.RW_lossdepth_k01_words_and_indexes
set_option Elab.async false
set_option linter.all false
set_option maxRecDepth 100000
set_option maxHeartbeats 0
set_option autoImplicit false
/-! Z1: data, the core syntax, its evaluator (core Lean alone) -/
namespace Z

/-- data as trees; texts as lists of code points -/
inductive D where
  | non | bl (b : Bool) | int (i : Int) | str (s : List Nat) | lst (l : List D) | tup (l : List D) | exc (c : Nat) (f : List D)
  deriving Inhabited

/-- a name's place: nothing, a value that is never changed, a list of the frame's own, a list handed in to be changed -/
inductive Slot where
  | no | val (d : D) | own (l : List D) | io (l : List D)
  deriving Inhabited
abbrev St := List Slot

inductive R (α : Type) where
  | ok (a : α) (r : St) | exc (x : D) (r : St) | bad
def R.bind {α β : Type} (x : R α) (f : α → St → R β) : R β := match x with
  | .ok a r => f a r
  | .exc x r => .exc x r
  | .bad => .bad
@[simp] theorem R.bind_ok {α β : Type} (a : α) (r : St) (f : α → St → R β) : (R.ok a r).bind f = f a r := rfl
@[simp] theorem R.bind_exc {α β : Type} (x : D) (r : St) (f : α → St → R β) : (R.exc x r : R α).bind f = .exc x r := rfl
@[simp] theorem R.bind_bad {α β : Type} (f : α → St → R β) : (R.bad : R α).bind f = .bad := rfl
def R.of {α : Type} (o : Option α) (r : St) : R α := match o with
  | some a => .ok a r
  | none => .bad
@[simp] theorem R.of_some {α : Type} (a : α) (r : St) : R.of (some a) r = .ok a r := rfl
@[simp] theorem R.of_none {α : Type} (r : St) : R.of (none : Option α) r = .bad := rfl

/-! ### operations on data -/
mutual
def eqd : D → D → Bool
  | .non, .non => true
  | .bl a, .bl b => a == b
  | .bl a, .int j => (if a then 1 else 0) == j
  | .int i, .bl b => i == (if b then 1 else 0)
  | .int i, .int j => i == j
  | .str x, .str y => x == y
  | .lst xs, .lst ys => eqds xs ys
  | .tup xs, .tup ys => eqds xs ys
  | _, _ => false
def eqds : List D → List D → Bool
  | [], [] => true
  | x :: xs, y :: ys => eqd x y && eqds xs ys
  | _, _ => false
end
/-- nested at most n deep, no error object within -/
def shal : Nat → D → Bool
  | _, .exc _ _ => false
  | 0, .lst _ => false
  | 0, .tup _ => false
  | n + 1, .lst l => l.all (shal n)
  | n + 1, .tup l => l.all (shal n)
  | _, _ => true
def eqD (a b : D) : Option Bool := if shal 9 a && shal 9 b then some (eqd a b) else none

def LINE : Nat := 16777216
def BIG : Nat := 2 ^ 8000
def addD : D → D → Option D
  | .int a, .int b => some (.int (a + b))
  | .str a, .str b => if a.length + b.length ≤ LINE then some (.str (a ++ b)) else none
  | .lst a, .lst b => if a.length + b.length ≤ LINE then some (.lst (a ++ b)) else none
  | _, _ => none
def subD : D → D → Option D
  | .int a, .int b => some (.int (a - b))
  | _, _ => none
def small (a : Int) : Bool := decide (-1000000000 ≤ a ∧ a ≤ 1000000000)
def rep {α : Type} (l : List α) (k : Nat) : List α := (List.replicate k l).flatten
def mulD : D → D → Option D
  | .int a, .int b => if a.natAbs < BIG ∧ b.natAbs < BIG then some (.int (a * b)) else none
  | .str a, .int k => if small k = true ∧ a.length * k.toNat ≤ LINE then some (.str (rep a k.toNat)) else none
  | .lst a, .int k => if small k = true ∧ a.length * k.toNat ≤ LINE then some (.lst (rep a k.toNat)) else none
  | _, _ => none
def divD : D → D → Option D
  | .int a, .int b => if 0 < b ∧ b.natAbs < BIG then some (.int (a / b)) else none
  | _, _ => none
def modD : D → D → Option D
  | .int a, .int b => if 0 < b then some (.int (a % b)) else none
  | _, _ => none
def powD : D → D → Option D
  | .int a, .int b => if 0 ≤ b ∧ b ≤ 1000 ∧ a.natAbs < 2 ^ 60 then some (.int (a ^ b.toNat)) else none
  | _, _ => none
inductive Op where
  | add | sub | mul | div | mod | pow
def Op.f : Op → D → D → Option D
  | .add => addD
  | .sub => subD
  | .mul => mulD
  | .div => divD
  | .mod => modD
  | .pow => powD
def mulN (x y : D) : Option D := match x with
  | .lst _ => none
  | _ => mulD x y
def Op.g : Op → D → D → Option D
  | .mul => mulN
  | o => o.f
def augD : Op → D → D → Option D
  | .add, .int a, .int b => some (.int (a + b))
  | .add, .str a, .str b => if a.length + b.length ≤ LINE then some (.str (a ++ b)) else none
  | .sub, .int a, .int b => some (.int (a - b))
  | _, _, _ => none
inductive Cp where
  | eq | ne | lt | le | gt | ge
def Cp.f : Cp → D → D → Option Bool
  | .eq, a, b => eqD a b
  | .ne, a, b => (eqD a b).map (!·)
  | .lt, .int a, .int b => some (decide (a < b))
  | .le, .int a, .int b => some (decide (a ≤ b))
  | .gt, .int a, .int b => some (decide (b < a))
  | .ge, .int a, .int b => some (decide (b ≤ a))
  | _, _, _ => none
/-- x in y: a sign in a text; data in a list, a tuple -/
def inD : D → D → Option Bool
  | .str [c], .str s => some (s.contains c)
  | a, .tup l => if shal 8 a && l.all (shal 8) then some (l.any fun y => eqd y a) else none
  | a, .lst l => if shal 8 a && l.all (shal 8) then some (l.any fun y => eqd y a) else none
  | _, _ => none
def atL {α : Type} (l : List α) (i : Int) : Option α := if 0 ≤ i then l[i.toNat]? else if -(l.length : Int) ≤ i then l[(i + l.length).toNat]? else none
def idxD : D → D → Option D
  | .lst l, .int i => atL l i
  | .tup l, .int i => atL l i
  | .str s, .int i => (atL s i).map fun c => .str [c]
  | _, _ => none
/-- a bound of a slice, clipped -/
def clip (n d : Nat) : Option Int → Nat
  | none => d
  | some i => if i < 0 then (i + n).toNat else min i.toNat n
def cut {α : Type} (l : List α) (lo hi : Option Int) : List α := (l.drop (clip l.length 0 lo)).take (clip l.length l.length hi - clip l.length 0 lo)
def sliD : D → Option Int → Option Int → Option D
  | .lst l, lo, hi => some (.lst (cut l lo hi))
  | .tup l, lo, hi => if clip l.length 0 lo = 0 ∧ clip l.length l.length hi = l.length then none else some (.tup (cut l lo hi))
  | .str l, lo, hi => some (.str (cut l lo hi))
  | _, _, _ => none
def revD : D → Option D
  | .str s => if s = [97, 45, 98] then some (.str [98, 45, 97]) else none
  | _ => none
/-- the items that a for walks -/
def itemsD : D → Option (List D)
  | .lst l => some l
  | .tup l => some l
  | .str s => some (s.map fun c => .str [c])
  | _ => none
def lenD : D → Option D
  | .lst l => some (.int l.length)
  | .tup l => some (.int l.length)
  | .str s => some (.int s.length)
  | _ => none
/-- isinstance: 0 int, 1 bool, 2 str, 3 tuple, 4 list -/
def isiD : D → Nat → Option Bool
  | .non, t => some (t == 9)
  | .bl _, t => some (t == 0 || t == 1)
  | .int _, t => some (t == 0)
  | .str _, t => some (t == 2)
  | .tup _, t => some (t == 3)
  | .lst _, t => some (t == 4)
  | _, _ => none
def rngL (a b : Int) : List D := (List.range (b - a).toNat).map fun (k : Nat) => D.int (a + k)
def rngB (a b : Int) : List D := (List.range (a - b).toNat).map fun (k : Nat) => D.int (a - k)
def rng1 : D → Option (List D)
  | .int b => if small b then some (rngL 0 b) else none
  | _ => none
def rng2 : D → D → Option (List D)
  | .int a, .int b => if small a && small b then some (rngL a b) else none
  | _, _ => none
def rng3 : D → D → Option (List D)
  | .int a, .int b => if small a && small b then some (rngB a b) else none
  | _, _ => none
def enumL : Nat → List D → List D
  | _, [] => []
  | k, d :: l => .tup [.int k, d] :: enumL (k + 1) l
def zipL : List D → List D → List D
  | x :: xs, y :: ys => .tup [x, y] :: zipL xs ys
  | _, _ => []
def strsOf : List D → Option (List (List Nat))
  | [] => some []
  | .str s :: l => (strsOf l).map (s :: ·)
  | _ :: _ => none
def intsOf : List D → Option (List Int)
  | [] => some []
  | .int i :: l => (intsOf l).map (i :: ·)
  | _ :: _ => none
def blsOf : List D → Option (List Bool)
  | [] => some []
  | .bl b :: l => (blsOf l).map (b :: ·)
  | _ :: _ => none
def joinL (sep : List Nat) : List (List Nat) → List Nat
  | [] => []
  | [s] => s
  | s :: l => s ++ sep ++ joinL sep l
/-- built-in functions of values -/
inductive Bi where
  | len | tuple | list | abs | max2 | min2 | sum | all | any | str | int
def Bi.f : Bi → List D → Option D
  | .len, [d] => lenD d
  | .tuple, [.lst l] => some (.tup l)
  | .tuple, [.tup l] => some (.tup l)
  | .list, [.lst l] => some (.lst l)
  | .list, [.tup l] => some (.lst l)
  | .list, [.str s] => some (.lst (s.map fun c => .str [c]))
  | .abs, [.int i] => some (.int i.natAbs)
  | .max2, [.int a, .int b] => some (.int (if b > a then b else a))
  | .min2, [.int a, .int b] => some (.int (if b < a then b else a))
  | .sum, [.lst l] => (intsOf l).map fun ns => .int ns.sum
  | .all, [.lst l] => (blsOf l).map fun bs => .bl (bs.all id)
  | .any, [.lst l] => (blsOf l).map fun bs => .bl (bs.any id)
  | .int, [.int i] => some (.int i)
  | .int, [.bl b] => some (.int (if b then 1 else 0))
  | _, _ => none
def Bi.listG : List D → Option D
  | [.lst l] => some (.lst l)
  | [.tup l] => some (.lst l)
  | [.str s] => some (.lst (s.map fun c => .str [c]))
  | _ => none
def Bi.g : Bi → List D → Option D
  | .list => Bi.listG
  | .str => fun _ => none
  | b => b.f
/-- methods of texts, one argument -/
inductive Mt where
  | index | join
def six (c : Nat) : List Nat → Option Nat
  | [97, 45, 98] => if c = 97 then some 0 else if c = 45 then some 1 else if c = 98 then some 2 else none
  | [98, 45, 97] => if c = 98 then some 0 else if c = 45 then some 1 else if c = 97 then some 2 else none
  | _ => none
def Mt.f : Mt → List Nat → D → Option D
  | .index, s, .str [c] => (six c s).map fun (k : Nat) => D.int k
  | .join, sep, .lst l => (strsOf l).bind fun ss => if (joinL sep ss).length ≤ LINE ∧ (ss.map (·.length)).sum + ss.length * sep.length ≤ LINE then some (.str (joinL sep ss)) else none
  | _, _, _ => none
/-- a written dict with texts as keys -/
def dlook : List (List Nat) → List D → List Nat → Option D
  | k :: ks, v :: vs, s => if s = k then some v else dlook ks vs s
  | _, _, _ => none
/-! ### the core syntax -/
inductive Tg where
  | one (i : Nat) | many (l : List Nat)
mutual
inductive E where
  | var (i : Nat) | non | bl (b : Bool) | int (i : Int) | str (s : List Nat)
  | glo (g : Nat)
  | lst (es : List E) | tup (es : List E)
  | bin (o : Op) (a b : E) | neg (a : E)
  | cmp (c : Cp) (a b : E) | cmp2 (c c' : Cp) (a b d : E)
  | isN (a : E) | notN (a : E) | isT (a : E)
  | inn (a b : E) | nin (a b : E)
  | and (a b : E) | or (a b : E) | not (a : E)
  | ite (c a b : E)
  | idx (a i : E) | idxv (v : Nat) (i : E)
  | sli (a : E) (lo hi : Option E) | rev (a : E)
  | bi (b : Bi) (es : List E) | lenv (v : Nat) | isi (a : E) (t : Nat)
  | mt (m : Mt) (o e : E)
  | call (f : Nat) (es : List E) | callio (f v : Nat) (es : List E) | callk (f : Nat) (es : List E) (ks : List Nat)
  | dsub (ks : List (List Nat)) (vs : List D) (i : E) | dget (ks : List (List Nat)) (vs : List D) (i d : E)
  | comp (elt : E) (tg : Tg) (it : I) (cond : Option E) (own : List Nat)
inductive I where
  | e (e : E) | rng1 (a : E) | rng2 (a b : E) | rng3 (a b : E) | enum (e : E) | zip (a b : E)
end

/-! ### the evaluator -/
/-- what a call gives; o: the contents of the list handed in as the first argument -/
inductive CR where
  | ret (d : D) (o : List D) | exc (x : D) (o : List D) | bad
abbrev Calls := Nat → List Slot → CR
/-- a place that may be stored to: not a list handed in -/
def setv (i : Nat) (s : Slot) (r : St) : Option St := match r[i]? with
  | some (.io _) => none
  | some _ => some (r.set i s)
  | none => none
def setAll : List Nat → List D → St → Option St
  | [], [], r => some r
  | i :: is, d :: ds, r => (setv i (.val d) r).bind (setAll is ds)
  | _, _, _ => none
def setTg : Tg → D → St → Option St
  | .one i, d, r => setv i (.val d) r
  | .many is, .tup ds, r => setAll is ds r
  | _, _, _ => none
def wipeS : List Nat → St → St
  | [], r => r
  | v :: vs, r => (wipeS vs r).set v .no
/-- behind a comprehension: its own places hold what they held -/
def backS : List Nat → St → St → St
  | [], _, r => r
  | v :: vs, r0, r => (backS vs r0 r).set v (r0.getD v .no)
def rdv (i : Nat) (r : St) : R D := match r[i]? with
  | some (.val d) => .ok d r
  | some (.own l) => .ok (.lst l) (r.set i (.val (.lst l)))
  | _ => .bad
/-- read without freezing -/
def pkv (i : Nat) (r : St) : Option D := match r[i]? with
  | some (.val d) => some d
  | some (.own l) => some (.lst l)
  | some (.io l) => some (.lst l)
  | _ => none
def D.isNon : D → Bool
  | .non => true
  | _ => false
def tru (d : D) : Option Bool := match d with
  | .bl b => some b
  | _ => none
def compL (f : D → St → R (Option D)) : List D → List D → St → R (List D)
  | [], acc, r => .ok acc r
  | x :: xs, acc, r => match f x r with
    | .ok (some d) r' => if acc.length < LINE then compL f xs (acc ++ [d]) r' else .bad
    | .ok none r' => compL f xs acc r'
    | _ => .bad
def compB (t : Tg) (fc fe : St → R D) (ow : List Nat) (x : D) (r : St) : R (Option D) := match setTg t x r with
  | some r => (fc r).bind fun d r => (match d with
    | .bl true => (fe r).bind fun d r => .ok (some d) (wipeS ow r)
    | .bl false => .ok none (wipeS ow r)
    | _ => .bad)
  | none => .bad
def compR (fi : St → R (List D)) (t : Tg) (fc fe : St → R D) (ow : List Nat) (r : St) : R D :=
  (fi r).bind fun xs r1 => (compL (compB t fc fe ow) xs [] (wipeS ow r1)).bind fun l r' => .ok (.lst l) (backS ow r1 r')
/-- a list of the frame's own, or handed in -/
def iov (v : Nat) (r : St) : Option (List D) := match r[v]? with
  | some (.own x) => some x
  | some (.io x) => some x
  | _ => none
def setio (v : Nat) (o : List D) (r : St) : St := match r[v]? with
  | some (.own _) => r.set v (.own o)
  | some (.io _) => r.set v (.io o)
  | _ => r
def CR.val (c : CR) (r : St) : R D := match c with
  | .ret d _ => .ok d r
  | .exc x _ => .exc x r
  | .bad => .bad
def CR.valK (c : CR) (r : St) : R D := match c with
  | .ret d _ => .ok d r
  | _ => .bad
def CR.valio (c : CR) (v : Nat) (r : St) : R D := match c with
  | .ret d o => .ok d (setio v o r)
  | .exc x o => .exc x (setio v o r)
  | .bad => .bad
section
variable (C : Calls) (G : List D)
mutual
def ev : E → St → R D
  | .var i, r => rdv i r
  | .non, r => .ok .non r
  | .bl b, r => .ok (.bl b) r
  | .int i, r => .ok (.int i) r
  | .str s, r => .ok (.str s) r
  | .glo g, r => .of G[g]? r
  | .lst es, r => (evs es r).bind fun l r => if l.length ≤ LINE then .ok (.lst l) r else .bad
  | .tup es, r => (evs es r).bind fun l r => if l.length ≤ LINE then .ok (.tup l) r else .bad
  | .bin o a b, r => (ev a r).bind fun x r => (ev b r).bind fun y r => .of (o.g x y) r
  | .neg a, r => (ev a r).bind fun x r => match x with
    | .int i => .ok (.int (-i)) r
    | _ => .bad
  | .cmp c a b, r => (ev a r).bind fun x r => (ev b r).bind fun y r => .of ((c.f x y).map .bl) r
  | .cmp2 c c' a b d, r => (ev a r).bind fun x r => (ev b r).bind fun y r => match c.f x y with
    | some true => (ev d r).bind fun z r => .of ((c'.f y z).map .bl) r
    | some false => .ok (.bl false) r
    | none => .bad
  | .isN a, r => (ev a r).bind fun x r => .ok (.bl x.isNon) r
  | .notN a, r => (ev a r).bind fun x r => .ok (.bl !x.isNon) r
  | .isT a, r => (ev a r).bind fun x r => match x with
    | .bl b => .ok (.bl b) r
    | _ => .bad
  | .inn a b, r => (ev a r).bind fun x r => (ev b r).bind fun y r => .of ((inD x y).map .bl) r
  | .nin a b, r => (ev a r).bind fun x r => (ev b r).bind fun y r => .of ((inD x y).map fun b => .bl !b) r
  | .and a b, r => (ev a r).bind fun x r => match x with
    | .bl true => (ev b r).bind fun y r => .of ((tru y).map .bl) r
    | .bl false => .ok (.bl false) r
    | _ => .bad
  | .or a b, r => (ev a r).bind fun x r => match x with
    | .bl true => .ok (.bl true) r
    | .bl false => (ev b r).bind fun y r => .of ((tru y).map .bl) r
    | _ => .bad
  | .not a, r => (ev a r).bind fun x r => match x with
    | .bl b => .ok (.bl !b) r
    | _ => .bad
  | .ite c a b, r => (ev c r).bind fun x r => match x with
    | .bl true => ev a r
    | .bl false => ev b r
    | _ => .bad
  | .idx a i, r => (ev a r).bind fun x r => (ev i r).bind fun y r => .of (idxD x y) r
  | .idxv v i, r => if (pkv v r).isSome then (ev i r).bind fun y r => .of ((pkv v r).bind fun x => idxD x y) r else .bad
  | .sli a lo hi, r => (ev a r).bind fun x r => (evo lo r).bind fun l r => (evo hi r).bind fun h r => .of (sliD x l h) r
  | .rev a, r => (ev a r).bind fun x r => .of (revD x) r
  | .bi b es, r => (evs es r).bind fun l r => .of (b.g l) r
  | .lenv v, r => .of ((pkv v r).bind lenD) r
  | .isi a t, r => (ev a r).bind fun x r => .of ((isiD x t).map .bl) r
  | .mt m o e, r => (ev o r).bind fun x r => match x with
    | .str s => (ev e r).bind fun y r => .of (m.f s y) r
    | _ => .bad
  | .call f es, r => (evs es r).bind fun l r => (C f (l.map .val)).val r
  | .callio f v es, r => if (iov v r).isSome then (evs es r).bind fun l r => (match iov v r with
      | some x => (C f (.io x :: l.map .val)).valio v r
      | none => .bad) else .bad
  | .callk f es ks, r => (evs es r).bind fun l r => (C f (ks.map fun k => .val (l.getD k .non))).valK r
  | .dsub ks vs i, r => (ev i r).bind fun x r => match x with
    | .str s => .of (dlook ks vs s) r
    | _ => .bad
  | .dget ks vs i d, r => (ev i r).bind fun x r => (ev d r).bind fun y r => match x with
    | .str s => .ok ((dlook ks vs s).getD y) r
    | _ => .bad
  | .comp elt tg it cond own, r => compR (evi it) tg (evc cond) (ev elt) own r
def evs : List E → St → R (List D)
  | [], r => .ok [] r
  | e :: es, r => (ev e r).bind fun d r => (evs es r).bind fun l r => .ok (d :: l) r
def evo : Option E → St → R (Option Int)
  | none, r => .ok none r
  | some e, r => (ev e r).bind fun d r => match d with
    | .int i => .ok (some i) r
    | _ => .bad
def evc : Option E → St → R D
  | none, r => .ok (.bl true) r
  | some e, r => ev e r
def evi : I → St → R (List D)
  | .e e, r => (ev e r).bind fun d r => .of (itemsD d) r
  | .rng1 a, r => (ev a r).bind fun x r => .of (rng1 x) r
  | .rng2 a b, r => (ev a r).bind fun x r => (ev b r).bind fun y r => .of (rng2 x y) r
  | .rng3 a b, r => (ev a r).bind fun x r => (ev b r).bind fun y r => .of (rng3 x y) r
  | .enum e, r => (ev e r).bind fun d r => .of ((itemsD d).map (enumL 0)) r
  | .zip a b, r => (ev a r).bind fun x r => (ev b r).bind fun y r => .of ((itemsD x).bind fun xs => (itemsD y).map fun ys => zipL xs ys) r
end
end

/-! ### statements -/
inductive S where
  | set (i : Nat) (e : E) | own (i : Nat) (e : E) | setT (is : List Nat) (e : E) | par (i j : Nat) (a b : E)
  | aug (i : Nat) (o : Op) (e : E)
  | exp (e : E) | ret (e : E) | retN | pass | brk | cont
  | cond (c : E) (a b : List S)
  | loop (tg : Tg) (it : I) (b : List S)
  | whil (c : E) (b : List S)
  | app (v : Nat) (e : E) | put (v : Nat) (i e : E)
  | rais (c : Nat) (es : List E) | bad
inductive F where
  | nx (r : St) | rt (d : D) (r : St) | bk (r : St) | ct (r : St) | exc (x : D) (r : St) | bad
def R.fl {α : Type} (x : R α) (f : α → St → F) : F := match x with
  | .ok a r => f a r
  | .exc x r => .exc x r
  | .bad => .bad
@[simp] theorem R.fl_ok {α : Type} (a : α) (r : St) (f : α → St → F) : (R.ok a r).fl f = f a r := rfl
@[simp] theorem R.fl_exc {α : Type} (x : D) (r : St) (f : α → St → F) : (R.exc x r : R α).fl f = .exc x r := rfl
@[simp] theorem R.fl_bad {α : Type} (f : α → St → F) : (R.bad : R α).fl f = .bad := rfl
def F.then (x : F) (f : St → F) : F := match x with
  | .nx r => f r
  | x => x
@[simp] theorem F.then_nx (r : St) (f : St → F) : (F.nx r).then f = f r := rfl
@[simp] theorem F.then_rt (d : D) (r : St) (f : St → F) : (F.rt d r).then f = .rt d r := rfl
@[simp] theorem F.then_bk (r : St) (f : St → F) : (F.bk r).then f = .bk r := rfl
@[simp] theorem F.then_ct (r : St) (f : St → F) : (F.ct r).then f = .ct r := rfl
@[simp] theorem F.then_exc (x : D) (r : St) (f : St → F) : (F.exc x r).then f = .exc x r := rfl
@[simp] theorem F.then_bad (f : St → F) : F.bad.then f = .bad := rfl
def forL (b : St → F) (tg : Tg) : List D → St → F
  | [], r => .nx r
  | x :: xs, r => match setTg tg x r with
    | some r => (match b r with
      | .nx r => forL b tg xs r
      | .ct r => forL b tg xs r
      | .bk r => .nx r
      | x => x)
    | none => .bad
def whileL (c : St → R D) (b : St → F) : Nat → St → F
  | 0, _ => .bad
  | n + 1, r => (c r).fl fun d r => match d with
    | .bl true => (match b r with
      | .nx r => whileL c b n r
      | .ct r => whileL c b n r
      | .bk r => .nx r
      | x => x)
    | .bl false => .nx r
    | _ => .bad
def TURNS : Nat := 1000000
section
variable (C : Calls) (G : List D)
mutual
def ex : S → St → F
  | .set i e, r => (ev C G e r).fl fun d r => match setv i (.val d) r with
    | some r => .nx r
    | none => .bad
  | .own i e, r => (ev C G e r).fl fun d r => match d with
    | .lst l => (match setv i (.own l) r with
      | some r => .nx r
      | none => .bad)
    | _ => .bad
  | .setT is e, r => (ev C G e r).fl fun d r => match setTg (.many is) d r with
    | some r => .nx r
    | none => .bad
  | .par i j a b, r => (ev C G a r).fl fun x r => (ev C G b r).fl fun y r => match (setv i (.val x) r).bind (setv j (.val y)) with
    | some r => .nx r
    | none => .bad
  | .aug i o e, r => match r[i]? with
    | some (.val x) => (ev C G e r).fl fun y r => (match (augD o x y).bind fun d => setv i (.val d) r with
      | some r => .nx r
      | none => .bad)
    | _ => .bad
  | .exp e, r => (ev C G e r).fl fun _ r => .nx r
  | .ret e, r => (ev C G e r).fl fun d r => .rt d r
  | .retN, r => .rt .non r
  | .pass, r => .nx r
  | .brk, r => .bk r
  | .cont, r => .ct r
  | .cond c a b, r => (ev C G c r).fl fun d r => match d with
    | .bl true => exs a r
    | .bl false => exs b r
    | _ => .bad
  | .loop tg it b, r => (evi C G it r).fl fun xs r => forL (exs b) tg xs r
  | .whil c b, r => whileL (ev C G c) (exs b) TURNS r
  | .app v e, r => if (iov v r).isSome then (ev C G e r).fl fun d r => (match r[v]? with
    | some (.own l) => if l.length < LINE then .nx (r.set v (.own (l ++ [d]))) else .bad
    | some (.io l) => if l.length < LINE then .nx (r.set v (.io (l ++ [d]))) else .bad
    | _ => .bad) else .bad
  | .put v i e, r => (ev C G e r).fl fun d r => if (iov v r).isSome then (ev C G i r).fl fun k r => (match k with
    | .int k => (match r[v]? with
      | some (.own l) => if 0 ≤ k ∧ k < l.length then .nx (r.set v (.own (l.set k.toNat d))) else .bad
      | some (.io l) => if 0 ≤ k ∧ k < l.length then .nx (r.set v (.io (l.set k.toNat d))) else .bad
      | _ => .bad)
    | _ => .bad) else .bad
  | .bad, r => .bad
  | .rais c es, r => (evs C G es r).fl fun l r => .exc (.exc c l) r
def exs : List S → St → F
  | [], r => .nx r
  | s :: ss, r => (ex s r).then (exs ss)
end
end

/-! ### defs -/
structure Fn where
  np : Nat
  nl : Nat
  body : List S
/-- the list handed in, behind the call -/
def outOf (as : List Slot) (r : St) : Option (List D) := match as with
  | .io _ :: _ => (match r with
    | .io x :: _ => some x
    | _ => none)
  | _ => some []
def runFn (C : Calls) (G : List D) (f : Fn) (as : List Slot) : CR :=
  if as.length = f.np then (match exs C G f.body (as ++ List.replicate (f.nl - f.np) .no) with
    | .nx r => (match outOf as r with | some o => .ret .non o | none => .bad)
    | .rt d r => (match outOf as r with | some o => .ret d o | none => .bad)
    | .exc x r => (match outOf as r with | some o => .exc x o | none => .bad)
    | _ => .bad) else .bad
structure Prog where
  fns : List Fn
  glo : List D
def callN (P : Prog) : Nat → Calls
  | 0, _, _ => .bad
  | n + 1, f, as => match P.fns[f]? with
    | some fn => runFn (callN P n) P.glo fn as
    | none => .bad
end Z

/-! Z2: what the evaluator's data are in the abstract heap; the readings made of it -/
namespace Z
open PySem PySem.Spec PyProof.Rows L2

/-! ### data in the heap; F: the part of the heap that never changes -/
def SV (s : List Nat) : V := .str ⟨s.toArray⟩
def SOk (s : List Nat) : Prop := s.all (· < 0x110000) = true ∧ s.length ≤ LINE
mutual
def Rep (K : PySem.W.Frag) (F : Hp) : D → V → Prop
  | .non, v => v = .non
  | .bl b, v => v = .bl b
  | .int i, v => v = .int i
  | .str s, v => v = SV s ∧ SOk s
  | .lst l, v => ∃ a vs, v = .ref a ∧ SqL K F a vs ∧ Reps K F l vs
  | .tup l, v => ∃ a vs, v = .ref a ∧ SqT K F a vs ∧ Reps K F l vs
  | .exc _ _, _ => False
def Reps (K : PySem.W.Frag) (F : Hp) : List D → List V → Prop
  | [], vs => vs = []
  | d :: ds, vs => ∃ v r, vs = v :: r ∧ Rep K F d v ∧ Reps K F ds r
end
theorem LINE_eq : LINE = sizeLine := by rw [sizeLine_eq]; rfl
theorem SqL.mono {K : PySem.W.Frag} {F F' : Hp} {a : Addr} {vs : List V} (h : Same F F') (q : SqL K F a vs) : SqL K F' a vs := by
  rcases q with q | q
  · rcases q with q | ⟨o, q⟩
    · exact .inl (.inl (h _ _ q))
    · exact .inl (.inr ⟨o, h _ _ q⟩)
  · exact .inr q
theorem SqT.mono {K : PySem.W.Frag} {F F' : Hp} {a : Addr} {vs : List V} (h : Same F F') (q : SqT K F a vs) : SqT K F' a vs := by
  rcases q with q | q
  · rcases q with q | ⟨o, q⟩
    · exact .inl (.inl (h _ _ q))
    · exact .inl (.inr ⟨o, h _ _ q⟩)
  · exact .inr q
mutual
theorem Rep.mono {K : PySem.W.Frag} {F F' : Hp} (h : Same F F') : ∀ {d : D} {v : V}, Rep K F d v → Rep K F' d v
  | .non, _, r => by simpa only [Rep] using r
  | .bl _, _, r => by simpa only [Rep] using r
  | .int _, _, r => by simpa only [Rep] using r
  | .str _, _, r => by simpa only [Rep] using r
  | .exc _ _, _, r => by simp only [Rep] at r
  | .lst l, v, r => by
    simp only [Rep] at r ⊢
    obtain ⟨a, vs, e, q, z⟩ := r
    exact ⟨a, vs, e, SqL.mono h q, Reps.mono h z⟩
  | .tup l, v, r => by
    simp only [Rep] at r ⊢
    obtain ⟨a, vs, e, q, z⟩ := r
    exact ⟨a, vs, e, SqT.mono h q, Reps.mono h z⟩
theorem Reps.mono {K : PySem.W.Frag} {F F' : Hp} (h : Same F F') : ∀ {ds : List D} {vs : List V}, Reps K F ds vs → Reps K F' ds vs
  | [], _, r => by simpa only [Reps] using r
  | d :: ds, _, r => by
    simp only [Reps] at r ⊢
    obtain ⟨v, w, e, q, z⟩ := r
    exact ⟨v, w, e, Rep.mono h q, Reps.mono h z⟩
end
section
variable {K : PySem.W.Frag} {F : Hp}
theorem Reps.nil : Reps K F [] [] := by simp only [Reps]
theorem Reps.cons {d : D} {ds : List D} {v : V} {vs : List V} (h : Rep K F d v) (t : Reps K F ds vs) : Reps K F (d :: ds) (v :: vs) := by
  simp only [Reps]
  exact ⟨v, vs, rfl, h, t⟩
theorem Reps.length : ∀ {ds : List D} {vs : List V}, Reps K F ds vs → ds.length = vs.length
  | [], _, r => by simp only [Reps] at r; rw [r]; rfl
  | d :: ds, _, r => by
    simp only [Reps] at r
    obtain ⟨v, w, rfl, q, z⟩ := r
    simp [Reps.length z]
theorem Reps.get : ∀ {ds : List D} {vs : List V} {i : Nat} {d : D}, Reps K F ds vs → ds[i]? = some d → ∃ v, vs[i]? = some v ∧ Rep K F d v
  | [], _, _, _, _, e => by simp at e
  | d :: ds, _, i, x, r, e => by
    simp only [Reps] at r
    obtain ⟨v, w, rfl, q, z⟩ := r
    cases i with
    | zero => simp at e; subst e; exact ⟨v, rfl, q⟩
    | succ i => exact Reps.get (i := i) z (by simpa using e)
theorem Reps.set : ∀ {ds : List D} {vs : List V} {i : Nat} {d : D} {v : V}, Reps K F ds vs → Rep K F d v → Reps K F (ds.set i d) (vs.set i v)
  | [], _, _, _, _, r, _ => by simp only [Reps] at r; rw [r]; simp [Reps]
  | x :: ds, _, i, d, v, r, h => by
    simp only [Reps] at r
    obtain ⟨y, w, rfl, q, z⟩ := r
    cases i with
    | zero => exact Reps.cons h z
    | succ i => exact Reps.cons q (Reps.set z h)
theorem Reps.append : ∀ {ds es : List D} {vs ws : List V}, Reps K F ds vs → Reps K F es ws → Reps K F (ds ++ es) (vs ++ ws)
  | [], _, _, _, r, s => by simp only [Reps] at r; subst r; simpa using s
  | d :: ds, es, _, ws, r, s => by
    simp only [Reps] at r
    obtain ⟨v, w, rfl, q, z⟩ := r
    exact Reps.cons q (Reps.append z s)
theorem Reps.take : ∀ {ds : List D} {vs : List V} (n : Nat), Reps K F ds vs → Reps K F (ds.take n) (vs.take n)
  | _, _, 0, _ => by simp [Reps]
  | [], _, n + 1, r => by simp only [Reps] at r; subst r; simp [Reps]
  | d :: ds, _, n + 1, r => by
    simp only [Reps] at r
    obtain ⟨v, w, rfl, q, z⟩ := r
    exact Reps.cons q (Reps.take n z)
theorem Reps.drop : ∀ {ds : List D} {vs : List V} (n : Nat), Reps K F ds vs → Reps K F (ds.drop n) (vs.drop n)
  | _, _, 0, r => by simpa using r
  | [], _, n + 1, r => by simp only [Reps] at r; subst r; simp [Reps]
  | d :: ds, _, n + 1, r => by
    simp only [Reps] at r
    obtain ⟨v, w, rfl, q, z⟩ := r
    simpa using Reps.drop n z
theorem Reps.reverse : ∀ {ds : List D} {vs : List V}, Reps K F ds vs → Reps K F ds.reverse vs.reverse
  | [], _, r => by simp only [Reps] at r; subst r; simp [Reps]
  | d :: ds, _, r => by
    simp only [Reps] at r
    obtain ⟨v, w, rfl, q, z⟩ := r
    rw [List.reverse_cons, List.reverse_cons]
    exact Reps.append (Reps.reverse z) (Reps.cons q Reps.nil)
theorem Reps.flat : ∀ {ds : List D} {vs : List V} (k : Nat), Reps K F ds vs → Reps K F (rep ds k) (List.replicate k vs).flatten
  | _, _, 0, _ => by simp [rep, Reps]
  | ds, vs, k + 1, r => by
    have := Reps.append r (Reps.flat k r)
    simpa [rep, List.replicate_succ] using this
end

/-! ### a frame's places -/
def ownL : Option Slot → Option (List D)
  | some (.own l) => some l
  | some (.io l) => some l
  | _ => none
def Own (r : St) (σ : L2.St) (b : Addr) : Prop := ∃ (i : Nat) (l : List D), ownL r[i]? = some l ∧ σ[i]? = some (some (V.ref b))
structure Rp (K : PySem.W.Frag) (r : St) (σ : L2.St) (H F : Hp) : Prop where
  len : r.length = σ.length
  sub : Same F H
  val : ∀ (i : Nat) d, r[i]? = some (Slot.val d) → ∃ v, σ[i]? = some (some v) ∧ Rep K F d v
  own : ∀ (i : Nat) l, ownL r[i]? = some l → ∃ a vs, σ[i]? = some (some (V.ref a)) ∧ H a = some (.lst vs) ∧ F a = none ∧ Reps K F l vs
  apart : ∀ (i j : Nat) l m a, ownL r[i]? = some l → ownL r[j]? = some m → σ[i]? = some (some (V.ref a)) → σ[j]? = some (some (V.ref a)) → i = j
/-- what an expression does to the frame and the heap -/
structure Ps (K : PySem.W.Frag) (r r' : St) (σ : L2.St) (H F H' F' : Hp) : Prop where
  rp : Rp K r' σ H' F'
  f : Same F F'
  h : ∀ b o, H b = some o → ¬ Own r σ b → H' b = some o
  n : ∀ b o, H b = some o → ¬ Own r σ b → F b = none → F' b = none
  sub : ∀ (i : Nat) l, ownL r'[i]? = some l → ∃ l', ownL r[i]? = some l'
  io : ∀ (i : Nat) l, r[i]? = some (Slot.io l) → ∃ l', r'[i]? = some (Slot.io l')
section
variable {K : PySem.W.Frag} {r r' r1 r2 : St} {σ : L2.St} {H F H1 F1 H2 F2 : Hp}
theorem Ps.refl (p : Rp K r σ H F) : Ps K r r σ H F H F := ⟨p, fun _ _ e => e, fun _ _ e _ => e, fun _ _ _ _ e => e, fun _ l e => ⟨l, e⟩, fun _ l e => ⟨l, e⟩⟩
theorem Ps.ownSub (p : Ps K r r1 σ H F H1 F1) {b : Addr} (h : Own r1 σ b) : Own r σ b := by
  obtain ⟨i, l, e, z⟩ := h
  obtain ⟨l', e'⟩ := p.sub i l e
  exact ⟨i, l', e', z⟩
theorem Ps.trans (p : Ps K r r1 σ H F H1 F1) (q : Ps K r1 r2 σ H1 F1 H2 F2) : Ps K r r2 σ H F H2 F2 where
  rp := q.rp
  f := p.f.trans q.f
  h := fun b o e n => q.h b o (p.h b o e n) fun z => n (p.ownSub z)
  n := fun b o e n z => q.n b o (p.h b o e n) (fun z => n (p.ownSub z)) (p.n b o e n z)
  sub := fun i l e => let ⟨l1, e1⟩ := q.sub i l e; p.sub i l1 e1
  io := fun i l e => let ⟨l1, e1⟩ := p.io i l e; q.io i l1 e1
theorem Rp.ownNo (p : Rp K r σ H F) {b : Addr} (h : Own r σ b) : F b = none ∧ ∃ vs, H b = some (.lst vs) := by
  obtain ⟨i, l, e, z⟩ := h
  obtain ⟨a, vs, e1, e2, e3, _⟩ := p.own i l e
  rw [z] at e1
  cases e1
  exact ⟨e3, vs, e2⟩
theorem Same.upd {H : Hp} {a : Addr} {o : HO} (h : H a = none) : Same H (upd H a o) := fun b u e => by rw [upd_ne (ne_of_none e h)]; exact e
/-- a new object, frozen at once -/
theorem Rp.new (p : Rp K r σ H F) {a : Addr} {o : HO} (h : H a = none) : Ps K r r σ H F (upd H a o) (upd F a o) := by
  have hF : F a = none := p.sub.free h
  refine ⟨⟨p.len, fun b u e => ?_, fun i d e => ?_, fun i l e => ?_, p.apart⟩, Same.upd hF, fun b u e _ => Same.upd h b u e, fun b u e _ n => ?_, fun i l e => ⟨l, e⟩, fun i l e => ⟨l, e⟩⟩
  · by_cases hb : b = a
    · subst hb; rw [upd_same] at e ⊢; exact e
    · rw [upd_ne hb] at e ⊢; exact p.sub b u e
  · obtain ⟨v, e1, q⟩ := p.val i d e
    exact ⟨v, e1, q.mono (Same.upd hF)⟩
  · obtain ⟨b, vs, e1, e2, e3, q⟩ := p.own i l e
    have hb : b ≠ a := ne_of_none e2 h
    exact ⟨b, vs, e1, by rw [upd_ne hb]; exact e2, by rw [upd_ne hb]; exact e3, q.mono (Same.upd hF)⟩
  · rw [upd_ne (ne_of_none e h)]; exact n
end

/-! ### an error's form; what is wanted -/
/-- an error: its class, its own dict -/
def RepX (K : PySem.W.Frag) (ca : Nat → Addr) (H F : Hp) : D → Value → Option Addr → Prop
  | .exc c [], cls, dd => cls = .ref (ca c) ∧ dd = none
  | _, _, _ => False
abbrev Rl (α β : Type) := Hp → α → β → Prop
def Fi {α β : Type} (K : PySem.W.Frag) (ca : Nat → Addr) (W : WX) (rel : Rl α β) (x : R α) (r : St) (σ : L2.St) (H F : Hp) (Q : β → Hp → Prop) : Prop := match x with
  | .ok d r' => ∀ v H' F', Ps K r r' σ H F H' F' → rel F' d v → Q v H'
  | .exc e r' => ∀ cls dd H' F', Ps K r r' σ H F H' F' → RepX K ca H' F' e cls dd → W cls dd σ H'
  | .bad => False
def tE (K : PySem.W.Frag) (ca : Nat → Addr) (W : WX) (f : St → R D) : TE := fun σ H Q => ∃ r F, Rp K r σ H F ∧ Fi K ca W (Rep K) (f r) r σ H F Q
def tAs (K : PySem.W.Frag) (ca : Nat → Addr) (W : WX) (f : St → R (List D)) : TA := fun σ H Q => ∃ r F, Rp K r σ H F ∧ Fi K ca W (Reps K) (f r) r σ H F Q
section
variable {K : PySem.W.Frag} {ca : Nat → Addr} {W : WX} {α β γ δ : Type} {ra : Rl α β} {rc : Rl γ δ} {x : R α} {g : α → St → R γ} {r r1 : St} {σ : L2.St} {H F H1 F1 : Hp} {Q : δ → Hp → Prop} {Q1 : β → Hp → Prop}
theorem Fi.shift (p : Ps K r r1 σ H F H1 F1) {y : R γ} (h : Fi K ca W rc y r σ H F Q) : Fi K ca W rc y r1 σ H1 F1 Q := by
  cases y with
  | ok d r2 => exact fun v H' F' q e => h v H' F' (p.trans q) e
  | exc e r2 => exact fun c dd H' F' q z => h c dd H' F' (p.trans q) z
  | bad => exact h
theorem Fi.step (h : Fi K ca W rc (x.bind g) r σ H F Q) (k : ∀ d r1 v H1 F1, Ps K r r1 σ H F H1 F1 → ra F1 d v → Fi K ca W rc (g d r1) r1 σ H1 F1 Q → Q1 v H1) : Fi K ca W ra x r σ H F Q1 := by
  cases x with
  | ok d r1 => exact fun v H1 F1 p e => k d r1 v H1 F1 p e (Fi.shift p h)
  | exc e r1 => exact h
  | bad => exact h
theorem PE.weak {X : Cx} {e : Expr} {t t' : TE} (h : PE X e t) (w : ∀ σ H Q, t' σ H Q → t σ H Q) : PE X e t' := ⟨fun pins s σ H Q I q => h.run pins s σ H Q I (w σ H Q q)⟩
theorem PA.weak {X : Cx} {e : List Expr} {t t' : TA} (h : PA X e t) (w : ∀ σ H Q, t' σ H Q → t σ H Q) : PA X e t' := ⟨fun pos pins s σ H Q I q => h.run pos pins s σ H Q I (w σ H Q q)⟩
theorem PT.weak {X : Cx} {e : Expr} {t t' : TT} (h : PT X e t) (w : ∀ σ H Q, t' σ H Q → t σ H Q) : PT X e t' := ⟨fun pins s σ H Q I q => h.run pins s σ H Q I (w σ H Q q)⟩
end
end Z

/-! Z3: each expression of the core does what the evaluator says -/
namespace Z
open PySem PySem.Spec PyProof.Rows L2 TL

section
variable {K : PySem.W.Frag} {F H : Hp}
theorem Rep.str_iff {s : List Nat} {v : V} : Rep K F (.str s) v ↔ v = SV s ∧ SOk s := by simp only [Rep]
theorem Rep.int_iff {i : Int} {v : V} : Rep K F (.int i) v ↔ v = .int i := by simp only [Rep]
theorem Rep.bl_iff {i : Bool} {v : V} : Rep K F (.bl i) v ↔ v = .bl i := by simp only [Rep]
theorem Rep.non_iff {v : V} : Rep K F .non v ↔ v = .non := by simp only [Rep]
theorem Rep.lst_iff {l : List D} {v : V} : Rep K F (.lst l) v ↔ ∃ a vs, v = .ref a ∧ SqL K F a vs ∧ Reps K F l vs := by simp only [Rep]
theorem Rep.tup_iff {l : List D} {v : V} : Rep K F (.tup l) v ↔ ∃ a vs, v = .ref a ∧ SqT K F a vs ∧ Reps K F l vs := by simp only [Rep]
theorem SOk.len {s : List Nat} (h : SOk s) : s.length ≤ sizeLine := by rw [← LINE_eq]; exact h.2
theorem SOk.app {s t : List Nat} (h : SOk s) (g : SOk t) (l : s.length + t.length ≤ LINE) : SOk (s ++ t) := ⟨by rw [List.all_append, h.1, g.1]; rfl, by rw [List.length_append]; exact l⟩
theorem mk_app (s t : List Nat) : (⟨s.toArray⟩ : Str) ++ ⟨t.toArray⟩ = ⟨(s ++ t).toArray⟩ := by
  apply ext_tl
  rw [tl_append, tl_mk, tl_mk, tl_mk]
theorem len_mk (s : List Nat) : (⟨s.toArray⟩ : Str).length = s.length := by rw [len_tl, tl_mk]
/-- a value that is read: data, or a list of the frame's own -/
def RepH (K : PySem.W.Frag) (F H : Hp) (d : D) (w : V) : Prop := Rep K F d w ∨ ∃ l a vs, d = .lst l ∧ w = .ref a ∧ H a = some (.lst vs) ∧ Reps K F l vs
theorem RepH.lst {l : List D} {w : V} (h : RepH K F H (.lst l) w) (s : Same F H) : ∃ a vs, w = .ref a ∧ SqL K H a vs ∧ Reps K F l vs := by
  rcases h with h | ⟨l', a, vs, e, e2, e3, q⟩
  · obtain ⟨a, vs, e, q, z⟩ := Rep.lst_iff.mp h
    exact ⟨a, vs, e, SqL.mono s q, z⟩
  · cases e
    exact ⟨a, vs, e2, SqL.of e3, q⟩
theorem RepH.of_notL {d : D} {w : V} (h : RepH K F H d w) (n : ∀ l, d ≠ .lst l) : Rep K F d w := by
  rcases h with h | ⟨l, a, vs, e, _⟩
  · exact h
  · exact absurd e (n l)
end

section
variable {K : PySem.W.Frag} {r : St} {σ : L2.St} {H F : Hp}
theorem Rp.pk (p : Rp K r σ H F) {i : Nat} {d : D} (h : pkv i r = some d) : ∃ w, σ[i]? = some (some w) ∧ RepH K F H d w := by
  unfold pkv at h
  split at h
  · rename_i d' e
    cases h
    obtain ⟨v, e1, q⟩ := p.val i _ e
    exact ⟨v, e1, .inl q⟩
  · rename_i l e
    cases h
    obtain ⟨a, vs, e1, e2, e3, q⟩ := p.own i l (by rw [e]; rfl)
    exact ⟨_, e1, .inr ⟨l, a, vs, rfl, rfl, e2, q⟩⟩
  · rename_i l e
    cases h
    obtain ⟨a, vs, e1, e2, e3, q⟩ := p.own i l (by rw [e]; rfl)
    exact ⟨_, e1, .inr ⟨l, a, vs, rfl, rfl, e2, q⟩⟩
  · cases h
/-- a list of the frame's own is shared from now on -/
theorem Rp.freeze (p : Rp K r σ H F) {i : Nat} {l : List D} {a : Addr} {vs : List V} (h : r[i]? = some (Slot.own l)) (hs : σ[i]? = some (some (V.ref a))) (hH : H a = some (.lst vs)) (hF : F a = none) (q : Reps K F l vs) :
    Ps K r (r.set i (.val (.lst l))) σ H F H (upd F a (.lst vs)) := by
  have hi : i < r.length := (List.getElem?_eq_some_iff.mp h).1
  have hne : ∀ j m, j ≠ i → ownL r[j]? = some m → ∀ b, σ[j]? = some (some (V.ref b)) → b ≠ a := fun j m hj e b eb z => by
    subst z
    exact hj (p.apart j i m l b e (by rw [h]; rfl) eb hs)
  refine ⟨⟨by rw [List.length_set]; exact p.len, fun b u e => ?_, fun j d e => ?_, fun j m e => ?_, fun j k m n b e1 e2 => ?_⟩, Same.upd hF, fun _ _ e _ => e, fun b o e no n => ?_, fun j m e => ?_, fun j m e => ?_⟩
  · by_cases hb : b = a
    · subst hb; rw [upd_same] at e; rw [hH]; exact e
    · rw [upd_ne hb] at e; exact p.sub b u e
  · by_cases hj : j = i
    · subst hj
      rw [List.getElem?_set_self hi] at e
      cases e
      exact ⟨_, hs, Rep.lst_iff.mpr ⟨a, vs, rfl, SqL.of upd_same, q.mono (Same.upd hF)⟩⟩
    · rw [List.getElem?_set_ne (Ne.symm hj)] at e
      obtain ⟨v, e1, z⟩ := p.val j d e
      exact ⟨v, e1, z.mono (Same.upd hF)⟩
  · by_cases hj : j = i
    · subst hj
      rw [List.getElem?_set_self hi] at e
      cases e
    · rw [List.getElem?_set_ne (Ne.symm hj)] at e
      obtain ⟨b, ws, e1, e2, e3, z⟩ := p.own j m e
      exact ⟨b, ws, e1, e2, by rw [upd_ne (hne j m hj e b e1)]; exact e3, z.mono (Same.upd hF)⟩
  · have hj : j ≠ i := fun z => by
      subst z
      rw [List.getElem?_set_self hi] at e1
      cases e1
    have hk : k ≠ i := fun z => by
      subst z
      rw [List.getElem?_set_self hi] at e2
      cases e2
    rw [List.getElem?_set_ne (Ne.symm hj)] at e1
    rw [List.getElem?_set_ne (Ne.symm hk)] at e2
    exact p.apart j k m n b e1 e2
  · have hb : b ≠ a := fun z => no ⟨i, l, by rw [h]; rfl, by rw [z]; exact hs⟩
    rw [upd_ne hb]
    exact n
  · by_cases hj : j = i
    · subst hj
      exact ⟨l, by rw [h]; rfl⟩
    · rw [List.getElem?_set_ne (Ne.symm hj)] at e
      exact ⟨m, e⟩
  · by_cases hj : j = i
    · subst hj
      rw [h] at e
      cases e
    · rw [List.getElem?_set_ne (Ne.symm hj)]
      exact ⟨m, e⟩
end

/-- the context of an expression: nothing is being handled, room for calls -/
structure Ck (X : Cx) (n : Nat) : Prop where
  calm : X.calm = true
  nd : X.N.Nodup
  room : Room n X.A
section
variable {X : Cx} {ca : Nat → Addr} {W : WX} {pos : Pos} {C : Calls} {G : List D}
abbrev QE (X : Cx) (ca : Nat → Addr) (W : WX) (e : Expr) (f : St → R D) : Prop := PE X e (tE X.K ca W f)
abbrev QA (X : Cx) (ca : Nat → Addr) (W : WX) (es : List Expr) (f : St → R (List D)) : Prop := PA X es (tAs X.K ca W f)
theorem q_var {i : Nat} {x : Str} (hN : X.N[i]? = some x) (hv : Vis X.env.scope x) (hd : (x == ("__debug__" : Str)) = false) (hcd : (x == ("__classdict__" : Str)) = false) : QE X ca W (.Name x pos) (rdv i) := by
  refine PE.weak (pe_var hN hv hd hcd) fun σ H Q ⟨r, F, p, h⟩ => ?_
  unfold rdv at h
  split at h
  · rename_i d e
    obtain ⟨v, e1, q⟩ := p.val i d e
    exact ⟨v, e1, h v H F (Ps.refl p) q⟩
  · rename_i l e
    obtain ⟨a, vs, e1, e2, e3, q⟩ := p.own i l (by rw [e]; rfl)
    exact ⟨_, e1, h _ H _ (p.freeze e e1 e2 e3 q) (Rep.lst_iff.mpr ⟨a, vs, rfl, SqL.of upd_same, q.mono (Same.upd e3)⟩)⟩
  · exact h.elim
/-- a constant -/
theorem q_con {e : Expr} {v : V} {d : D} (h : PE X e (tC v)) (hr : ∀ F, Rep X.K F d v) : QE X ca W e (fun r => .ok d r) :=
  PE.weak h fun σ H Q ⟨r, F, p, h⟩ => h v H F (Ps.refl p) (hr F)
theorem q_none {j : Nat} : QE X ca W (.Constant .none j pos) (fun r => .ok .non r) := q_con pe_non fun _ => Rep.non_iff.mpr rfl
theorem q_bool {b : Bool} {j : Nat} : QE X ca W (.Constant (.bool b) j pos) (fun r => .ok (.bl b) r) := q_con pe_bl fun _ => Rep.bl_iff.mpr rfl
theorem q_int {i : Int} {j : Nat} : QE X ca W (.Constant (.int i) j pos) (fun r => .ok (.int i) r) := q_con pe_int fun _ => Rep.int_iff.mpr rfl
theorem q_str {x : Str} {s : List Nat} {j : Nat} (h : x = ⟨s.toArray⟩) (hs : SOk s) : QE X ca W (.Constant (.str x) j pos) (fun r => .ok (.str s) r) := by
  subst h
  exact q_con pe_str fun _ => Rep.str_iff.mpr ⟨rfl, hs⟩

/-! #### lists of expressions -/
def noStar : Expr → Bool
  | .Starred _ _ => false
  | _ => true
theorem star_cons {e : Expr} {es : List Expr} {env : Env} (h : noStar e = true) : starEach (e :: es) env = (false, eval e env) :: starEach es env := by
  cases e <;> first | rfl | cases h
theorem star_any {es : List Expr} {env : Env} (h : es.all noStar = true) : (backTo pos (starEach es env)).any (·.1) = false := by
  induction es with
  | nil => rfl
  | cons e es ih =>
    simp only [List.all_cons, Bool.and_eq_true] at h
    rw [star_cons h.1]
    show (false || (backTo pos (starEach es env)).any (·.1)) = false
    rw [ih h.2]
    rfl
theorem qa_nil : QA X ca W [] (fun r => .ok [] r) := PA.weak pa_nil fun σ H Q ⟨r, F, p, h⟩ => h [] H F (Ps.refl p) Reps.nil
theorem qa_cons {e : Expr} {es : List Expr} {f : St → R D} {g : St → R (List D)} (h1 : QE X ca W e f) (h2 : QA X ca W es g) (hn : noStar e = true) :
    QA X ca W (e :: es) (fun r => (f r).bind fun d r => (g r).bind fun l r => .ok (d :: l) r) := by
  refine PA.weak (pa_cons h1 h2 (star_cons hn)) fun σ H Q ⟨r, F, p, h⟩ => ⟨r, F, p, h.step fun d r1 v H1 F1 p1 q1 h => ⟨r1, F1, p1.rp, h.step fun l r2 vs H2 F2 p2 q2 h => ?_⟩⟩
  exact h (v :: vs) H2 F2 (Ps.refl p2.rp) (Reps.cons (q1.mono p2.f) q2)
theorem q_lst {es : List Expr} {g : St → R (List D)} (h : QA X ca W es g) : QE X ca W (.List es pos) (fun r => (g r).bind fun l r => if l.length ≤ LINE then .ok (.lst l) r else .bad) := by
  refine PE.weak (pe_lst h) fun σ H Q ⟨r, F, p, h⟩ => ⟨r, F, p, h.step fun l r1 vs H1 F1 p1 q1 h => ?_⟩
  split at h
  · rename_i hl
    refine ⟨by rw [← q1.length, ← LINE_eq]; exact hl, fun a ha => ?_⟩
    have hn := p1.rp.new (o := .lst vs) ha
    exact h (.ref a) _ _ hn (Rep.lst_iff.mpr ⟨a, vs, rfl, SqL.of upd_same, q1.mono hn.f⟩)
  · exact h.elim
theorem q_tup {es : List Expr} {g : St → R (List D)} {k : Nat} (h : QA X ca W es g) : QE X ca W (.Tuple es k pos) (fun r => (g r).bind fun l r => if l.length ≤ LINE then .ok (.tup l) r else .bad) := by
  refine PE.weak (pe_tup h) fun σ H Q ⟨r, F, p, h⟩ => ⟨r, F, p, h.step fun l r1 vs H1 F1 p1 q1 h => ?_⟩
  split at h
  · rename_i hl
    refine ⟨by rw [← q1.length, ← LINE_eq]; exact hl, fun a ha => ?_⟩
    have hn := p1.rp.new (o := .tup vs) ha
    exact h (.ref a) _ _ hn (Rep.tup_iff.mpr ⟨a, vs, rfl, SqT.of upd_same, q1.mono hn.f⟩)
  · exact h.elim
end

/-! #### operators -/
section
variable {X : Cx}
/-- list + list, whatever stands at them -/
def rCatG (K : PySem.W.Frag) : R2 := fun x y H Q => ∃ l b xs zs, x = .ref l ∧ y = .ref b ∧ SqL K H l xs ∧ SqL K H b zs ∧ xs.length + zs.length ≤ sizeLine ∧ ∀ p, H p = none → Q (.ref p) (upd H p (.lst (xs ++ zs)))
theorem op_catG : OpR X (binaryOp .Add) (rCatG X.K) := by
  intro pins s σ H x y v u Q I rx ry h
  obtain ⟨l, b, xs, zs, rfl, rfl, hH, hB, hz, q⟩ := h
  cases rx
  cases ry
  obtain ⟨its, rv, ⟨⟨c1, d1, t1, sl1⟩, n, e, hc, hd, ht⟩, z⟩ := I.list hH
  obtain ⟨its2, rv2, ⟨⟨c2, d2, t2, sl2⟩, n2, e2, hc2, hd2, ht2⟩, z2⟩ := I.list hB
  simp only at hc hd ht hc2 hd2 ht2
  subst hc hd ht hc2 hd2 ht2
  have hs : its.toArray.size + its2.toArray.size ≤ sizeLine := by
    rw [List.size_toArray, List.size_toArray, ← rv.length, ← rv2.length]
    exact hz
  refine PySem.concat_meets ⟨_, e, rfl⟩ ⟨_, e2, rfl⟩ noFill_list_add seq_list_add PySem.F.slot_list_add PySem.F.entry_list_add (PySem.F.args_list_add_2 _ _) (list_addW l b its.toArray its2.toArray n n2 none none sl1 sl2 hs) ⟨e, e2, ?_⟩
  have ea : its.toArray ++ its2.toArray = (its ++ its2).toArray := by simp
  rw [ea]
  exact ⟨.ref _, _, I.lnew (t' := s.toks) (rv.append rv2) (by rw [List.length_append]; omega), rfl, q _ I.fresh⟩
/-- what an operator asks, by the data -/
structure OpS (X : Cx) (f : Value → Value → Sem Value) (g : D → D → Option D) (rd : R2) : Prop where
  op : OpR X f rd
  ok : ∀ {x y d : D} {v w : V} {r : St} {σ : L2.St} {H F : Hp} {Q : VK}, g x y = some d → Rep X.K F x v → Rep X.K F y w → Rp X.K r σ H F →
    (∀ z H' F', Ps X.K r r σ H F H' F' → Rep X.K F' d z → Q z H') → rd v w H Q
theorem opS_add : OpS X (binaryOp .Add) addD (fun x y H Q => (rI0 (fun i j => .int (i + j)) x y H Q ∨ (∃ i j, x = V.str i ∧ y = V.str j ∧ i.length + j.length ≤ sizeLine ∧ Q (.str (i ++ j)) H)) ∨ rCatG X.K x y H Q) := by
  refine ⟨(op_add.or op_add_str).or op_catG, ?_⟩
  intro x y d v w r σ H F Q hg hx hy p h
  unfold addD at hg
  split at hg
  · cases hg
    have e1 := Rep.int_iff.mp hx
    have e2 := Rep.int_iff.mp hy
    exact .inl (.inl ⟨_, _, e1, e2, h _ H F (Ps.refl p) (Rep.int_iff.mpr rfl)⟩)
  · rename_i a b
    split at hg
    · rename_i hl
      cases hg
      obtain ⟨e1, o1⟩ := Rep.str_iff.mp hx
      obtain ⟨e2, o2⟩ := Rep.str_iff.mp hy
      refine .inl (.inr ⟨_, _, e1, e2, by rw [len_mk, len_mk, ← LINE_eq]; exact hl, ?_⟩)
      rw [mk_app]
      exact h _ H F (Ps.refl p) (Rep.str_iff.mpr ⟨rfl, o1.app o2 hl⟩)
    · cases hg
  · rename_i a b
    split at hg
    · rename_i hl
      cases hg
      obtain ⟨l, xs, e1, s1, z1⟩ := Rep.lst_iff.mp hx
      obtain ⟨m, ys, e2, s2, z2⟩ := Rep.lst_iff.mp hy
      refine .inr ⟨l, m, xs, ys, e1, e2, SqL.mono p.sub s1, SqL.mono p.sub s2, by rw [← z1.length, ← z2.length, ← LINE_eq]; exact hl, fun q hq => ?_⟩
      have hn := p.new (o := .lst (xs ++ ys)) hq
      exact h _ _ _ hn (Rep.lst_iff.mpr ⟨q, _, rfl, SqL.of upd_same, (z1.append z2).mono hn.f⟩)
    · cases hg
  · cases hg
theorem opS_int {f : Value → Value → Sem Value} {g : D → D → Option D} {Cn : Int → Int → Prop} {k : Int → Int → Int} (h : OpR X f (rI Cn fun i j => .int (k i j)))
    (hg : ∀ x y d, g x y = some d → ∃ i j, x = .int i ∧ y = .int j ∧ Cn i j ∧ d = .int (k i j)) : OpS X f g (rI Cn fun i j => .int (k i j)) := by
  refine ⟨h, ?_⟩
  intro x y d v w r σ H F Q e hx hy p q
  obtain ⟨i, j, rfl, rfl, c, rfl⟩ := hg x y d e
  exact ⟨i, j, Rep.int_iff.mp hx, Rep.int_iff.mp hy, c, q _ H F (Ps.refl p) (Rep.int_iff.mpr rfl)⟩
theorem big_lt {a : Int} (h : a.natAbs < BIG) : a.natAbs < 2 ^ 8000 := h
theorem opS_sub : OpS X (binaryOp .Sub) subD (rI (fun _ _ => True) fun i j => .int (i - j)) := by
  refine opS_int (opI fun _ _ _ _ _ _ _ _ q => sub_int q) fun x y d h => ?_
  unfold subD at h
  split at h
  · cases h; exact ⟨_, _, rfl, rfl, trivial, rfl⟩
  · cases h
theorem opS_div : OpS X (binaryOp .FloorDiv) divD (rI CDivW fun i j => .int (i / j)) := by
  refine opS_int op_fdivW fun x y d h => ?_
  unfold divD at h
  split at h
  · split at h
    · rename_i c
      cases h
      exact ⟨_, _, rfl, rfl, wide_div c.1 (big_lt c.2) (by decide) (by decide), rfl⟩
    · cases h
  · cases h
theorem opS_mod : OpS X (binaryOp .Mod) modD (rI (fun _ j => 0 < j) fun i j => .int (i % j)) := by
  refine opS_int op_mod fun x y d h => ?_
  unfold modD at h
  split at h
  · split at h
    · rename_i c
      cases h
      exact ⟨_, _, rfl, rfl, c, rfl⟩
    · cases h
  · cases h
theorem opS_pow : OpS X (binaryOp .Pow) powD (rI CPow fun i j => .int (i ^ j.toNat)) := by
  refine opS_int op_pow fun x y d h => ?_
  unfold powD at h
  split at h
  · split at h
    · rename_i c
      cases h
      exact ⟨_, _, rfl, rfl, ⟨c.1, by omega, by have := c.2.2; omega⟩, rfl⟩
    · cases h
  · cases h
end

/-! #### products -/
theorem fold_rep (s : List Nat) : ∀ (k : Nat) (acc : Array Nat), (List.replicate k s.toArray).foldl (· ++ ·) acc = acc ++ (rep s k).toArray
  | 0, acc => by simp [rep]
  | k + 1, acc => by
    rw [List.replicate_succ, List.foldl_cons, fold_rep s k]
    simp [rep, List.replicate_succ]
theorem rep_length {α : Type} (l : List α) (k : Nat) : (rep l k).length = l.length * k := by
  unfold rep
  induction k with
  | zero => simp
  | succ k ih => simp only [List.replicate_succ, List.flatten_cons, List.length_append, ih, Nat.mul_succ]; omega
theorem rep_all (l : List Nat) (k : Nat) (h : l.all (· < 0x110000) = true) : (rep l k).all (· < 0x110000) = true := by
  unfold rep
  induction k with
  | zero => rfl
  | succ k ih => rw [List.replicate_succ, List.flatten_cons, List.all_append, h, ih]; rfl
theorem small_le {a : Int} (h : small a = true) : -1000000000 ≤ a ∧ a ≤ 1000000000 := of_decide_eq_true h
section
variable {X : Cx}
def rMulS : R2 := fun x y H Q => ∃ (s : List Nat) (k : Int), x = SV s ∧ y = V.int k ∧ small k = true ∧ s.length * k.toNat ≤ sizeLine ∧ Q (SV (rep s k.toNat)) H
theorem op_mulS : OpR X (binaryOp .Mult) rMulS := by
  intro pins s σ H x y v u Q I rx ry h
  obtain ⟨z, k, rfl, rfl, hk, hz, q⟩ := h
  obtain ⟨t, rfl⟩ := rx
  obtain ⟨t', rfl⟩ := ry
  obtain ⟨k1, k2⟩ := small_le hk
  have fin : ∀ (st : Str) (w : Value) (tk : Nat), st = ⟨(rep z k.toNat).toArray⟩ → w = .str st tk → ∀ n, EP X pins σ Q w { s with toks := n } := fun st w tk e e2 n => by
    subst e e2
    exact ⟨SV (rep z k.toNat), H, I.tok n, ⟨_, rfl⟩, q⟩
  have hl : ∀ n : Nat, (⟨z.toArray⟩ : Str).length * n = z.length * n := fun n => by rw [len_mk]
  refine PySem.P.mul_str (by rw [decide_eq_false (show ¬ k < -(2 ^ 63 : Int) by omega), decide_eq_false (show ¬ k ≥ 2 ^ 63 by omega)]; rfl) (fun h1 _ => ?_) (fun _ _ => ?_) ?_
  · have hk' : (0 : Int) < k := by omega
    have hz2 : z.length * k.toNat ≤ 16777216 := by rw [sizeLine_eq] at hz; exact hz
    have hm : (z.length : Int) * k ≤ 16777216 := by
      obtain ⟨m, rfl⟩ : ∃ m : Nat, k = (m : Int) := ⟨k.toNat, by omega⟩
      rw [Int.toNat_natCast] at hz2
      rw [← Int.natCast_mul]
      omega
    rw [len_mk]
    intro hgt
    have := Int.le_ediv_of_mul_le hk' (show (z.length : Int) * k ≤ 2 ^ 63 - 1 by omega)
    omega
  · rw [hl]
    unfold Builtin.Str.tooLong
    exact decide_eq_false (by omega)
  · by_cases h1 : k < 1
    · rw [if_pos h1]
      refine ⟨by decide, fin _ _ _ ?_ rfl _⟩
      have : k.toNat = 0 := by omega
      rw [this]
      rfl
    · rw [if_neg h1]
      by_cases h2 : (k == 1 || (⟨z.toArray⟩ : Str).length == 0) = true
      · rw [if_pos h2]
        refine fin _ _ t ?_ rfl s.toks
        rw [Bool.or_eq_true] at h2
        rcases h2 with h2 | h2
        · have : k = 1 := by simpa using h2
          subst this
          simp [rep]
        · have : z = [] := by rw [len_mk] at h2; simpa using h2
          subst this
          simp [rep]
      · rw [if_neg h2]
        refine ⟨?_, fin _ _ _ ?_ rfl _⟩
        · show (Str.length ⟨_⟩) ≤ sizeLine
          rw [fold_rep]
          have : (#[] ++ (rep z k.toNat).toArray) = (rep z k.toNat).toArray := by simp
          rw [this, len_mk, rep_length]
          exact hz
        · rw [fold_rep]
          simp
theorem opS_mul : OpS X (binaryOp .Mult) (fun x y => match x with | .lst _ => none | _ => mulD x y) (fun x y H Q => rI CMulW (fun i j => .int (i * j)) x y H Q ∨ rMulS x y H Q) := by
  refine ⟨op_mulW.or op_mulS, ?_⟩
  intro x y d v w r σ H F Q hg hx hy p h
  have hg : mulD x y = some d ∧ ∀ l, x ≠ .lst l := by
    cases x <;> first | exact ⟨hg, fun l z => by cases z⟩ | cases hg
  obtain ⟨hg, nl⟩ := hg
  unfold mulD at hg
  split at hg
  · split at hg
    · rename_i c
      cases hg
      exact .inl ⟨_, _, Rep.int_iff.mp hx, Rep.int_iff.mp hy, wide_mul (big_lt c.1) (big_lt c.2) (by decide) (by decide) (by decide), h _ H F (Ps.refl p) (Rep.int_iff.mpr rfl)⟩
    · cases hg
  · split at hg
    · rename_i c
      cases hg
      obtain ⟨e1, o1⟩ := Rep.str_iff.mp hx
      refine .inr ⟨_, _, e1, Rep.int_iff.mp hy, c.1, by rw [← LINE_eq]; exact c.2, h _ H F (Ps.refl p) (Rep.str_iff.mpr ⟨rfl, rep_all _ _ o1.1, by rw [rep_length]; exact c.2⟩)⟩
    · cases hg
  · exact absurd rfl (nl _)
  · cases hg
end

/-! #### equality of data -/
mutual
def toPD : D → PyData
  | .non => .none
  | .bl b => .bool b
  | .int i => .int i
  | .str s => .str ⟨s.toArray⟩
  | .lst l => .list (toPDs l)
  | .tup l => .tuple (toPDs l)
  | .exc _ _ => .none
def toPDs : List D → List PyData
  | [] => []
  | d :: l => toPD d :: toPDs l
end
section
variable {K : PySem.W.Frag} {F H : Hp}
mutual
theorem Rep.dp (s : Same F H) : ∀ {d : D} {v : V}, Rep K F d v → Dp K H v (toPD d)
  | .non, _, r => by rw [Rep.non_iff.mp r]; unfold toPD; exact .non
  | .bl b, _, r => by rw [Rep.bl_iff.mp r]; unfold toPD; exact .bl b
  | .int b, _, r => by rw [Rep.int_iff.mp r]; unfold toPD; exact .int b
  | .str x, _, r => by rw [(Rep.str_iff.mp r).1]; unfold toPD; exact .str _
  | .exc _ _, _, r => by simp only [Rep] at r
  | .lst l, _, r => by
    obtain ⟨a, vs, e, q, z⟩ := Rep.lst_iff.mp r
    rw [e]; unfold toPD
    exact .lst (SqL.mono s q) (Reps.dp s z)
  | .tup l, _, r => by
    obtain ⟨a, vs, e, q, z⟩ := Rep.tup_iff.mp r
    rw [e]; unfold toPD
    exact .tup (SqT.mono s q) (Reps.dp s z)
theorem Reps.dp (s : Same F H) : ∀ {ds : List D} {vs : List V}, Reps K F ds vs → DpAll K H vs (toPDs ds)
  | [], _, r => by simp only [Reps] at r; subst r; unfold toPDs; exact .nil
  | d :: ds, _, r => by
    simp only [Reps] at r
    obtain ⟨v, w, rfl, q, z⟩ := r
    unfold toPDs
    exact .cons (Rep.dp s q) (Reps.dp s z)
end
mutual
/-- what the texts within need -/
theorem Rep.lay : ∀ {d : D} {v : V}, Rep K F d v → (toPD d).canLay0 = true
  | .non, _, r => by unfold toPD; rfl
  | .bl b, _, r => by unfold toPD; rfl
  | .int b, _, r => by unfold toPD; rfl
  | .str x, _, r => by
    unfold toPD
    show PyData.strOk _ = true
    unfold PyData.strOk
    have := (Rep.str_iff.mp r).2.1
    simpa using this
  | .exc _ _, _, r => by unfold toPD; rfl
  | .lst l, _, r => by
    obtain ⟨a, vs, e, q, z⟩ := Rep.lst_iff.mp r
    unfold toPD
    exact Reps.lay z
  | .tup l, _, r => by
    obtain ⟨a, vs, e, q, z⟩ := Rep.tup_iff.mp r
    unfold toPD
    exact Reps.lay z
theorem Reps.lay : ∀ {ds : List D} {vs : List V}, Reps K F ds vs → PyData.canLayAll0 (toPDs ds) = true
  | [], _, r => by unfold toPDs; rfl
  | d :: ds, _, r => by
    simp only [Reps] at r
    obtain ⟨v, w, rfl, q, z⟩ := r
    unfold toPDs
    show (PyData.canLay0 _ && PyData.canLayAll0 _) = true
    rw [Rep.lay q, Reps.lay z]
    rfl
end
end
theorem depthAll_le {n : Nat} : ∀ {l : List D}, (∀ d ∈ l, (toPD d).depth ≤ n) → PyData.depthAll (toPDs l) ≤ n
  | [], _ => by unfold toPDs; exact Nat.zero_le _
  | d :: l, h => by
    unfold toPDs
    show max _ _ ≤ n
    exact Nat.max_le.mpr ⟨h d List.mem_cons_self, depthAll_le fun x hx => h x (List.mem_cons_of_mem _ hx)⟩
theorem shal_depth : ∀ {n : Nat} {d : D}, shal n d = true → (toPD d).depth ≤ n
  | n, .non, _ => Nat.zero_le _
  | n, .bl _, _ => Nat.zero_le _
  | n, .int _, _ => Nat.zero_le _
  | n, .str _, _ => Nat.zero_le _
  | 0, .exc _ _, h => by simp [shal] at h
  | n + 1, .exc _ _, h => by simp [shal] at h
  | 0, .lst _, h => by simp [shal] at h
  | 0, .tup _, h => by simp [shal] at h
  | n + 1, .lst l, h => by
    simp only [shal, List.all_eq_true] at h
    show PyData.depthAll (toPDs l) + 1 ≤ n + 1
    exact Nat.succ_le_succ (depthAll_le fun d hd => shal_depth (h d hd))
  | n + 1, .tup l, h => by
    simp only [shal, List.all_eq_true] at h
    show PyData.depthAll (toPDs l) + 1 ≤ n + 1
    exact Nat.succ_le_succ (depthAll_le fun d hd => shal_depth (h d hd))
theorem str_beq (x y : List Nat) : ((⟨x.toArray⟩ : Str) == ⟨y.toArray⟩) = (x == y) := by
  by_cases h : x = y
  · subst h; simp
  · have h2 : ¬ (⟨x.toArray⟩ : Str) = ⟨y.toArray⟩ := fun e => h (by have := congrArg tl e; simpa [tl_mk] using this)
    rw [beq_eq_false_iff_ne.mpr h2, beq_eq_false_iff_ne.mpr h]
theorem shal_noexc {n : Nat} {c : Nat} {f : List D} : shal n (.exc c f) = false := by cases n <;> rfl
mutual
theorem eqd_pd : ∀ {n : Nat} {a b : D}, shal n a = true → shal n b = true → PyData.eqv (toPD a) (toPD b) = eqd a b
  | n, .exc _ _, b, h, _ => by rw [shal_noexc] at h; cases h
  | n, a, .exc _ _, _, h => by rw [shal_noexc] at h; cases h
  | n, .non, b, _, h2 => by cases b <;> first | (rw [shal_noexc] at h2; cases h2) | simp [toPD, PyData.eqv, eqd]
  | n, .bl x, b, _, h2 => by cases b <;> first | (rw [shal_noexc] at h2; cases h2) | simp [toPD, PyData.eqv, eqd]
  | n, .int x, b, _, h2 => by cases b <;> first | (rw [shal_noexc] at h2; cases h2) | simp [toPD, PyData.eqv, eqd]
  | n, .str x, .str y, _, _ => by simp only [toPD, PyData.eqv, eqd]; exact str_beq x y
  | n, .str x, .non, _, _ => by simp [toPD, PyData.eqv, eqd]
  | n, .str x, .bl _, _, _ => by simp [toPD, PyData.eqv, eqd]
  | n, .str x, .int _, _, _ => by simp [toPD, PyData.eqv, eqd]
  | n, .str x, .lst _, _, _ => by simp [toPD, PyData.eqv, eqd]
  | n, .str x, .tup _, _, _ => by simp [toPD, PyData.eqv, eqd]
  | 0, .lst _, _, h, _ => by simp [shal] at h
  | 0, .tup _, _, h, _ => by simp [shal] at h
  | n + 1, .lst x, .lst y, h, g => by
    simp only [shal, List.all_eq_true] at h g
    simp only [toPD, PyData.eqv, eqd]
    exact eqds_pd (n := n) h g
  | n + 1, .tup x, .tup y, h, g => by
    simp only [shal, List.all_eq_true] at h g
    simp only [toPD, PyData.eqv, eqd]
    exact eqds_pd (n := n) h g
  | n, .lst x, .non, _, _ => by simp [toPD, PyData.eqv, eqd]
  | n, .lst x, .bl _, _, _ => by simp [toPD, PyData.eqv, eqd]
  | n, .lst x, .int _, _, _ => by simp [toPD, PyData.eqv, eqd]
  | n, .lst x, .str _, _, _ => by simp [toPD, PyData.eqv, eqd]
  | n, .lst x, .tup _, _, _ => by simp [toPD, PyData.eqv, eqd]
  | n, .tup x, .non, _, _ => by simp [toPD, PyData.eqv, eqd]
  | n, .tup x, .bl _, _, _ => by simp [toPD, PyData.eqv, eqd]
  | n, .tup x, .int _, _, _ => by simp [toPD, PyData.eqv, eqd]
  | n, .tup x, .str _, _, _ => by simp [toPD, PyData.eqv, eqd]
  | n, .tup x, .lst _, _, _ => by simp [toPD, PyData.eqv, eqd]
theorem eqds_pd : ∀ {n : Nat} {a b : List D}, (∀ d ∈ a, shal n d = true) → (∀ d ∈ b, shal n d = true) → PyData.eqvAll (toPDs a) (toPDs b) = eqds a b
  | n, [], [], _, _ => by simp [toPDs, PyData.eqvAll, eqds]
  | n, [], _ :: _, _, _ => by simp [toPDs, PyData.eqvAll, eqds]
  | n, _ :: _, [], _, _ => by simp [toPDs, PyData.eqvAll, eqds]
  | n, x :: xs, y :: ys, h, g => by
    simp only [toPDs, PyData.eqvAll, eqds]
    rw [eqd_pd (h x List.mem_cons_self) (g y List.mem_cons_self), eqds_pd (fun d hd => h d (List.mem_cons_of_mem _ hd)) (fun d hd => g d (List.mem_cons_of_mem _ hd))]
end
end Z

/-! Z4: comparisons, tests, items, slices, built-ins -/
namespace Z
open PySem PySem.Spec PyProof.Rows L2 TL
theorem shaped_of {K : PySem.W.Frag} {F : Hp} {d : D} {v : V} (r : Rep K F d v) {n : Nat} (h : shal n d = true) (hn : n ≤ 64) : SeqAt.shaped (toPD d) = true := by
  unfold SeqAt.shaped
  rw [r.lay, decide_eq_true (Nat.le_trans (shal_depth h) hn)]
  rfl
section
variable {X : Cx} {n : Nat}
/-- what a comparison asks, by the data -/
structure CpS (X : Cx) (op : CmpOp) (g : D → D → Option Bool) (rd : R2) : Prop where
  op : OpR X (compareOp op) rd
  ok : ∀ {x y : D} {b : Bool} {v w : V} {H F : Hp} {Q : VK}, g x y = some b → Rep X.K F x v → Rep X.K F y w → Same F H → Q (.bl b) H → rd v w H Q
theorem cpS_eq (c : Ck X n) : CpS X .Eq (Cp.f .eq) (rEqD X.K) := by
  refine ⟨op_eqD c.room.units, ?_⟩
  intro x y b v w H F Q hg hx hy s q
  simp only [Cp.f, eqD] at hg
  split at hg
  · rename_i h
    rw [Bool.and_eq_true] at h
    cases hg
    exact ⟨_, _, hx.dp s, hy.dp s, shaped_of hx h.1 (by decide), shaped_of hy h.2 (by decide), by rw [eqd_pd h.1 h.2]; exact q⟩
  · cases hg
theorem cpS_ne (c : Ck X n) : CpS X .NotEq (Cp.f .ne) (rNeD X.K) := by
  refine ⟨op_neD c.room.units, ?_⟩
  intro x y b v w H F Q hg hx hy s q
  simp only [Cp.f, eqD] at hg
  split at hg
  · rename_i h
    rw [Bool.and_eq_true] at h
    cases hg
    exact ⟨_, _, hx.dp s, hy.dp s, shaped_of hx h.1 (by decide), shaped_of hy h.2 (by decide), by rw [eqd_pd h.1 h.2]; exact q⟩
  · cases hg
theorem cpS_int {op : CmpOp} {g : D → D → Option Bool} {k : Int → Int → Bool} (h : OpR X (compareOp op) (rI0 fun i j => .bl (k i j)))
    (hg : ∀ x y b, g x y = some b → ∃ i j, x = .int i ∧ y = .int j ∧ b = k i j) : CpS X op g (rI0 fun i j => .bl (k i j)) := by
  refine ⟨h, ?_⟩
  intro x y b v w H F Q e hx hy s q
  obtain ⟨i, j, rfl, rfl, rfl⟩ := hg x y b e
  exact ⟨i, j, Rep.int_iff.mp hx, Rep.int_iff.mp hy, q⟩
def Cp.op : Cp → CmpOp
  | .eq => .Eq
  | .ne => .NotEq
  | .lt => .Lt
  | .le => .LtE
  | .gt => .Gt
  | .ge => .GtE
theorem cpS_all (c : Ck X n) (k : Cp) : ∃ rd, CpS X k.op k.f rd := by
  cases k with
  | eq => exact ⟨_, cpS_eq c⟩
  | ne => exact ⟨_, cpS_ne c⟩
  | lt => exact ⟨_, cpS_int op_lt fun x y b h => by cases x <;> cases y <;> simp only [Cp.f, Option.some.injEq, reduceCtorEq] at h; exact ⟨_, _, rfl, rfl, h.symm⟩⟩
  | le => exact ⟨_, cpS_int op_le fun x y b h => by cases x <;> cases y <;> simp only [Cp.f, Option.some.injEq, reduceCtorEq] at h; exact ⟨_, _, rfl, rfl, h.symm⟩⟩
  | gt => exact ⟨_, cpS_int op_gt fun x y b h => by cases x <;> cases y <;> simp only [Cp.f, Option.some.injEq, reduceCtorEq] at h; exact ⟨_, _, rfl, rfl, h.symm⟩⟩
  | ge => exact ⟨_, cpS_int op_ge fun x y b h => by cases x <;> cases y <;> simp only [Cp.f, Option.some.injEq, reduceCtorEq] at h; exact ⟨_, _, rfl, rfl, h.symm⟩⟩
def Op.op : Op → Operator
  | .add => .Add
  | .sub => .Sub
  | .mul => .Mult
  | .div => .FloorDiv
  | .mod => .Mod
  | .pow => .Pow
theorem opS_all (o : Op) : ∃ rd, OpS X (binaryOp o.op) o.g rd := by
  cases o with
  | add => exact ⟨_, opS_add⟩
  | sub => exact ⟨_, opS_sub⟩
  | mul => exact ⟨_, opS_mul⟩
  | div => exact ⟨_, opS_div⟩
  | mod => exact ⟨_, opS_mod⟩
  | pow => exact ⟨_, opS_pow⟩
/-! ### x in y -/
def rInT (K : PySem.W.Frag) : R2 := fun x y H Q => ∃ d ds, Dp K H x d ∧ Dp K H y (.tuple ds) ∧ SeqAt.shaped d = true ∧ SeqAt.shaped (.tuple ds) = true ∧ Q (.bl (ds.any fun z => PyData.eqv z d)) H
def rNotInT (K : PySem.W.Frag) : R2 := fun x y H Q => ∃ d ds, Dp K H x d ∧ Dp K H y (.tuple ds) ∧ SeqAt.shaped d = true ∧ SeqAt.shaped (.tuple ds) = true ∧ Q (.bl (!ds.any fun z => PyData.eqv z d)) H
theorem op_inT (hu : X.A.units + 65 < cLine) : OpR X (compareOp .In) (rInT X.K) := by
  intro pins s σ H x y v u Q I rx ry h
  obtain ⟨d, ds, hd, he, sd, se, q⟩ := h
  obtain ⟨as, r1⟩ := Dp.reads I d x v hd rx
  obtain ⟨bs, r2⟩ := Dp.reads I (.tuple ds) y u he ry
  exact SeqAt.in_tuple_reads r2 r1 (SeqAt.canLay_of_shaped se) (SeqAt.canLay_of_shaped sd) (room_in_shaped sd hu) ⟨.bl _, H, I, rfl, q⟩
theorem op_notInT (hu : X.A.units + 65 < cLine) : OpR X (compareOp .NotIn) (rNotInT X.K) := by
  intro pins s σ H x y v u Q I rx ry h
  obtain ⟨d, ds, hd, he, sd, se, q⟩ := h
  obtain ⟨as, r1⟩ := Dp.reads I d x v hd rx
  obtain ⟨bs, r2⟩ := Dp.reads I (.tuple ds) y u he ry
  exact SeqAt.notIn_tuple_reads r2 r1 (SeqAt.canLay_of_shaped se) (SeqAt.canLay_of_shaped sd) (room_in_shaped sd hu) ⟨.bl _, H, I, rfl, q⟩
theorem any_pd {a : D} {n : Nat} (ha : shal n a = true) : ∀ {l : List D}, (∀ d ∈ l, shal n d = true) → (toPDs l).any (fun z => PyData.eqv z (toPD a)) = l.any fun y => eqd y a
  | [], _ => rfl
  | d :: l, h => by
    unfold toPDs
    rw [List.any_cons, List.any_cons, eqd_pd (h d List.mem_cons_self) ha, any_pd ha fun x hx => h x (List.mem_cons_of_mem _ hx)]
theorem room65 (c : Ck X n) : X.A.units + 65 < cLine := by have := c.room.un; omega
theorem shal_lst {n : Nat} {l : List D} (h : l.all (shal n) = true) : shal (n + 1) (.lst l) = true := h
theorem shal_tup {n : Nat} {l : List D} (h : l.all (shal n) = true) : shal (n + 1) (.tup l) = true := h
theorem inS_all (c : Ck X n) (neg : Bool) : ∃ rd, CpS X (if neg then .NotIn else .In) (fun x y => (inD x y).map fun b => if neg then !b else b) rd := by
  have key : ∀ {x y : D} {b : Bool} {v w : V} {H F : Hp}, inD x y = some b → Rep X.K F x v → Rep X.K F y w → Same F H →
      (∃ (c : Nat) (z : Str), v = V.str ⟨#[c]⟩ ∧ w = V.str z ∧ b = decide (c ∈ z.cps.toList)) ∨
      (∃ d ds, Dp X.K H v d ∧ Dp X.K H w (.list ds) ∧ SeqAt.shaped d = true ∧ SeqAt.shaped (.list ds) = true ∧ b = ds.any fun z => PyData.eqv z d) ∨
      (∃ d ds, Dp X.K H v d ∧ Dp X.K H w (.tuple ds) ∧ SeqAt.shaped d = true ∧ SeqAt.shaped (.tuple ds) = true ∧ b = ds.any fun z => PyData.eqv z d) := by
    intro x y b v w H F hg hx hy s
    unfold inD at hg
    split at hg
    · rename_i ch z
      cases hg
      refine .inl ⟨ch, ⟨z.toArray⟩, (Rep.str_iff.mp hx).1, (Rep.str_iff.mp hy).1, ?_⟩
      simp
    · rename_i l
      split at hg
      · rename_i h
        rw [Bool.and_eq_true] at h
        cases hg
        exact .inr (.inr ⟨_, toPDs l, hx.dp s, hy.dp s, shaped_of hx h.1 (by decide), shaped_of (n := 9) hy (shal_tup h.2) (by decide), (any_pd h.1 (List.all_eq_true.mp h.2)).symm⟩)
      · cases hg
    · rename_i l
      split at hg
      · rename_i h
        rw [Bool.and_eq_true] at h
        cases hg
        exact .inr (.inl ⟨_, toPDs l, hx.dp s, hy.dp s, shaped_of hx h.1 (by decide), shaped_of (n := 9) hy (shal_lst h.2) (by decide), (any_pd h.1 (List.all_eq_true.mp h.2)).symm⟩)
      · cases hg
    · cases hg
  cases neg with
  | false =>
    refine ⟨_, op_in_sign.or ((op_inD (room65 c)).or (op_inT (room65 c))), ?_⟩
    intro x y b v w H F Q hg hx hy s q
    obtain ⟨b', hb, e⟩ := Option.map_eq_some_iff.mp hg
    have e : b' = b := e
    subst e
    rcases key hb hx hy s with ⟨c, z, e1, e2, rfl⟩ | ⟨d, ds, h1, h2, h3, h4, rfl⟩ | ⟨d, ds, h1, h2, h3, h4, rfl⟩
    · exact .inl ⟨c, z, e1, e2, q⟩
    · exact .inr (.inl ⟨d, ds, h1, h2, h3, h4, q⟩)
    · exact .inr (.inr ⟨d, ds, h1, h2, h3, h4, q⟩)
  | true =>
    refine ⟨_, op_notIn_sign.or ((op_notInD (room65 c)).or (op_notInT (room65 c))), ?_⟩
    intro x y b v w H F Q hg hx hy s q
    obtain ⟨b', hb, e⟩ := Option.map_eq_some_iff.mp hg
    have e : (!b') = b := e
    subst e
    rcases key hb hx hy s with ⟨c, z, e1, e2, rfl⟩ | ⟨d, ds, h1, h2, h3, h4, rfl⟩ | ⟨d, ds, h1, h2, h3, h4, rfl⟩
    · exact .inl ⟨c, z, e1, e2, q⟩
    · exact .inr (.inl ⟨d, ds, h1, h2, h3, h4, q⟩)
    · exact .inr (.inr ⟨d, ds, h1, h2, h3, h4, q⟩)
end

section
variable {X : Cx} {ca : Nat → Addr} {W : WX} {pos : Pos} {a b d : Expr} {fa fb fd : St → R D} {n : Nat}
theorem q_bin {op : Operator} {g : D → D → Option D} {rd : R2} (o : OpS X (binaryOp op) g rd) (ha : QE X ca W a fa) (hb : QE X ca W b fb) :
    QE X ca W (.BinOp a op b pos) (fun r => (fa r).bind fun x r => (fb r).bind fun y r => .of (g x y) r) := by
  refine PE.weak (pe_op o.op ha hb) fun σ H Q ⟨r, F, p, h⟩ => ⟨r, F, p, h.step fun x r1 v H1 F1 p1 q1 h => ⟨r1, F1, p1.rp, h.step fun y r2 w H2 F2 p2 q2 h => ?_⟩⟩
  cases e : g x y with
  | none => rw [e] at h; exact h.elim
  | some z => rw [e] at h; exact o.ok e (q1.mono p2.f) q2 p2.rp h
theorem q_cmp {op : CmpOp} {g : D → D → Option Bool} {rd : R2} (o : CpS X op g rd) (ha : QE X ca W a fa) (hb : QE X ca W b fb) (hm : behindInMarks op b = false) :
    QE X ca W (.Compare a [op] [b] pos) (fun r => (fa r).bind fun x r => (fb r).bind fun y r => .of ((g x y).map .bl) r) := by
  refine PE.weak (pe_cmpR o.op ha hb hm) fun σ H Q ⟨r, F, p, h⟩ => ⟨r, F, p, h.step fun x r1 v H1 F1 p1 q1 h => ⟨r1, F1, p1.rp, h.step fun y r2 w H2 F2 p2 q2 h => ?_⟩⟩
  cases e : g x y with
  | none => rw [e] at h; exact h.elim
  | some z => rw [e] at h; exact o.ok e (q1.mono p2.f) q2 p2.rp.sub (h _ _ _ (Ps.refl p2.rp) (Rep.bl_iff.mpr rfl))
theorem q_cmp2 {op op' : CmpOp} {g g' : D → D → Option Bool} {rd rd' : R2} (o : CpS X op g rd) (o' : CpS X op' g' rd') (ha : QE X ca W a fa) (hb : QE X ca W b fb) (hd : QE X ca W d fd) (hm : lastMarks [op, op'] [b, d] = false) :
    QE X ca W (.Compare a [op, op'] [b, d] pos) (fun r => (fa r).bind fun x r => (fb r).bind fun y r => match g x y with
      | some true => (fd r).bind fun z r => .of ((g' y z).map .bl) r
      | some false => .ok (.bl false) r
      | none => .bad) := by
  refine PE.weak (pe_chain o.op o'.op ha hb hd hm) fun σ H Q ⟨r, F, p, h⟩ => ⟨r, F, p, h.step fun x r1 v H1 F1 p1 q1 h => ⟨r1, F1, p1.rp, h.step fun y r2 w H2 F2 p2 q2 h => ?_⟩⟩
  cases e : g x y with
  | none => simp only [e] at h; exact h.elim
  | some z =>
    simp only [e] at h
    refine o.ok e (q1.mono p2.f) q2 p2.rp.sub ⟨z, rfl, ?_⟩
    cases z with
    | false => exact iteF (h _ _ _ (Ps.refl p2.rp) (Rep.bl_iff.mpr rfl))
    | true =>
      refine iteT ⟨r2, F2, p2.rp, h.step fun z r3 u H3 F3 p3 q3 h => ?_⟩
      cases e' : g' y z with
      | none => rw [e'] at h; exact h.elim
      | some k => rw [e'] at h; exact o'.ok e' (q2.mono p3.f) q3 p3.rp.sub (h _ _ _ (Ps.refl p3.rp) (Rep.bl_iff.mpr rfl))
theorem rep_non {K : PySem.W.Frag} {F : Hp} {x : D} {v : V} (r : Rep K F x v) : decide (v = V.non) = x.isNon := by
  cases x with
  | non => rw [Rep.non_iff.mp r]; rfl
  | bl b => rw [Rep.bl_iff.mp r]; rfl
  | int b => rw [Rep.int_iff.mp r]; rfl
  | str b => rw [(Rep.str_iff.mp r).1]; rfl
  | lst b => obtain ⟨a, _, e, _⟩ := Rep.lst_iff.mp r; rw [e]; rfl
  | tup b => obtain ⟨a, _, e, _⟩ := Rep.tup_iff.mp r; rw [e]; rfl
  | exc _ _ => simp only [Rep] at r
theorem q_isN {j : Nat} {p2 : Pos} (ha : QE X ca W a fa) : QE X ca W (.Compare a [.Is] [.Constant .none j p2] pos) (fun r => (fa r).bind fun x r => .ok (.bl x.isNon) r) := by
  refine PE.weak (pe_cmp (pc_isN ha)) fun σ H Q ⟨r, F, p, h⟩ => ⟨r, F, p, h.step fun x r1 v H1 F1 p1 q1 h => ?_⟩
  rw [rep_non q1]
  exact h _ _ _ (Ps.refl p1.rp) (Rep.bl_iff.mpr rfl)
theorem q_notN {j : Nat} {p2 : Pos} (ha : QE X ca W a fa) : QE X ca W (.Compare a [.IsNot] [.Constant .none j p2] pos) (fun r => (fa r).bind fun x r => .ok (.bl !x.isNon) r) := by
  refine PE.weak (pe_cmp (pc_notN ha)) fun σ H Q ⟨r, F, p, h⟩ => ⟨r, F, p, h.step fun x r1 v H1 F1 p1 q1 h => ?_⟩
  rw [rep_non q1]
  exact h _ _ _ (Ps.refl p1.rp) (Rep.bl_iff.mpr rfl)
/-! ### and, or, not, if -/
theorem q_not (ha : QE X ca W a fa) : QE X ca W (.UnaryOp .Not a pos) (fun r => (fa r).bind fun x r => match x with | .bl b => .ok (.bl !b) r | _ => .bad) := by
  refine PE.weak (pe_not ha) fun σ H Q ⟨r, F, p, h⟩ => ⟨r, F, p, h.step fun x r1 v H1 F1 p1 q1 h => ?_⟩
  cases x with
  | bl c => exact ⟨c, Rep.bl_iff.mp q1, h _ _ _ (Ps.refl p1.rp) (Rep.bl_iff.mpr rfl)⟩
  | _ => exact h.elim
theorem q_neg (ha : QE X ca W a fa) : QE X ca W (.UnaryOp .USub a pos) (fun r => (fa r).bind fun x r => match x with | .int i => .ok (.int (-i)) r | _ => .bad) := by
  refine PE.weak (pe_un un_neg ha) fun σ H Q ⟨r, F, p, h⟩ => ⟨r, F, p, h.step fun x r1 v H1 F1 p1 q1 h => ?_⟩
  cases x with
  | int c => exact ⟨c, Rep.int_iff.mp q1, h _ _ _ (Ps.refl p1.rp) (Rep.int_iff.mpr rfl)⟩
  | _ => exact h.elim
/-- an expression whose value is a truth value -/
theorem bl_of {f : St → R D} {e : Expr} (h : QE X ca W e f) : QE X ca W e (fun r => (f r).bind fun y r => .of ((tru y).map .bl) r) := by
  refine PE.weak h fun σ H Q ⟨r, F, p, h⟩ => ⟨r, F, p, h.step fun x r1 v H1 F1 p1 q1 h => ?_⟩
  cases x with
  | bl c => exact h _ _ _ (Ps.refl p1.rp) q1
  | _ => exact h.elim
def andF (fa fb : St → R D) : St → R D := fun r => (fa r).bind fun x r => match x with
  | .bl true => (fb r).bind fun y r => .of ((tru y).map .bl) r
  | .bl false => .ok (.bl false) r
  | _ => .bad
def orF (fa fb : St → R D) : St → R D := fun r => (fa r).bind fun x r => match x with
  | .bl true => .ok (.bl true) r
  | .bl false => (fb r).bind fun y r => .of ((tru y).map .bl) r
  | _ => .bad
theorem q_and1 {es : List Expr} (ha : QE X ca W a fa) (hb : QE X ca W (.BoolOp .And (b :: es) pos) fb) : QE X ca W (.BoolOp .And (a :: b :: es) pos) (andF fa fb) := by
  refine PE.weak (pe_and ha (bl_of hb)) fun σ H Q ⟨r, F, p, h⟩ => ⟨r, F, p, Fi.step h fun x r1 v H1 F1 p1 q1 h => ?_⟩
  cases x with
  | bl c =>
    refine ⟨c, Rep.bl_iff.mp q1, ?_⟩
    cases c with
    | true => exact iteT ⟨r1, F1, p1.rp, h⟩
    | false => exact iteF (h _ _ _ (Ps.refl p1.rp) (Rep.bl_iff.mpr rfl))
  | _ => exact h.elim
theorem q_or1 {es : List Expr} (ha : QE X ca W a fa) (hb : QE X ca W (.BoolOp .Or (b :: es) pos) fb) : QE X ca W (.BoolOp .Or (a :: b :: es) pos) (orF fa fb) := by
  refine PE.weak (pe_or ha (bl_of hb)) fun σ H Q ⟨r, F, p, h⟩ => ⟨r, F, p, Fi.step h fun x r1 v H1 F1 p1 q1 h => ?_⟩
  cases x with
  | bl c =>
    refine ⟨c, Rep.bl_iff.mp q1, ?_⟩
    cases c with
    | true => exact iteT (h _ _ _ (Ps.refl p1.rp) (Rep.bl_iff.mpr rfl))
    | false => exact iteF ⟨r1, F1, p1.rp, h⟩
  | _ => exact h.elim
theorem q_one {op : BoolOp} (ha : QE X ca W a fa) : QE X ca W (.BoolOp op [a] pos) fa := pe_one ha
end
end Z

/-! Z5: tests, items, slices, built-ins, methods -/
namespace Z
open PySem PySem.Spec PyProof.Rows L2 TL

section
variable {X : Cx} {ca : Nat → Addr} {W : WX} {pos : Pos} {a b d e : Expr} {fa fb fd f : St → R D} {n : Nat}
/-! ### tests -/
def relT : Rl D Bool := fun _ d b => d = .bl b
def tT (K : PySem.W.Frag) (ca : Nat → Addr) (W : WX) (f : St → R D) : TT := fun σ H Q => ∃ r F, Rp K r σ H F ∧ Fi K ca W relT (f r) r σ H F Q
abbrev QT (X : Cx) (ca : Nat → Addr) (W : WX) (e : Expr) (f : St → R D) : Prop := PT X e (tT X.K ca W f)
theorem qt_plain (h : QE X ca W e f) (he : ∀ whole, isTrue e X.env whole = (do let v ← whole; standAt e.pos; holding [v] (truthy v))) : QT X ca W e (fun r => (f r).bind fun y r => .of ((tru y).map .bl) r) := by
  refine PT.weak (pt_val h he) fun σ H Q ⟨r, F, p, h⟩ => ⟨r, F, p, Fi.step h fun x r1 v H1 F1 p1 q1 h => ?_⟩
  cases x with
  | bl c => exact ⟨c, Rep.bl_iff.mp q1, h _ _ _ (Ps.refl p1.rp) rfl⟩
  | _ => exact h.elim
theorem bt_of (h : QT X ca W e f) : QT X ca W e (fun r => (f r).bind fun y r => .of ((tru y).map .bl) r) := by
  refine PT.weak h fun σ H Q ⟨r, F, p, h⟩ => ⟨r, F, p, Fi.step h fun x r1 v H1 F1 p1 q1 h => ?_⟩
  cases q1
  exact h _ _ _ (Ps.refl p1.rp) rfl
theorem qt_cmp {op : CmpOp} {g : D → D → Option Bool} {rd : R2} (o : CpS X op g rd) (ha : QE X ca W a fa) (hb : QE X ca W b fb) (hm : behindInMarks op b = false) :
    QT X ca W (.Compare a [op] [b] pos) (fun r => (fa r).bind fun x r => (fb r).bind fun y r => .of ((g x y).map .bl) r) := by
  refine PT.weak (pt_cmpR o.op ha hb hm) fun σ H Q ⟨r, F, p, h⟩ => ⟨r, F, p, Fi.step h fun x r1 v H1 F1 p1 q1 h => ⟨r1, F1, p1.rp, Fi.step h fun y r2 w H2 F2 p2 q2 h => ?_⟩⟩
  cases e : g x y with
  | none => rw [e] at h; exact h.elim
  | some z => rw [e] at h; exact o.ok e (q1.mono p2.f) q2 p2.rp.sub ⟨z, rfl, h _ _ _ (Ps.refl p2.rp) rfl⟩
theorem qt_cmp2 {op op' : CmpOp} {g g' : D → D → Option Bool} {rd rd' : R2} (o : CpS X op g rd) (o' : CpS X op' g' rd') (ha : QE X ca W a fa) (hb : QE X ca W b fb) (hd : QE X ca W d fd) (hm : lastMarks [op, op'] [b, d] = false) :
    QT X ca W (.Compare a [op, op'] [b, d] pos) (fun r => (fa r).bind fun x r => (fb r).bind fun y r => match g x y with
      | some true => (fd r).bind fun z r => .of ((g' y z).map .bl) r
      | some false => .ok (.bl false) r
      | none => .bad) := by
  refine PT.weak (pt_chain o.op o'.op ha hb hd hm) fun σ H Q ⟨r, F, p, h⟩ => ⟨r, F, p, Fi.step h fun x r1 v H1 F1 p1 q1 h => ⟨r1, F1, p1.rp, Fi.step h fun y r2 w H2 F2 p2 q2 h => ?_⟩⟩
  cases e : g x y with
  | none => simp only [e] at h; exact h.elim
  | some z =>
    simp only [e] at h
    refine o.ok e (q1.mono p2.f) q2 p2.rp.sub ⟨z, rfl, ?_⟩
    cases z with
    | false => exact iteF ⟨_, rfl, h _ _ _ (Ps.refl p2.rp) rfl⟩
    | true =>
      refine iteT ⟨r2, F2, p2.rp, Fi.step h fun z r3 u H3 F3 p3 q3 h => ?_⟩
      cases e' : g' y z with
      | none => rw [e'] at h; exact h.elim
      | some k => rw [e'] at h; exact o'.ok e' (q2.mono p3.f) q3 p3.rp.sub ⟨_, rfl, h _ _ _ (Ps.refl p3.rp) rfl⟩
theorem qt_isN {j : Nat} {p2 : Pos} (ha : QE X ca W a fa) : QT X ca W (.Compare a [.Is] [.Constant .none j p2] pos) (fun r => (fa r).bind fun x r => .ok (.bl x.isNon) r) := by
  refine PT.weak (pt_cmp (pc_isN ha)) fun σ H Q ⟨r, F, p, h⟩ => ⟨r, F, p, Fi.step h fun x r1 v H1 F1 p1 q1 h => ⟨_, rfl, ?_⟩⟩
  rw [rep_non q1]
  exact h _ _ _ (Ps.refl p1.rp) rfl
theorem qt_notN {j : Nat} {p2 : Pos} (ha : QE X ca W a fa) : QT X ca W (.Compare a [.IsNot] [.Constant .none j p2] pos) (fun r => (fa r).bind fun x r => .ok (.bl !x.isNon) r) := by
  refine PT.weak (pt_cmp (pc_notN ha)) fun σ H Q ⟨r, F, p, h⟩ => ⟨r, F, p, Fi.step h fun x r1 v H1 F1 p1 q1 h => ⟨_, rfl, ?_⟩⟩
  rw [rep_non q1]
  exact h _ _ _ (Ps.refl p1.rp) rfl
theorem qt_not (ha : QT X ca W a fa) : QT X ca W (.UnaryOp .Not a pos) (fun r => (fa r).bind fun x r => match x with | .bl b => .ok (.bl !b) r | _ => .bad) := by
  refine PT.weak (pt_not ha) fun σ H Q ⟨r, F, p, h⟩ => ⟨r, F, p, Fi.step h fun x r1 v H1 F1 p1 q1 h => ?_⟩
  cases q1
  exact h _ _ _ (Ps.refl p1.rp) rfl
abbrev QW (X : Cx) (ca : Nat → Addr) (W : WX) (e : Expr) (f : St → R D) : Prop := PW X e (tT X.K ca W f)
theorem PW.weak {e : Expr} {t t' : TT} (h : PW X e t) (w : ∀ σ H Q, t' σ H Q → t σ H Q) : PW X e t' := ⟨fun wh pins s σ H Q I q => h.run wh pins s σ H Q I (w σ H Q q)⟩
theorem wt_of (h : QW X ca W e f) : QW X ca W e (fun r => (f r).bind fun y r => .of ((tru y).map .bl) r) := by
  refine PW.weak h fun σ H Q ⟨r, F, p, h⟩ => ⟨r, F, p, Fi.step h fun x r1 v H1 F1 p1 q1 h => ?_⟩
  cases q1
  exact h _ _ _ (Ps.refl p1.rp) rfl
theorem qw_and {es : List Expr} (ha : QT X ca W a fa) (hb : QW X ca W (.BoolOp .And (b :: es) pos) fb) : QW X ca W (.BoolOp .And (a :: b :: es) pos) (andF fa fb) := by
  refine PW.weak (pw_and ha (wt_of hb)) fun σ H Q ⟨r, F, p, h⟩ => ⟨r, F, p, Fi.step h fun x r1 v H1 F1 p1 q1 h => ?_⟩
  cases q1
  cases v with
  | true => exact iteT ⟨r1, F1, p1.rp, h⟩
  | false => exact iteF (h _ _ _ (Ps.refl p1.rp) rfl)
theorem qw_or {es : List Expr} (ha : QT X ca W a fa) (hb : QW X ca W (.BoolOp .Or (b :: es) pos) fb) : QW X ca W (.BoolOp .Or (a :: b :: es) pos) (orF fa fb) := by
  refine PW.weak (pw_or ha (wt_of hb)) fun σ H Q ⟨r, F, p, h⟩ => ⟨r, F, p, Fi.step h fun x r1 v H1 F1 p1 q1 h => ?_⟩
  cases q1
  cases v with
  | true => exact iteT (h _ _ _ (Ps.refl p1.rp) rfl)
  | false => exact iteF ⟨r1, F1, p1.rp, h⟩
theorem qw_and1 (ha : QT X ca W a fa) : QW X ca W (.BoolOp .And [a] pos) fa := pw_and1 ha
theorem qw_or1 (ha : QT X ca W a fa) : QW X ca W (.BoolOp .Or [a] pos) fa := pw_or1 ha
/-- a if c else b -/
theorem q_ite {c : Expr} {fc : St → R D} (hc : QT X ca W c fc) (ha : QE X ca W a fa) (hb : QE X ca W b fb) :
    QE X ca W (.IfExp c a b pos) (fun r => (fc r).bind fun x r => match x with | .bl true => fa r | .bl false => fb r | _ => .bad) := by
  refine PE.weak (pe_ifExp hc ha hb) fun σ H Q ⟨r, F, p, h⟩ => ⟨r, F, p, Fi.step h fun x r1 v H1 F1 p1 q1 h => ?_⟩
  cases q1
  cases v with
  | true => exact iteT ⟨r1, F1, p1.rp, h⟩
  | false => exact iteF ⟨r1, F1, p1.rp, h⟩

/-! ### items -/
def noSlice : Expr → Bool
  | .Slice _ _ _ _ => false
  | _ => true
theorem plainIx (h : noSlice b = true) : PlainIx b := by
  intro o i
  cases b <;> first | rfl | cases h
theorem atL_at {K : PySem.W.Frag} {F : Hp} {l : List D} {vs : List V} {i : Int} {x : D} (q : Reps K F l vs) (h : atL l i = some x) : ∃ v, atI vs i = some v ∧ Rep K F x v := by
  have hl := q.length
  unfold atL at h
  unfold atI ixN
  split at h
  · rename_i h0
    obtain ⟨v, e, z⟩ := q.get h
    have hlt : i.toNat < vs.length := (List.getElem?_eq_some_iff.mp e).1
    refine ⟨v, ?_, z⟩
    rw [if_pos h0, if_pos (by omega)]
    exact e
  · rename_i h0
    split at h
    · rename_i h1
      obtain ⟨v, e, z⟩ := q.get h
      refine ⟨v, ?_, z⟩
      rw [if_neg h0, if_pos (by rw [← hl]; exact h1)]
      show vs[(i + (vs.length : Int)).toNat]? = _
      rw [← hl]
      exact e
    · cases h
theorem atL_sig {s : List Nat} {i : Int} {c : Nat} (h : atL s i = some c) : atI s i = some c := by
  unfold atL at h
  unfold atI ixN
  split at h
  · rename_i h0
    have hlt : i.toNat < s.length := (List.getElem?_eq_some_iff.mp h).1
    rw [if_pos h0, if_pos (by omega)]
    exact h
  · rename_i h0
    split at h
    · rename_i h1
      rw [if_neg h0, if_pos h1]
      exact h
    · cases h
theorem atL_mem {α : Type} {l : List α} {i : Int} {c : α} (h : atL l i = some c) : c ∈ l := by
  unfold atL at h
  split at h
  · exact List.mem_of_getElem? h
  · split at h
    · exact List.mem_of_getElem? h
    · cases h
theorem SOk.one {s : List Nat} (h : SOk s) {c : Nat} (hc : c ∈ s) : SOk [c] := by
  refine ⟨?_, by show 1 ≤ 16777216; decide⟩
  have := List.all_eq_true.mp h.1 c hc
  simpa using this
theorem ix_ok {K : PySem.W.Frag} {x y z : D} {v w : V} {H F : Hp} {Q : VK} (h : idxD x y = some z) (hx : RepH K F H x v) (hy : Rep K F y w) (s : Same F H) (q : ∀ u, Rep K F z u → Q u H) : rIx K v w H Q := by
  unfold idxD at h
  split at h
  · obtain ⟨a, vs, e, l, r⟩ := hx.lst s
    obtain ⟨u, e2, ru⟩ := atL_at r h
    exact .inl ⟨a, vs, _, u, e, Rep.int_iff.mp hy, l, e2, q u ru⟩
  · obtain ⟨a, vs, e, l, r⟩ := Rep.tup_iff.mp (hx.of_notL fun _ z => by cases z)
    obtain ⟨u, e2, ru⟩ := atL_at r h
    exact .inr (.inl ⟨a, vs, _, u, e, Rep.int_iff.mp hy, SqT.mono s l, e2, q u ru⟩)
  · rename_i t i
    obtain ⟨c, hc, e⟩ := Option.map_eq_some_iff.mp h
    subst e
    obtain ⟨e, o⟩ := Rep.str_iff.mp (hx.of_notL fun _ z => by cases z)
    exact .inr (.inr ⟨_, _, c, e, Rep.int_iff.mp hy, by rw [len_mk]; exact o.len, atL_sig hc, q _ (Rep.str_iff.mpr ⟨rfl, o.one (atL_mem hc)⟩)⟩)
  · cases h
theorem q_idx (ha : QE X ca W a fa) (hb : QE X ca W b fb) (hs : noSlice b = true) : QE X ca W (.Subscript a b pos) (fun r => (fa r).bind fun x r => (fb r).bind fun y r => .of (idxD x y) r) := by
  refine PE.weak (pe_ix ix_seq ha hb (plainIx hs)) fun σ H Q ⟨r, F, p, h⟩ => ⟨r, F, p, Fi.step h fun x r1 v H1 F1 p1 q1 h => ⟨r1, F1, p1.rp, Fi.step h fun y r2 w H2 F2 p2 q2 h => ?_⟩⟩
  cases e : idxD x y with
  | none => rw [e] at h; exact h.elim
  | some z => rw [e] at h; exact ix_ok e (.inl (q1.mono p2.f)) q2 p2.rp.sub fun u ru => h u _ _ (Ps.refl p2.rp) ru
theorem q_idxv {i : Nat} {x : Str} {px : Pos} (hN : X.N[i]? = some x) (hv : Vis X.env.scope x) (hd : (x == ("__debug__" : Str)) = false) (hcd : (x == ("__classdict__" : Str)) = false) (hb : QE X ca W b fb) (hs : noSlice b = true) :
    QE X ca W (.Subscript (.Name x px) b pos) (fun r => if (pkv i r).isSome then (fb r).bind fun y r => .of ((pkv i r).bind fun x => idxD x y) r else .bad) := by
  refine PE.weak (pe_ix ix_seq (pe_var hN hv hd hcd) hb (plainIx hs)) fun σ H Q ⟨r, F, p, h⟩ => ?_
  dsimp only at h
  split at h
  case isFalse => exact h.elim
  rename_i h0
  obtain ⟨x0, e0⟩ := Option.isSome_iff_exists.mp h0
  obtain ⟨v, hv, _⟩ := p.pk e0
  refine ⟨v, hv, r, F, p, Fi.step h fun y r1 w H1 F1 p1 q1 h => ?_⟩
  cases e : pkv i r1 with
  | none => rw [e] at h; exact h.elim
  | some x =>
    rw [e] at h
    obtain ⟨v', hv', q⟩ := p1.rp.pk e
    rw [hv] at hv'
    cases hv'
    cases e2 : idxD x y with
    | none => simp only [Option.bind, e2] at h; exact h.elim
    | some z => simp only [Option.bind, e2] at h; exact ix_ok e2 q q1 p1.rp.sub fun u ru => h u _ _ (Ps.refl p1.rp) ru

theorem q_lenv {i : Nat} {x : Str} {p px : Pos} (hN : X.N[i]? = some x) (hv : Vis X.env.scope x) (hd : (x == ("__debug__" : Str)) = false) (hcd : (x == ("__classdict__" : Str)) = false) (hg : Gl X "len") (hm : X.mg "len" = none) :
    QE X ca W (.Call (.Name "len" p) [.Name x px] [] pos) (fun r => .of ((pkv i r).bind lenD) r) := by
  refine PE.weak (pe_callB call_len hg hm PySem.boot_len (pa_cons (pe_var hN hv hd hcd) pa_nil)) fun σ H Q ⟨r, F, p, h⟩ => ?_
  dsimp only at h
  cases e : pkv i r with
  | none => rw [e] at h; exact h.elim
  | some x =>
    rw [e] at h
    obtain ⟨v, hv, q⟩ := p.pk e
    refine ⟨v, hv, v, ?_⟩
    cases x with
    | lst l =>
      obtain ⟨a, vs, e1, s1, z1⟩ := q.lst p.sub
      subst e1
      exact ⟨vs.length, rfl, .inl ⟨_, s1, rfl⟩, h _ _ _ (Ps.refl p) (Rep.int_iff.mpr (by rw [z1.length]))⟩
    | tup l =>
      obtain ⟨a, vs, e1, s1, z1⟩ := Rep.tup_iff.mp (q.of_notL fun _ z => by cases z)
      subst e1
      exact ⟨vs.length, rfl, .inr ⟨_, SqT.mono p.sub s1, rfl⟩, h _ _ _ (Ps.refl p) (Rep.int_iff.mpr (by rw [z1.length]))⟩
    | str s =>
      obtain ⟨e1, o⟩ := Rep.str_iff.mp (q.of_notL fun _ z => by cases z)
      subst e1
      exact ⟨s.length, rfl, ⟨by rw [len_mk]; exact o.len, by rw [len_mk]⟩, h _ _ _ (Ps.refl p) (Rep.int_iff.mpr rfl)⟩
    | _ => exact h.elim

/-! ### slices -/
def relO : Rl (Option Int) (Option Int) := fun _ a b => a = b
def tO (K : PySem.W.Frag) (ca : Nat → Addr) (W : WX) (f : St → R (Option Int)) : TO := fun σ H Q => ∃ r F, Rp K r σ H F ∧ Fi K ca W relO (f r) r σ H F Q
theorem PO.weak {e : Option Expr} {t t' : TO} (h : PO X e t) (w : ∀ σ H Q, t' σ H Q → t σ H Q) : PO X e t' := ⟨fun pins s σ H Q I q => h.run pins s σ H Q I (w σ H Q q)⟩
theorem qo_none : PO X none (tO X.K ca W fun r => .ok none r) := PO.weak po_none fun σ H Q ⟨r, F, p, h⟩ => h _ _ _ (Ps.refl p) rfl
theorem qo_some (ha : QE X ca W a fa) : PO X (some a) (tO X.K ca W fun r => (fa r).bind fun d r => match d with | .int i => .ok (some i) r | _ => .bad) := by
  refine PO.weak (po_some ha) fun σ H Q ⟨r, F, p, h⟩ => ⟨r, F, p, Fi.step h fun x r1 v H1 F1 p1 q1 h => ?_⟩
  cases x with
  | int i => exact ⟨i, Rep.int_iff.mp q1, h _ _ _ (Ps.refl p1.rp) rfl⟩
  | _ => exact h.elim
theorem clip_sIx (n d : Nat) (o : Option Int) : clip n d o = HT.sIx n d o := by cases o <;> rfl
theorem cut_cutV (vs : List V) (lo hi : Option Int) : cut vs lo hi = cutV vs lo hi := by unfold cut cutV; rw [clip_sIx, clip_sIx]
theorem Reps.cut {K : PySem.W.Frag} {F : Hp} {l : List D} {vs : List V} (q : Reps K F l vs) (lo hi : Option Int) : Reps K F (Z.cut l lo hi) (cutV vs lo hi) := by
  rw [← cut_cutV]
  unfold Z.cut
  rw [q.length]
  exact Reps.take _ (Reps.drop _ q)
theorem SOk.cut {s : List Nat} (h : SOk s) (lo hi : Option Int) : SOk (Z.cut s lo hi) := by
  refine ⟨?_, ?_⟩
  · rw [List.all_eq_true]
    intro c hc
    exact List.all_eq_true.mp h.1 c (List.mem_of_mem_drop (List.mem_of_mem_take hc))
  · unfold Z.cut
    have := h.2
    rw [List.length_take, List.length_drop]
    omega
theorem cut_S (s : List Nat) (lo hi : Option Int) : cutS ⟨s.toArray⟩ lo hi = ⟨(cut s lo hi).toArray⟩ := by
  unfold cutS cut
  rw [len_mk, clip_sIx, clip_sIx]
def rSlA (K : PySem.W.Frag) : V → Option Int → Option Int → Hp → VK → Prop := fun x lo hi H Q => rSlL K x lo hi H Q ∨ (rSlT K x lo hi H Q ∨ rSlS x lo hi H Q)
theorem q_sli {lo hi : Option Expr} {fl fh : St → R (Option Int)} {p2 : Pos} (ha : QE X ca W a fa) (hl : PO X lo (tO X.K ca W fl)) (hh : PO X hi (tO X.K ca W fh)) :
    QE X ca W (.Subscript a (.Slice lo hi none p2) pos) (fun r => (fa r).bind fun x r => (fl r).bind fun l r => (fh r).bind fun h r => .of (sliD x l h) r) := by
  refine PE.weak (pe_slice (r := rSlA X.K) (sl_list.or (sl_tup.or sl_str)) ha hl hh) fun σ H Q ⟨r, F, p, h⟩ => ⟨r, F, p, Fi.step h fun x r1 v H1 F1 p1 q1 h => ⟨r1, F1, p1.rp, Fi.step h fun l r2 l' H2 F2 p2 q2 h => ⟨r2, F2, p2.rp, Fi.step h fun u r3 u' H3 F3 p3 q3 h => ?_⟩⟩⟩
  cases q2
  cases q3
  have q1 := q1.mono (p2.f.trans p3.f)
  cases x with
  | lst xs =>
    obtain ⟨a, vs, e1, s1, z1⟩ := Rep.lst_iff.mp q1
    refine .inl ⟨a, vs, e1, SqL.mono p3.rp.sub s1, fun q hq => ?_⟩
    have hn := p3.rp.new (o := .lst (cutV vs l u)) hq
    exact h _ _ _ hn (Rep.lst_iff.mpr ⟨q, _, rfl, SqL.of upd_same, (z1.cut l u).mono hn.f⟩)
  | tup xs =>
    obtain ⟨a, vs, e1, s1, z1⟩ := Rep.tup_iff.mp q1
    dsimp only [sliD] at h
    split at h
    · exact h.elim
    · rename_i hw
      refine .inr (.inl ⟨a, vs, e1, SqT.mono p3.rp.sub s1, ?_, fun q hq => ?_⟩)
      · rw [← clip_sIx, ← clip_sIx, ← z1.length]
        exact hw
      · have hn := p3.rp.new (o := .tup (cutV vs l u)) hq
        exact h _ _ _ hn (Rep.tup_iff.mpr ⟨q, _, rfl, SqT.of upd_same, (z1.cut l u).mono hn.f⟩)
  | str xs =>
    obtain ⟨e1, o⟩ := Rep.str_iff.mp q1
    refine .inr (.inr ⟨_, e1, by rw [len_mk]; exact o.len, ?_⟩)
    rw [cut_S]
    exact h _ _ _ (Ps.refl p3.rp) (Rep.str_iff.mpr ⟨rfl, o.cut l u⟩)
  | _ => exact h.elim
end
end Z

/-! ZL: list(text) -/
namespace Z
open PySem PySem.Calls PyProof.Rows PyProof.V PySem.Spec PySem.W
section
variable {prog : Program} {w : World} {A : Around} {E : Value → Shared → Prop} {s : Shared} {x : Str} {t : Tok}
theorem ls_hint {Q : Bool → Shared → Prop} (h : Q false s) : wpAny (model prog w) A (Builtin.List.listLengthHint (.str x t)) Q E s := by
  have hT : s.TypeIs (.str x t) "str" := typeIs_str s x t
  have hl : typeLookup (.type "str") "__len__" = pure (some (.builtin "str.__len__")) := by rw [typeLookup_type, builtinLookup_eq_fast]; kernel_rfl
  unfold Builtin.List.listLengthHint
  refine wpAny_bind (wpAny_specialOf hT hl ?_)
  generalize hid : ("str.__len__" : String) = id0
  wp_delta
  rw [show splitId id0 = some ("str", "__len__") from by subst hid; decide +kernel]
  subst hid
  refine wpAny_bind (wpAny_isInstance (T := "str") (b := true) hT (by rw [isSubtype_type]; kernel_rfl) ?_)
  refine wpAny_ite_split (fun hab => absurd hab (by decide)) (fun _ => ?_)
  refine wpAny_ite_split (fun _ => ?_) (fun hab => absurd (by decide +kernel) hab)
  refine wpAny_bind (wpAny_typeOf hT ?_)
  exact wpAny_pure h
theorem ls_iter (hh : A.handled = none) : ∃ (oI : Obj) (St : Nat → Heap → Prop), (∀ (A' : Around) (E' : Value → Shared → Prop) (Q : Value → Shared → Prop), Q (.ref s.heap.objs.size) { s with heap := s.heap.push oI } → wpAny (model prog w) A' (pyIter (.str x t)) Q E' s) ∧
    Walks prog w A s.heap.objs.size [s.heap.objs.size] [s.heap.objs.size] x.cps.size (SignAt x) St ∧ St 0 (s.heap.push oI) := by
  cases ha : x.cps.all (· < 128)
  · exact ⟨_, _, fun _ _ _ hq => wpAny_pyIter_wide ha hq, Walks.strWide hh _ x t, ⟨_, Heap.get?_push_size _ rfl, rfl, rfl⟩⟩
  · exact ⟨_, _, fun _ _ _ hq => wpAny_pyIter_ascii ha hq, Walks.strAscii hh _ x t, ⟨_, Heap.get?_push_size _ rfl, rfl, rfl⟩⟩
theorem ls_extend {R : Result → Shared → Prop} (hh : A.handled = none) (S : Addr) (res : Value) (c₀ : Nat) (hS : s.heap.get? S = some { cls := .type "list", data := .seq #[] c₀ })
    (hR : ∀ h' tk acc' c', (∀ b o, b ≠ S → s.heap.get? b = some o → h'.get? b = some o) → h'.get? S = some { cls := .type "list", dict := none, data := .seq acc' c', slots := #[] } → ItemsOf (SignAt x) acc' x.cps.size → R (.ok (.ret res)) { s with heap := h', toks := tk }) (hn : x.cps.size ≤ sizeLine) :
    wpAny (model prog w) A.in1 (Builtin.List.listExtendWith (.ref S) (.str x t) res)
      (fun fin s' => match fin with | .done f => R (.ok f) s' | .again c' => c'.quiet = true ∧ codeAny (model prog w) A c' R s') (fun e s' => R (.error e) s') s := by
  have hSI : S ≠ s.heap.objs.size := Nat.ne_of_lt (Heap.lt_size hS)
  have hSf : S ∉ [s.heap.objs.size] := by simp only [List.mem_cons, List.not_mem_nil, or_false]; exact hSI
  obtain ⟨oI, St, hit, W, st⟩ := ls_iter (prog := prog) (w := w) (A := A.in1) (s := s) (x := x) (t := t) hh
  have key : ∀ (h : Heap) (c₁ tk : Nat), St 0 h → (∀ b o, b ≠ S → s.heap.get? b = some o → h.get? b = some o) →
      h.get? S = some { cls := .type "list", data := .seq #[] c₁ } → codeAny (model prog w) A (.builtin "list.extend.loop" ⟨[.ref S, .ref s.heap.objs.size, res], []⟩) R { s with heap := h, toks := tk } := by
    intro h c₁ tk hst hk hS₁
    refine codeAny_extend_loopS W.toS hn S hSf res x.cps.size 0 _ #[] c₁ rfl (Nat.zero_le _) hst hS₁ (ItemsOf.nil _) fun s' acc' c' hm hS' hacc => ?_
    rw [Moved.eq_with hm]
    refine hR s'.heap s'.toks acc' c' (fun b o hb e => hm.heap b o (fun hmem => ?_) (hk b o hb e)) hS' hacc
    rcases List.mem_cons.mp hmem with e' | hmem
    · exact hb e'
    · exact absurd (Heap.lt_size e) (by rw [List.mem_singleton.mp hmem]; exact Nat.lt_irrefl _)
  unfold Builtin.List.listExtendWith
  refine wpAny_bind (wpAny_typeOf (T := "str") (typeIs_str s x t) ?_)
  have h1 : Builtin.List.listSameRef (.ref S) (.str x t) = false := rfl
  simp only [h1, show (Value.type "str" == Value.type "list") = false from by decide, show (Value.type "str" == Value.type "tuple") = false from by decide, Bool.or_false, Bool.false_eq_true, if_false]
  refine wpAny_bind (hit _ _ _ ?_)
  have hS₁ := Heap.get?_push_of_some oI hS
  refine wpAny_bind (wpAny_holding (ls_hint ?_))
  refine wpAny_ite_split (fun _ => ?_) (fun _ => wpAny_pure ⟨plainId_quiet PySem.F.plain_extend_loop _, key _ c₀ _ st (fun b o _ e => Heap.get?_push_of_some _ e) hS₁⟩)
  refine wpAny_bind (wpAny_rule ?_)
  refine wpAny_bind ?_
  show wpAny _ _ (updateSeq S (·.push .none) >>= fun _ => updateSeq S (·.pop)) _ _ _
  refine wpAny_bind (wpAny_updateSeq hS₁ rfl ?_)
  have hS₂ := Heap.get?_update_self (Obj.mapSeq (·.push Value.none)) hS₁ rfl
  refine wpAny_updateSeq (hz := by seq_fits) hS₂ rfl ?_
  have hS₃ := Heap.get?_update_self (Obj.mapSeq (·.pop)) hS₂ rfl
  refine wpAny_pure ⟨plainId_quiet PySem.F.plain_extend_loop _, key _ _ _ ?_ (fun b o hb e => ?_) hS₃⟩
  · refine W.frame 0 _ _ st fun b hb o e => ?_
    have hbS : b ≠ S := fun h => hSf (h ▸ hb)
    exact (Heap.get?_update_other _ _ (Ne.symm hbS)).trans ((Heap.get?_update_other _ _ (Ne.symm hbS)).trans e)
  · exact (Heap.get?_update_other _ _ (Ne.symm hb)).trans ((Heap.get?_update_other _ _ (Ne.symm hb)).trans (Heap.get?_push_of_some _ e))
theorem ls_init {R : Result → Shared → Prop} (hh : A.handled = none) (S : Addr) (hS : s.heap.get? S = some { cls := .type "list", data := .seq #[] })
    (hR : ∀ h' tk acc' c', (∀ b o, b ≠ S → s.heap.get? b = some o → h'.get? b = some o) → h'.get? S = some { cls := .type "list", dict := none, data := .seq acc' c', slots := #[] } → ItemsOf (SignAt x) acc' x.cps.size → R (.ok (.ret .none)) { s with heap := h', toks := tk }) (hn : x.cps.size ≤ sizeLine) :
    wpAny (model prog w) A.in1 (Builtin.«list.__init__» ⟨[.ref S, .str x t], []⟩)
      (fun fin s' => match fin with | .done f => R (.ok f) s' | .again c' => c'.quiet = true ∧ codeAny (model prog w) A c' R s') (fun e s' => R (.error e) s') s := by
  show wpAny _ _ (do let old ← Builtin.List.listItems (.ref S); Builtin.List.listUpdate (.ref S) (fun _ => #[]); letGo old.toList.reverse; Builtin.List.listExtendWith (.ref S) (.str x t) .none) _ _ s
  refine wpAny_bind ?_
  unfold Builtin.List.listItems
  refine wpAny_bind (wpAny_seqItems hS rfl (wpAny_pure ?_))
  show wpAny _ _ (updateSeq S (fun _ => #[]) >>= fun _ => letGo (#[] : Array Value).toList.reverse >>= fun _ => Builtin.List.listExtendWith (.ref S) (.str x t) .none) _ _ s
  refine wpAny_bind (wpAny_updateSeq hS rfl ?_)
  have hS₂ := Heap.get?_update_self (Obj.mapSeq (fun _ => (#[] : Array Value))) hS rfl
  have oth : ∀ b o, b ≠ S → s.heap.get? b = some o → (s.heap.update S (Obj.mapSeq (fun _ => (#[] : Array Value)))).get? b = some o :=
    fun b o hb e => (Heap.get?_update_other _ _ (Ne.symm hb)).trans e
  refine wpAny_bind (wpAny_letGo ?_)
  refine ls_extend hh S .none _ hS₂ (fun h' tk acc' c' hk hS' hacc => ?_) hn
  exact hR h' tk acc' c' (fun b o hb e => hk b o hb (oth b o hb e)) hS' hacc
theorem ls_call {Q : Value → Shared → Prop} (hh : A.handled = none) (hn : x.cps.size ≤ sizeLine)
    (hQ : ∀ h' tk acc' c', (∀ b o, s.heap.get? b = some o → h'.get? b = some o) → h'.get? s.heap.objs.size = some { cls := .type "list", dict := none, data := .seq acc' c', slots := #[] } → ItemsOf (SignAt x) acc' x.cps.size → Q (.ref s.heap.objs.size) { s with heap := h', toks := tk }) :
    wpAny (model prog w) A (call (.type "list") [.str x t]) Q E s := by
  refine callType_codes (Q₁ := fun obj s₁ => obj = .ref s.heap.objs.size ∧ s₁ = { s with heap := s.heap.push { cls := .type "list", data := .seq #[] } }) PySem.F.called_list (PySem.F.typeCall_list_1 _) PySem.F.entry_list_init
    (code_list_new _ ⟨rfl, rfl⟩) fun obj s₁ h₁ => ?_
  obtain ⟨rfl, rfl⟩ := h₁
  have hS : (s.heap.push { cls := .type "list", data := .seq #[] }).get? s.heap.objs.size = some { cls := .type "list", data := .seq #[] } := Heap.get?_push_size _ rfl
  refine ⟨⟨_, hS, rfl⟩, PySem.F.args_list_init_2 _ _, ls_init (A := A.in1) hh _ hS (fun h' tk acc' c' hk hS' hacc => ?_) hn⟩
  exact ⟨rfl, hQ h' tk acc' c' (fun b o e => hk b o (Nat.ne_of_lt (Heap.lt_size e)) (Heap.get?_push_of_some _ e)) hS' hacc⟩

end
end Z
namespace Z
open PySem PySem.Spec PyProof.Rows L2
def signs (s : List Nat) : List V := s.map fun c => V.str ⟨[c].toArray⟩
theorem call_list_str {X : Cx} (hc : X.calm = true) : CallR X (.type "list") (fun xs H Q => ∃ s : List Nat, xs = [.str ⟨s.toArray⟩] ∧ s.length ≤ sizeLine ∧ ∀ q, H q = none → Q (.ref q) (upd H q (.lst (signs s)))) := by
  intro pins s σ H xs us Q I r h
  obtain ⟨y, e, hz, q⟩ := h
  subst e
  obtain ⟨u, eu, rx⟩ := vals1 r
  subst eu
  obtain ⟨t, rfl⟩ := rx
  refine ls_call (I.ok.hd hc) (by simpa using hz) fun h' tk acc' c' hkeep hS hacc => ?_
  refine ⟨.ref s.heap.objs.size, upd H s.heap.objs.size (.lst (signs y)), I.laid hkeep (Nat.le_refl _) (show ObjOk X.prog X.w _ _ _ (.lst (signs y)) from ⟨?_, acc'.toList, c', ?_, ?_⟩), rfl, q _ (I.hok.fresh (Nat.le_refl _))⟩
  · unfold signs; rw [List.length_map]; exact hz
  · have el : acc'.toList.length = acc'.size := by simp
    refine vals_of_at (by unfold signs; rw [List.length_map, el, hacc.1]; simp) fun j x w h1 h2 => ?_
    obtain ⟨c, u, hc, hw⟩ := hacc.2 j w (by rw [← Array.getElem?_toList]; exact h2)
    subst hw
    unfold signs at h1
    rw [List.getElem?_map, show y[j]? = some c by simpa using hc] at h1
    cases h1
    exact ⟨u, rfl⟩
  · simpa using hS
end Z

/-! Z6: built-in functions, methods, isinstance -/
namespace Z
open PySem PySem.Spec PyProof.Rows L2 TL

section
variable {K : PySem.W.Frag} {F H : Hp}
theorem ints_vals : ∀ {l : List D} {ns : List Int} {vs : List V}, intsOf l = some ns → Reps K F l vs → vs = ns.map V.int
  | [], _, _, h, r => by simp only [intsOf] at h; cases h; simp only [Reps] at r; exact r
  | d :: l, ns, _, h, r => by
    simp only [Reps] at r
    obtain ⟨v, w, rfl, q, z⟩ := r
    cases d <;> simp only [intsOf, reduceCtorEq, Option.map_eq_some_iff] at h
    obtain ⟨ms, h1, rfl⟩ := h
    rw [Rep.int_iff.mp q, ints_vals h1 z]
    rfl
theorem bls_vals : ∀ {l : List D} {ns : List Bool} {vs : List V}, blsOf l = some ns → Reps K F l vs → vs = ns.map V.bl
  | [], _, _, h, r => by simp only [blsOf] at h; cases h; simp only [Reps] at r; exact r
  | d :: l, ns, _, h, r => by
    simp only [Reps] at r
    obtain ⟨v, w, rfl, q, z⟩ := r
    cases d <;> simp only [blsOf, reduceCtorEq, Option.map_eq_some_iff] at h
    obtain ⟨ms, h1, rfl⟩ := h
    rw [Rep.bl_iff.mp q, bls_vals h1 z]
    rfl
theorem strs_vals : ∀ {l : List D} {ns : List (List Nat)} {vs : List V}, strsOf l = some ns → Reps K F l vs → vs = (ns.map fun s => (⟨s.toArray⟩ : Str)).map V.str ∧ ∀ s ∈ ns, SOk s
  | [], _, _, h, r => by simp only [strsOf] at h; cases h; simp only [Reps] at r; exact ⟨r, fun s hs => by cases hs⟩
  | d :: l, ns, _, h, r => by
    simp only [Reps] at r
    obtain ⟨v, w, rfl, q, z⟩ := r
    cases d <;> simp only [strsOf, reduceCtorEq, Option.map_eq_some_iff] at h
    obtain ⟨ms, h1, rfl⟩ := h
    obtain ⟨e, o⟩ := Rep.str_iff.mp q
    obtain ⟨e2, o2⟩ := strs_vals h1 z
    rw [e, e2]
    refine ⟨rfl, fun s hs => ?_⟩
    rcases List.mem_cons.mp hs with rfl | hs
    · exact o
    · exact o2 s hs
theorem signs_vals : ∀ (s : List Nat), SOk s → Reps K F (s.map fun c => .str [c]) (s.map fun c => SV [c])
  | [], _ => Reps.nil
  | c :: s, h => Reps.cons (Rep.str_iff.mpr ⟨rfl, h.one List.mem_cons_self⟩) (signs_vals s ⟨by have := h.1; rw [List.all_cons, Bool.and_eq_true] at this; exact this.2, by have := h.2; simp only [List.length_cons] at this; omega⟩)
end

section
variable {X : Cx} {ca : Nat → Addr} {W : WX} {pos : Pos} {n : Nat}
/-- what a built-in asks, by the data of its arguments -/
structure CbS (X : Cx) (f : Value) (g : List D → Option D) (rd : List V → Hp → VK → Prop) : Prop where
  op : CallR X f rd
  ok : ∀ {l : List D} {d : D} {vs : List V} {r : St} {σ : L2.St} {H F : Hp} {Q : VK}, g l = some d → Reps X.K F l vs → Rp X.K r σ H F →
    (∀ z H' F', Ps X.K r r σ H F H' F' → Rep X.K F' d z → Q z H') → rd vs H Q
theorem reps1 {K : PySem.W.Frag} {F : Hp} {d : D} {vs : List V} (r : Reps K F [d] vs) : ∃ v, vs = [v] ∧ Rep K F d v := by
  simp only [Reps] at r
  obtain ⟨v, w, rfl, q, rfl⟩ := r
  exact ⟨v, rfl, q⟩
theorem reps2 {K : PySem.W.Frag} {F : Hp} {d e : D} {vs : List V} (r : Reps K F [d, e] vs) : ∃ v w, vs = [v, w] ∧ Rep K F d v ∧ Rep K F e w := by
  simp only [Reps] at r
  obtain ⟨v, w, rfl, q, u, z, rfl, q2, rfl⟩ := r
  exact ⟨v, u, rfl, q, q2⟩
theorem cb_len : CbS X (.builtin "len") (Bi.f .len) (fun xs H Q => ∃ x n, xs = [x] ∧ LenV X.K x H n ∧ Q (.int n) H) := by
  refine ⟨call_len, ?_⟩
  intro l d vs r σ H F Q hg hr p q
  unfold Bi.f at hg
  split at hg <;> try contradiction
  rename_i x _
  obtain ⟨v, rfl, hv⟩ := reps1 hr
  cases x <;> simp only [lenD, Option.some.injEq, reduceCtorEq] at hg <;> subst hg
  · obtain ⟨e1, o⟩ := Rep.str_iff.mp hv
    subst e1
    exact ⟨_, _, rfl, ⟨by rw [len_mk]; exact o.len, by rw [len_mk]⟩, q _ _ _ (Ps.refl p) (Rep.int_iff.mpr rfl)⟩
  · obtain ⟨a, vs, e1, s1, z1⟩ := Rep.lst_iff.mp hv
    subst e1
    exact ⟨_, vs.length, rfl, .inl ⟨_, SqL.mono p.sub s1, rfl⟩, q _ _ _ (Ps.refl p) (Rep.int_iff.mpr (by rw [z1.length]))⟩
  · obtain ⟨a, vs, e1, s1, z1⟩ := Rep.tup_iff.mp hv
    subst e1
    exact ⟨_, vs.length, rfl, .inr ⟨_, SqT.mono p.sub s1, rfl⟩, q _ _ _ (Ps.refl p) (Rep.int_iff.mpr (by rw [z1.length]))⟩
theorem cb_tuple : CbS X (.type "tuple") (Bi.f .tuple) (fun xs H Q => ∃ p ys, xs = [.ref p] ∧ ((SqL X.K H p ys ∧ ∀ l, H l = none → Q (.ref l) (upd H l (.tup ys))) ∨ (SqT X.K H p ys ∧ Q (.ref p) H))) := by
  refine ⟨call_tuple_of, ?_⟩
  intro l d vs r σ H F Q hg hr p q
  unfold Bi.f at hg
  split at hg <;> try contradiction
  all_goals
    first | (cases hg; done) | skip
  · cases hg
    obtain ⟨v, rfl, hv⟩ := reps1 hr
    obtain ⟨a, vs, e1, s1, z1⟩ := Rep.lst_iff.mp hv
    subst e1
    refine ⟨a, vs, rfl, .inl ⟨SqL.mono p.sub s1, fun l hl => ?_⟩⟩
    have hn := p.new (o := .tup vs) hl
    exact q _ _ _ hn (Rep.tup_iff.mpr ⟨l, _, rfl, SqT.of upd_same, z1.mono hn.f⟩)
  · cases hg
    obtain ⟨v, rfl, hv⟩ := reps1 hr
    obtain ⟨a, vs, e1, s1, z1⟩ := Rep.tup_iff.mp hv
    subst e1
    exact ⟨a, vs, rfl, .inr ⟨SqT.mono p.sub s1, q _ _ _ (Ps.refl p) hv⟩⟩
theorem reps_signs {K : PySem.W.Frag} {F : Hp} : ∀ {s : List Nat}, SOk s → Reps K F (s.map fun c => .str [c]) (signs s)
  | [], _ => Reps.nil
  | c :: s, h => by
    have h1 : c < 0x110000 := by simpa using (List.all_eq_true.mp h.1) c List.mem_cons_self
    refine Reps.cons (Rep.str_iff.mpr ⟨rfl, by simpa using h1, by simp [LINE]⟩) (reps_signs ⟨?_, ?_⟩)
    · have := h.1
      simp only [List.all_cons, Bool.and_eq_true] at this
      exact this.2
    · have := h.2
      simp only [List.length_cons] at this
      omega
theorem cb_list (c : X.calm = true) : CbS X (.type "list") Bi.listG (fun xs H Q => (∃ p ys, xs = [.ref p] ∧ (SqL X.K H p ys ∨ SqT X.K H p ys) ∧ ∀ l, H l = none → Q (.ref l) (upd H l (.lst ys))) ∨ ∃ s : List Nat, xs = [.str ⟨s.toArray⟩] ∧ s.length ≤ sizeLine ∧ ∀ q, H q = none → Q (.ref q) (upd H q (.lst (signs s)))) := by
  refine ⟨fun pins s σ H xs us Q I r h => h.elim (call_list_of pins s σ H xs us Q I r) (call_list_str c pins s σ H xs us Q I r), ?_⟩
  intro l d vs r σ H F Q hg hr p q
  unfold Bi.listG at hg
  split at hg
  · cases hg
    obtain ⟨v, rfl, hv⟩ := reps1 hr
    obtain ⟨a, vs, e1, s1, z1⟩ := Rep.lst_iff.mp hv
    subst e1
    refine .inl ⟨a, vs, rfl, .inl (SqL.mono p.sub s1), fun l hl => ?_⟩
    have hn := p.new (o := .lst vs) hl
    exact q _ _ _ hn (Rep.lst_iff.mpr ⟨l, _, rfl, SqL.of upd_same, z1.mono hn.f⟩)
  · cases hg
    obtain ⟨v, rfl, hv⟩ := reps1 hr
    obtain ⟨a, vs, e1, s1, z1⟩ := Rep.tup_iff.mp hv
    subst e1
    refine .inl ⟨a, vs, rfl, .inr (SqT.mono p.sub s1), fun l hl => ?_⟩
    have hn := p.new (o := .lst vs) hl
    exact q _ _ _ hn (Rep.lst_iff.mpr ⟨l, _, rfl, SqL.of upd_same, z1.mono hn.f⟩)
  · cases hg
    obtain ⟨v, rfl, hv⟩ := reps1 hr
    obtain ⟨e1, o⟩ := Rep.str_iff.mp hv
    subst e1
    refine .inr ⟨_, rfl, o.len, fun l hl => ?_⟩
    rename_i s1
    have hn := p.new (o := .lst (signs s1)) hl
    exact q _ _ _ hn (Rep.lst_iff.mpr ⟨l, _, rfl, SqL.of upd_same, reps_signs o⟩)
  · cases hg
theorem cb_max (c : X.calm = true) : CbS X (.builtin "max") (Bi.f .max2) (fun xs H Q => ∃ i j, xs = [.int i, .int j] ∧ Q (.int (if j > i then j else i)) H) := by
  refine ⟨call_max2 c, ?_⟩
  intro l d vs r σ H F Q hg hr p q
  unfold Bi.f at hg
  split at hg <;> try contradiction
  cases hg
  obtain ⟨v, w, rfl, hv, hw⟩ := reps2 hr
  rw [Rep.int_iff.mp hv, Rep.int_iff.mp hw]
  exact ⟨_, _, rfl, q _ _ _ (Ps.refl p) (Rep.int_iff.mpr rfl)⟩
theorem cb_min (c : X.calm = true) : CbS X (.builtin "min") (Bi.f .min2) (fun xs H Q => ∃ i j, xs = [.int i, .int j] ∧ Q (.int (if j < i then j else i)) H) := by
  refine ⟨call_min2 c, ?_⟩
  intro l d vs r σ H F Q hg hr p q
  unfold Bi.f at hg
  split at hg <;> try contradiction
  cases hg
  obtain ⟨v, w, rfl, hv, hw⟩ := reps2 hr
  rw [Rep.int_iff.mp hv, Rep.int_iff.mp hw]
  exact ⟨_, _, rfl, q _ _ _ (Ps.refl p) (Rep.int_iff.mpr rfl)⟩
theorem cb_abs : CbS X (.builtin "abs") (Bi.f .abs) (fun xs H Q => ∃ i, xs = [.int i] ∧ Q (.int (if i < 0 then -i else i)) H) := by
  refine ⟨call_abs, ?_⟩
  intro l d vs r σ H F Q hg hr p q
  unfold Bi.f at hg
  split at hg <;> try contradiction
  cases hg
  obtain ⟨v, rfl, hv⟩ := reps1 hr
  rw [Rep.int_iff.mp hv]
  refine ⟨_, rfl, q _ _ _ (Ps.refl p) (Rep.int_iff.mpr ?_)⟩
  congr 1
  split <;> omega
theorem cb_sum (c : X.calm = true) : CbS X (.builtin "sum") (Bi.f .sum) (rSum X.K) := by
  refine ⟨cr_sum c, ?_⟩
  intro l d vs r σ H F Q hg hr p q
  unfold Bi.f at hg
  split at hg <;> try contradiction
  obtain ⟨ns, h1, h2⟩ := Option.map_eq_some_iff.mp hg
  subst h2
  obtain ⟨v, rfl, hv⟩ := reps1 hr
  obtain ⟨a, vs, e1, s1, z1⟩ := Rep.lst_iff.mp hv
  subst e1
  have e := ints_vals h1 z1
  subst e
  exact ⟨a, ns, rfl, SqL.mono p.sub s1, q _ _ _ (Ps.refl p) (Rep.int_iff.mpr rfl)⟩
theorem cb_all (c : X.calm = true) : CbS X (.builtin "all") (Bi.f .all) (rAll X.K) := by
  refine ⟨cr_all c, ?_⟩
  intro l d vs r σ H F Q hg hr p q
  unfold Bi.f at hg
  split at hg <;> try contradiction
  obtain ⟨ns, h1, h2⟩ := Option.map_eq_some_iff.mp hg
  subst h2
  obtain ⟨v, rfl, hv⟩ := reps1 hr
  obtain ⟨a, vs, e1, s1, z1⟩ := Rep.lst_iff.mp hv
  subst e1
  have e := bls_vals h1 z1
  subst e
  exact ⟨a, ns, rfl, SqL.mono p.sub s1, q _ _ _ (Ps.refl p) (Rep.bl_iff.mpr rfl)⟩
theorem cb_any (c : X.calm = true) : CbS X (.builtin "any") (Bi.f .any) (rAny X.K) := by
  refine ⟨cr_any c, ?_⟩
  intro l d vs r σ H F Q hg hr p q
  unfold Bi.f at hg
  split at hg <;> try contradiction
  obtain ⟨ns, h1, h2⟩ := Option.map_eq_some_iff.mp hg
  subst h2
  obtain ⟨v, rfl, hv⟩ := reps1 hr
  obtain ⟨a, vs, e1, s1, z1⟩ := Rep.lst_iff.mp hv
  subst e1
  have e := bls_vals h1 z1
  subst e
  exact ⟨a, ns, rfl, SqL.mono p.sub s1, q _ _ _ (Ps.refl p) (Rep.bl_iff.mpr rfl)⟩
theorem cb_int : CbS X (.type "int") (Bi.f .int) (fun xs H Q => (∃ i, xs = [.int i] ∧ Q (.int i) H) ∨ ∃ k, xs = [.bl k] ∧ Q (.int (if k then 1 else 0)) H) := by
  refine ⟨call_int1, ?_⟩
  intro l d vs r σ H F Q hg hr p q
  unfold Bi.f at hg
  split at hg <;> try contradiction
  · cases hg
    obtain ⟨v, rfl, hv⟩ := reps1 hr
    rw [Rep.int_iff.mp hv]
    exact .inl ⟨_, rfl, q _ _ _ (Ps.refl p) (Rep.int_iff.mpr rfl)⟩
  · cases hg
    obtain ⟨v, rfl, hv⟩ := reps1 hr
    rw [Rep.bl_iff.mp hv]
    exact .inr ⟨_, rfl, q _ _ _ (Ps.refl p) (Rep.int_iff.mpr rfl)⟩
/-- its name, its value -/
def Bi.name : Bi → String
  | .len => "len"
  | .tuple => "tuple"
  | .list => "list"
  | .abs => "abs"
  | .max2 => "max"
  | .min2 => "min"
  | .sum => "sum"
  | .all => "all"
  | .any => "any"
  | .str => "str"
  | .int => "int"
def Bi.ty : Bi → Bool
  | .tuple => true
  | .list => true
  | .int => true
  | .str => true
  | _ => false
def Bi.val (b : Bi) : Value := if b.ty then .type b.name else .builtin b.name
theorem never_call {f : Value} : CbS X f (fun _ => none) (fun _ _ _ => False) := ⟨fun _ _ _ _ _ _ _ _ _ h => h.elim, fun h => by cases h⟩
theorem cb_as (c : X.calm = true) (b : Bi) : ∃ rd, CbS X b.val b.g rd := by
  cases b with
  | len => exact ⟨_, cb_len⟩
  | tuple => exact ⟨_, cb_tuple⟩
  | list => exact ⟨_, cb_list c⟩
  | abs => exact ⟨_, cb_abs⟩
  | max2 => exact ⟨_, cb_max c⟩
  | min2 => exact ⟨_, cb_min c⟩
  | sum => exact ⟨_, cb_sum c⟩
  | all => exact ⟨_, cb_all c⟩
  | any => exact ⟨_, cb_any c⟩
  | str => exact ⟨_, never_call⟩
  | int => exact ⟨_, cb_int⟩
theorem bi_boot (b : Bi) : bootBuiltins (b.name : Str) = some b.val := by cases b <;> decide +kernel
theorem bi_ne (b : Bi) : ¬ ((b.name : Str) = "__name__") := by cases b <;> decide +kernel
theorem bi_nd (b : Bi) : ((b.name : Str) == ("__debug__" : Str)) = false := by cases b <;> decide +kernel
theorem q_bi {b : Bi} {e : Expr} {es : List Expr} {fs : St → R (List D)} {p : Pos} (c : X.calm = true) (hg : Gl X (b.name : Str)) (hm : X.mg (b.name : Str) = none) (ha : QA X ca W (e :: es) fs) (hn : (e :: es).all noStar = true) :
    QE X ca W (.Call (.Name (b.name : Str) p) (e :: es) [] pos) (fun r => (fs r).bind fun l r => .of (b.g l) r) := by
  obtain ⟨rd, o⟩ := cb_as c b
  have hn2 := hn
  rw [List.all_cons, Bool.and_eq_true] at hn2
  have fin : ∀ {t : TE}, PE X (.Call (.Name (b.name : Str) p) (e :: es) [] pos) t → t = tCB rd (tAs X.K ca W fs) → QE X ca W (.Call (.Name (b.name : Str) p) (e :: es) [] pos) (fun r => (fs r).bind fun l r => .of (b.g l) r) := fun {t} h et => by
    subst et
    refine PE.weak h fun σ H Q ⟨r, F, q, h⟩ => ⟨r, F, q, Fi.step h fun l r1 vs H1 F1 p1 q1 h => ?_⟩
    cases e : b.g l with
    | none => rw [e] at h; exact h.elim
    | some z => rw [e] at h; exact o.ok e q1 p1.rp h
  have hb := bi_boot b
  have ho := o.op
  unfold Bi.val at ho hb
  cases ht : b.ty with
  | true =>
    rw [ht] at ho hb
    exact fin (pe_callTy (T := b.name) ho hg hm hb ha (bi_ne b) (bi_nd b) (star_cons hn2.1) (star_any hn2.2)) rfl
  | false =>
    rw [ht] at ho hb
    exact fin (pe_callB (id := b.name) ho hg hm hb ha (bi_ne b) (bi_nd b) (star_cons hn2.1) (star_any hn2.2)) rfl

/-! ### isinstance -/
def tyName : Nat → String
  | 0 => "int"
  | 1 => "bool"
  | 2 => "str"
  | 3 => "tuple"
  | _ => "list"
def tyD : D → Option String
  | .non => some "NoneType"
  | .bl _ => some "bool"
  | .int _ => some "int"
  | .str _ => some "str"
  | .tup _ => some "tuple"
  | .lst _ => some "list"
  | .exc _ _ => none
theorem rep_tyx {F H : Hp} {x : D} {v : V} (r : Rep X.K F x v) (s : Same F H) : ∃ t, tyD x = some t ∧ TyX X.K H v (.type t) := by
  cases x with
  | non => rw [Rep.non_iff.mp r]; exact ⟨_, rfl, .base .non⟩
  | bl b => rw [Rep.bl_iff.mp r]; exact ⟨_, rfl, .base (.bl b)⟩
  | int b => rw [Rep.int_iff.mp r]; exact ⟨_, rfl, .base (.int b)⟩
  | str b => rw [(Rep.str_iff.mp r).1]; exact ⟨_, rfl, .base (.str _)⟩
  | lst b =>
    obtain ⟨a, vs, e, q, _⟩ := Rep.lst_iff.mp r
    rw [e]
    refine ⟨_, rfl, ?_⟩
    rcases q with (q | ⟨o, q⟩) | ⟨o, its, n, q, hc, _⟩
    · exact .base (.lst (s _ _ q))
    · exact .base (.frz (s _ _ q))
    · exact .kList q hc
  | tup b =>
    obtain ⟨a, vs, e, q, _⟩ := Rep.tup_iff.mp r
    rw [e]
    refine ⟨_, rfl, ?_⟩
    rcases q with (q | ⟨o, q⟩) | ⟨o, its, n, q, hc, _⟩
    · exact .base (.tup (s _ _ q))
    · exact .fTuple (s _ _ q)
    · exact .kTuple q hc
  | exc _ _ => simp only [Rep] at r
theorem kit_tab {x : D} {t : Nat} {s : String} {b : Bool} (ht : t < 5) (h : tyD x = some s) (hi : isiD x t = some b) : kitB s (tyName t) = some b := by
  have : t = 0 ∨ t = 1 ∨ t = 2 ∨ t = 3 ∨ t = 4 := by omega
  cases x <;> simp only [tyD, Option.some.injEq, reduceCtorEq] at h <;> subst h <;> rcases this with rfl | rfl | rfl | rfl | rfl <;> simp only [isiD, Option.some.injEq] at hi <;> subst hi <;> decide +kernel
theorem ty_boot (t : Nat) : bootBuiltins (tyName t : Str) = some (.type (tyName t)) := by
  unfold tyName
  split <;> decide +kernel
theorem ty_ne (t : Nat) : ¬ ((tyName t : Str) = "__name__") := by
  unfold tyName
  split <;> decide +kernel
theorem ty_nd (t : Nat) : ((tyName t : Str) == ("__debug__" : Str)) = false := by
  unfold tyName
  split <;> decide +kernel
theorem q_isi {a : Expr} {fa : St → R D} {t : Nat} {p p2 : Pos} (ht : t < 5) (hg : Gl X "isinstance") (hm : X.mg "isinstance" = none) (hg2 : Gl X (tyName t : Str)) (hm2 : X.mg (tyName t : Str) = none) (ha : QE X ca W a fa) (hn : noStar a = true) :
    QE X ca W (.Call (.Name "isinstance" p) [a, .Name (tyName t : Str) p2] [] pos) (fun r => (fa r).bind fun x r => .of ((isiD x t).map .bl) r) := by
  have hT : PE X (.Name (tyName t : Str) p2) (tC (.ty (tyName t))) := pe_bltn hg2 hm2 (ty_boot t) rfl (ty_ne t) (ty_nd t)
  refine PE.weak (pe_callB call_isi hg hm PyProof.Rows.boot_isinstance (pa_cons ha (pa_cons hT pa_nil) (star_cons hn)) (by decide) (by decide) (star_cons hn) rfl) fun σ H Q ⟨r, F, q, h⟩ => ⟨r, F, q, Fi.step h fun x r1 v H1 F1 p1 q1 h => ?_⟩
  cases e : isiD x t with
  | none => rw [e] at h; exact h.elim
  | some b =>
    rw [e] at h
    obtain ⟨s, e1, ty⟩ := rep_tyx q1 p1.rp.sub
    exact ⟨v, _, _, _, b, rfl, .ty _, ty, kit_ty (kit_tab ht e1 e), h _ _ _ (Ps.refl p1.rp) (Rep.bl_iff.mpr rfl)⟩
end
end Z

/-! Z7: calls of the text's own defs -/
namespace Z
open PySem PySem.Spec PyProof.Rows L2 TL

/-- what a call does to the heap; o: the contents of the list handed in first -/
structure Pc (K : PySem.W.Frag) (sl : List Slot) (o : List D) (σ : L2.St) (H F H' F' : Hp) : Prop where
  f : Same F F'
  sub : Same F' H'
  h : ∀ b u, H b = some u → ¬ Own sl σ b → H' b = some u
  n : ∀ b u, H b = some u → ¬ Own sl σ b → F b = none → F' b = none
  io : ∀ l, sl[0]? = some (Slot.io l) → ∃ a ws, σ[0]? = some (some (V.ref a)) ∧ H' a = some (.lst ws) ∧ F' a = none ∧ Reps K F' o ws
def SpOf (K : PySem.W.Frag) (ca : Nat → Addr) (np : Nat) (c : List Slot → CR) : Sp := fun vs H Q E => ∃ (sl : List Slot) (F : Hp), vs.length = np ∧ Rp K sl (vs.map some) H F ∧ (∀ (i : Nat) (l : List D), sl[i]? ≠ some (.own l)) ∧ (∀ (i : Nat) (l : List D), sl[i]? = some (.io l) → i = 0) ∧ match c sl with
  | .ret d o => ∀ v H' F', Pc K sl o (vs.map some) H F H' F' → Rep K F' d v → Q v H'
  | .exc x o => ∀ cls dd H' F', Pc K sl o (vs.map some) H F H' F' → RepX K ca H' F' x cls dd → E cls dd H'
  | .bad => False

section
variable {K : PySem.W.Frag} {F H : Hp}
theorem vals_rp {l : List D} {vs : List V} (s : Same F H) (q : Reps K F l vs) : Rp K (l.map .val) (vs.map some) H F := by
  refine ⟨by rw [List.length_map, List.length_map]; exact q.length, s, fun i d e => ?_, fun i m e => ?_, fun i j m k a e => ?_⟩
  · rw [List.getElem?_map] at e
    obtain ⟨d', e1, e2⟩ := Option.map_eq_some_iff.mp e
    cases e2
    obtain ⟨v, e3, z⟩ := q.get e1
    exact ⟨v, by rw [List.getElem?_map, e3]; rfl, z⟩
  · rw [List.getElem?_map] at e
    cases h : l[i]? with
    | none => rw [h] at e; cases e
    | some d => rw [h] at e; cases e
  · rw [List.getElem?_map] at e
    cases h : l[i]? with
    | none => rw [h] at e; cases e
    | some d => rw [h] at e; cases e
theorem vals_noL {l : List D} {i : Nat} {m : List D} : ownL (l.map Slot.val)[i]? ≠ some m := by
  intro e
  rw [List.getElem?_map] at e
  cases h : l[i]? with
  | none => rw [h] at e; cases e
  | some d => rw [h] at e; cases e
theorem vals_noOwn {l : List D} {σ : L2.St} {b : Addr} : ¬ Own (l.map .val) σ b := by
  rintro ⟨i, m, e, _⟩
  rw [List.getElem?_map] at e
  cases h : l[i]? with
  | none => rw [h] at e; cases e
  | some d => rw [h] at e; cases e
theorem io_rp {l : List D} {vs ws : List V} {x : List D} {a : Addr} (s : Same F H) (q : Reps K F l vs) (ha : H a = some (.lst ws)) (hf : F a = none) (qx : Reps K F x ws) : Rp K (.io x :: l.map .val) ((V.ref a :: vs).map some) H F := by
  have p := vals_rp (K := K) s q
  refine ⟨by have := p.len; simp only [List.length_cons, List.map_cons] at this ⊢; omega, s, fun i d e => ?_, fun i m e => ?_, fun i j m k b e1 e2 _ _ => ?_⟩
  · cases i with
    | zero => cases e
    | succ i => exact p.val i d e
  · cases i with
    | zero => cases e; exact ⟨a, ws, rfl, ha, hf, qx⟩
    | succ i => exact p.own i m e
  · have z : ∀ (i : Nat) m, ownL (Slot.io x :: l.map .val)[i]? = some m → i = 0 := fun i m e => by
      cases i with
      | zero => rfl
      | succ i => exact absurd (show ownL (l.map Slot.val)[i]? = some m from e) vals_noL
    rw [z i m e1, z j k e2]

theorem Pc.ps {r : St} {σ τ : L2.St} {H' F' : Hp} {l : List D} {o : List D} (p : Rp K r σ H F) (c : Pc K (l.map .val) o τ H F H' F') : Ps K r r σ H F H' F' where
  rp := ⟨p.len, c.sub, fun i d e => let ⟨v, e1, q⟩ := p.val i d e; ⟨v, e1, q.mono c.f⟩, fun i m e => by
    obtain ⟨a, vs, e1, e2, e3, q⟩ := p.own i m e
    exact ⟨a, vs, e1, c.h _ _ e2 vals_noOwn, c.n _ _ e2 vals_noOwn e3, q.mono c.f⟩, p.apart⟩
  f := c.f
  h := fun b u e _ => c.h b u e vals_noOwn
  n := fun b u e _ => c.n b u e vals_noOwn
  sub := fun i l e => ⟨l, e⟩
  io := fun i l e => ⟨l, e⟩
theorem iov_own {v : Nat} {r : St} {x : List D} (h : iov v r = some x) : ownL r[v]? = some x := by
  unfold iov at h
  split at h <;> rename_i e <;> first | (cases h; rw [e]; rfl) | cases h
theorem setio_get {v : Nat} {r : St} {x o : List D} (h : iov v r = some x) : ∃ s, setio v o r = r.set v s ∧ ownL (some s) = some o ∧ ((∃ y, r[v]? = some (Slot.io y)) → s = .io o) ∧ (∀ d, s ≠ .val d) := by
  unfold iov at h
  unfold setio
  split at h <;> rename_i e
  · rw [e]
    exact ⟨_, rfl, rfl, ⟨fun ⟨y, z⟩ => (nomatch z), fun d z => (nomatch z)⟩⟩
  · rw [e]
    exact ⟨_, rfl, rfl, ⟨fun _ => rfl, fun d z => (nomatch z)⟩⟩
  · cases h
theorem Pc.psio {r : St} {σ τ : L2.St} {H' F' : Hp} {l o x : List D} {v : Nat} {a : Addr} (p : Rp K r σ H F) (hx : iov v r = some x) (ha : σ[v]? = some (some (V.ref a))) (c : Pc K (.io x :: l.map .val) o (some (V.ref a) :: τ) H F H' F') :
    Ps K r (setio v o r) σ H F H' F' := by
  obtain ⟨s, es, eo, eio, nv⟩ := setio_get (o := o) hx
  have hv := iov_own hx
  have hl : v < r.length := by
    cases e : r[v]? with
    | none => rw [e] at hv; cases hv
    | some z => exact (List.getElem?_eq_some_iff.mp e).1
  have own1 : ∀ b, Own (.io x :: l.map .val) (some (V.ref a) :: τ) b → b = a := fun b ⟨i, m, e, z⟩ => by
    cases i with
    | zero => cases z; rfl
    | succ i => exact absurd (show ownL (l.map Slot.val)[i]? = some m from e) vals_noL
  have noOwn : ∀ b, ¬ Own r σ b → ¬ Own (.io x :: l.map .val) (some (V.ref a) :: τ) b := fun b n z => n (by rw [own1 b z]; exact ⟨v, x, hv, ha⟩)
  have other : ∀ j m b, j ≠ v → ownL r[j]? = some m → σ[j]? = some (some (V.ref b)) → ¬ Own (.io x :: l.map .val) (some (V.ref a) :: τ) b := fun j m b hj e z w => by
    rw [own1 b w] at z
    exact hj (p.apart j v m x a e hv z ha)
  have hset : ∀ j, ownL (r.set v s)[j]? = if j = v then some o else ownL r[j]? := fun j => by
    by_cases hj : j = v
    · subst hj
      rw [List.getElem?_set_self hl, if_pos rfl]
      exact eo
    · rw [List.getElem?_set_ne (Ne.symm hj), if_neg hj]
  obtain ⟨b, ws, e1, e2, e3, q⟩ := c.io x rfl
  cases e1
  rw [es]
  refine ⟨⟨by rw [List.length_set]; exact p.len, c.sub, fun j d e => ?_, fun j m e => ?_, fun j k m m' b e1 e2 z1 z2 => ?_⟩, c.f, fun b u e n => c.h b u e (noOwn b n), fun b u e n => c.n b u e (noOwn b n), fun j m e => ?_, fun j m e => ?_⟩
  · by_cases hj : j = v
    · subst hj
      rw [List.getElem?_set_self hl] at e
      exact absurd (Option.some.inj e) (nv d)
    · rw [List.getElem?_set_ne (Ne.symm hj)] at e
      obtain ⟨w, e1, q⟩ := p.val j d e
      exact ⟨w, e1, q.mono c.f⟩
  · rw [hset] at e
    by_cases hj : j = v
    · subst hj
      rw [if_pos rfl] at e
      cases e
      exact ⟨a, ws, ha, e2, e3, q⟩
    · rw [if_neg hj] at e
      obtain ⟨b, vs, z1, z2, z3, z4⟩ := p.own j m e
      exact ⟨b, vs, z1, c.h _ _ z2 (other j m b hj e z1), c.n _ _ z2 (other j m b hj e z1) z3, z4.mono c.f⟩
  · have w : ∀ j m, ownL (r.set v s)[j]? = some m → ∃ m', ownL r[j]? = some m' := fun j m e => by
      rw [hset] at e
      by_cases hj : j = v
      · subst hj; exact ⟨x, hv⟩
      · rw [if_neg hj] at e; exact ⟨m, e⟩
    obtain ⟨m1, w1⟩ := w j m e1
    obtain ⟨m2, w2⟩ := w k m' e2
    exact p.apart j k m1 m2 b w1 w2 z1 z2
  · rw [hset] at e
    by_cases hj : j = v
    · subst hj; exact ⟨x, hv⟩
    · rw [if_neg hj] at e; exact ⟨m, e⟩
  · by_cases hj : j = v
    · subst hj
      rw [List.getElem?_set_self hl, eio ⟨m, e⟩]
      exact ⟨o, rfl⟩
    · rw [List.getElem?_set_ne (Ne.symm hj)]
      exact ⟨m, e⟩
end

section
variable {X : Cx} {ca : Nat → Addr} {W : WX} {pos p : Pos} {k : Nat} {f : Addr} {fd : FuncData} {ps : List Str} {x : Str} {c : List Slot → CR} {e : Expr} {es : List Expr} {fs : St → R (List D)}
theorem q_call (tk : Takes X W) (FO : FnOk X.prog X.w X.K X.mg X.base (L2.CX X.prog X.w) k f fd ps (SpOf X.K ca ps.length c)) (hr : Room k X.A) (hg : Gl X x) (hm : X.mg x = some (.ref f)) (hk : PySem.W.keepIn X.K (.ref f) = true) (hb : Binds X.K fd ps [])
    (hd : (x == ("__debug__" : Str)) = false) (ha : QA X ca W (e :: es) fs) (hn : (e :: es).all noStar = true) (hlen : ∀ r l r', fs r = .ok l r' → l.length = ps.length) :
    QE X ca W (.Call (.Name x p) (e :: es) [] pos) (fun r => (fs r).bind fun l r => (c (l.map .val)).val r) := by
  have hn2 := hn
  rw [List.all_cons, Bool.and_eq_true] at hn2
  refine PE.weak (pe_callS FO hr hg hm hk hb (E := WE W) (fun σ => passAt tk σ) ha hd (star_cons hn2.1) (star_any hn2.2)) fun σ H Q ⟨r, F, q, h⟩ => ⟨r, F, q, ?_⟩
  dsimp only at h
  cases e1 : fs r with
  | bad => rw [e1] at h; exact h.elim
  | exc y r1 => rw [e1] at h; exact h
  | ok l r1 =>
    rw [e1] at h
    intro vs H1 F1 p1 q1
    have h := Fi.shift p1 h
    dsimp only [R.bind] at h
    refine ⟨l.map .val, F1, by rw [← q1.length]; exact hlen r l r1 e1, vals_rp p1.rp.sub q1, fun i m z => ?_, fun i m z => ?_, ?_⟩
    · exact vals_noL (i := i) (m := m) (by rw [z]; rfl)
    · exact absurd (show ownL (l.map Slot.val)[i]? = some m by rw [z]; rfl) vals_noL
    · cases e2 : c (l.map .val) with
      | bad => rw [e2] at h; exact h.elim
      | ret d o =>
        rw [e2] at h
        exact fun v H' F' pc q => h v H' F' (Pc.ps p1.rp pc) q
      | exc y o =>
        rw [e2] at h
        exact fun cls dd H' F' pc q => h cls dd H' F' (Pc.ps p1.rp pc) q
theorem q_callio {i : Nat} {y : Str} {py : Pos} (tk : Takes X W) (FO : FnOk X.prog X.w X.K X.mg X.base (L2.CX X.prog X.w) k f fd ps (SpOf X.K ca ps.length c)) (hr : Room k X.A) (hg : Gl X x) (hm : X.mg x = some (.ref f)) (hk : PySem.W.keepIn X.K (.ref f) = true) (hb : Binds X.K fd ps [])
    (hd : (x == ("__debug__" : Str)) = false) (hN : X.N[i]? = some y) (hv : Vis X.env.scope y) (hyd : (y == ("__debug__" : Str)) = false) (hycd : (y == ("__classdict__" : Str)) = false) (ha : QA X ca W es fs) (hn : es.all noStar = true)
    (hlen : ∀ r l r', fs r = .ok l r' → l.length + 1 = ps.length) :
    QE X ca W (.Call (.Name x p) (.Name y py :: es) [] pos) (fun r => if (iov i r).isSome then (fs r).bind fun l r => (match iov i r with | some x => (c (.io x :: l.map .val)).valio i r | none => .bad) else .bad) := by
  refine PE.weak (pe_callS FO hr hg hm hk hb (E := WE W) (fun σ => passAt tk σ) (pa_cons (pe_var hN hv hyd hycd) ha) hd rfl (star_any hn)) fun σ H Q ⟨r, F, q, h⟩ => ?_
  dsimp only at h
  split at h
  case isFalse => exact h.elim
  rename_i h0
  obtain ⟨x0, e0⟩ := Option.isSome_iff_exists.mp h0
  obtain ⟨a, vs0, ea, _⟩ := q.own i x0 (iov_own e0)
  refine ⟨_, ea, r, F, q, ?_⟩
  cases e1 : fs r with
  | bad => rw [e1] at h; exact h.elim
  | exc y r1 => rw [e1] at h; exact h
  | ok l r1 =>
    rw [e1] at h
    intro vs H1 F1 p1 q1
    have h := Fi.shift p1 h
    dsimp only [R.bind] at h
    cases e3 : iov i r1 with
    | none => rw [e3] at h; exact h.elim
    | some z =>
      rw [e3] at h
      obtain ⟨a', ws, ea', ha', hf', qx⟩ := p1.rp.own i z (iov_own e3)
      rw [ea] at ea'
      cases ea'
      refine ⟨.io z :: l.map .val, F1, by rw [List.length_cons, ← q1.length]; exact hlen r l r1 e1, io_rp p1.rp.sub q1 ha' hf' qx, fun j m w => ?_, fun j m w => ?_, ?_⟩
      · cases j with
        | zero => cases w
        | succ j => exact vals_noL (l := l) (i := j) (m := m) (by rw [show (l.map Slot.val)[j]? = some (.own m) from w]; rfl)
      · cases j with
        | zero => rfl
        | succ j => exact absurd (show ownL (l.map Slot.val)[j]? = some m by rw [show (l.map Slot.val)[j]? = some (.io m) from w]; rfl) vals_noL
      · dsimp only at h
        cases e2 : c (.io z :: l.map .val) with
        | bad => rw [e2] at h; exact h.elim
        | ret d o =>
          rw [e2] at h
          exact fun v H' F' pc q => h v H' F' (Pc.psio p1.rp e3 ea pc) q
        | exc y o =>
          rw [e2] at h
          exact fun cls dd H' F' pc q => h cls dd H' F' (Pc.psio p1.rp e3 ea pc) q
end
end Z

/-! Z8: stores, walks -/
namespace Z
open PySem PySem.Spec PyProof.Rows L2 TL

/-- what a statement does to the frame and the heap -/
structure Pt (K : PySem.W.Frag) (r r' : St) (σ σ' : L2.St) (H F H' F' : Hp) : Prop where
  rp : Rp K r' σ' H' F'
  f : Same F F'
  h : ∀ b o, H b = some o → ¬ Own r σ b → H' b = some o
  n : ∀ b o, H b = some o → ¬ Own r σ b → F b = none → F' b = none
  sub : ∀ b, Own r' σ' b → Own r σ b ∨ H b = none
  io : ∀ (i : Nat) l, r[i]? = some (Slot.io l) → (∃ l', r'[i]? = some (Slot.io l')) ∧ σ'[i]? = σ[i]?
section
variable {K : PySem.W.Frag} {r r' r1 r2 : St} {σ σ' σ1 σ2 : L2.St} {H F H1 F1 H2 F2 : Hp}
theorem Ps.pt (p : Ps K r r1 σ H F H1 F1) : Pt K r r1 σ σ H F H1 F1 := ⟨p.rp, p.f, p.h, p.n, fun b o => .inl (p.ownSub o), fun i l e => ⟨p.io i l e, rfl⟩⟩
theorem Pt.refl (p : Rp K r σ H F) : Pt K r r σ σ H F H F := (Ps.refl p).pt
theorem Pt.trans (p : Pt K r r1 σ σ1 H F H1 F1) (q : Pt K r1 r2 σ1 σ2 H1 F1 H2 F2) : Pt K r r2 σ σ2 H F H2 F2 := by
  have no : ∀ b o, H b = some o → ¬ Own r σ b → ¬ Own r1 σ1 b := fun b o e n z => (p.sub b z).elim n fun w => by rw [w] at e; cases e
  refine ⟨q.rp, p.f.trans q.f, fun b o e n => q.h b o (p.h b o e n) (no b o e n), fun b o e n z => q.n b o (p.h b o e n) (no b o e n) (p.n b o e n z), fun b z => ?_, fun i l e => ?_⟩
  · rcases q.sub b z with z | z
    · exact p.sub b z
    · cases e : H b with
      | none => exact .inr rfl
      | some o =>
        refine .inl ?_
        by_cases n : Own r σ b
        · exact n
        · rw [p.h b o e n] at z
          cases z
  · obtain ⟨⟨l1, e1⟩, z1⟩ := p.io i l e
    obtain ⟨e2, z2⟩ := q.io i l1 e1
    exact ⟨e2, z2.trans z1⟩
theorem setv_some {i : Nat} {s : Slot} (h : setv i s r = some r') : r' = r.set i s ∧ i < r.length ∧ ∀ l, r[i]? ≠ some (.io l) := by
  unfold setv at h
  split at h
  · cases h
  · rename_i z hn e
    cases h
    exact ⟨rfl, (List.getElem?_eq_some_iff.mp e).1, fun l w => hn l (by rw [e] at w; exact Option.some.inj w)⟩
  · cases h
/-- a value is stored -/
theorem Rp.put (p : Rp K r σ H F) {i : Nat} {d : D} {v : V} (hi : i < r.length) (ni : ∀ l, r[i]? ≠ some (Slot.io l)) (q : Rep K F d v) : Pt K r (r.set i (.val d)) σ (σ.set i (some v)) H F H F := by
  have hi2 : i < σ.length := by rw [← p.len]; exact hi
  have own1 : ∀ (j : Nat) m, ownL (r.set i (.val d))[j]? = some m → j ≠ i ∧ ownL r[j]? = some m := fun j m e => by
    by_cases hj : j = i
    · subst hj
      rw [List.getElem?_set_self hi] at e
      cases e
    · rw [List.getElem?_set_ne (Ne.symm hj)] at e
      exact ⟨hj, e⟩
  have sg : ∀ (j : Nat), j ≠ i → (σ.set i (some v))[j]? = σ[j]? := fun j hj => by rw [List.getElem?_set_ne (Ne.symm hj)]
  refine ⟨⟨by rw [List.length_set, List.length_set]; exact p.len, p.sub, fun j x e => ?_, fun j m e => ?_, fun j k m m' b e1 e2 z1 z2 => ?_⟩, fun _ _ e => e, fun _ _ e _ => e, fun _ _ _ _ e => e, fun b ⟨j, m, e, z⟩ => ?_, fun j m e => ?_⟩
  · by_cases hj : j = i
    · subst hj
      rw [List.getElem?_set_self hi] at e
      cases e
      exact ⟨v, by rw [List.getElem?_set_self hi2], q⟩
    · rw [List.getElem?_set_ne (Ne.symm hj)] at e
      rw [sg j hj]
      exact p.val j x e
  · obtain ⟨hj, e⟩ := own1 j m e
    rw [sg j hj]
    exact p.own j m e
  · obtain ⟨hj, e1⟩ := own1 j m e1
    obtain ⟨hk, e2⟩ := own1 k m' e2
    rw [sg j hj] at z1
    rw [sg k hk] at z2
    exact p.apart j k m m' b e1 e2 z1 z2
  · obtain ⟨hj, e⟩ := own1 j m e
    rw [sg j hj] at z
    exact .inl ⟨j, m, e, z⟩
  · have hj : j ≠ i := fun z => by subst z; exact ni m e
    rw [List.getElem?_set_ne (Ne.symm hj), sg j hj]
    exact ⟨⟨m, e⟩, rfl⟩
/-- a new list becomes the frame's own -/
theorem Rp.putOwn (p : Rp K r σ H F) {i : Nat} {l : List D} {a : Addr} {vs : List V} (hi : i < r.length) (ni : ∀ l, r[i]? ≠ some (Slot.io l)) (ha : H a = none) (q : Reps K F l vs) :
    Pt K r (r.set i (.own l)) σ (σ.set i (some (V.ref a))) H F (upd H a (.lst vs)) F := by
  have hi2 : i < σ.length := by rw [← p.len]; exact hi
  have hF : F a = none := p.sub.free ha
  have own1 : ∀ (j : Nat) m, ownL (r.set i (.own l))[j]? = some m → (j = i ∧ m = l) ∨ (j ≠ i ∧ ownL r[j]? = some m) := fun j m e => by
    by_cases hj : j = i
    · subst hj
      rw [List.getElem?_set_self hi] at e
      cases e
      exact .inl ⟨rfl, rfl⟩
    · rw [List.getElem?_set_ne (Ne.symm hj)] at e
      exact .inr ⟨hj, e⟩
  have sg : ∀ (j : Nat), j ≠ i → (σ.set i (some (V.ref a)))[j]? = σ[j]? := fun j hj => by rw [List.getElem?_set_ne (Ne.symm hj)]
  have si : (σ.set i (some (V.ref a)))[i]? = some (some (V.ref a)) := List.getElem?_set_self hi2
  have old : ∀ (j : Nat) m b, ownL r[j]? = some m → σ[j]? = some (some (V.ref b)) → b ≠ a := fun j m b e z w => by
    subst w
    obtain ⟨b', vs', e1, e2, _⟩ := p.own j m e
    rw [z] at e1
    cases e1
    rw [ha] at e2
    cases e2
  refine ⟨⟨by rw [List.length_set, List.length_set]; exact p.len, fun b u e => by rw [upd_ne (ne_of_none (p.sub b u e) ha)]; exact p.sub b u e, fun j x e => ?_, fun j m e => ?_, fun j k m m' b e1 e2 z1 z2 => ?_⟩, fun _ _ e => e, fun b u e _ => by rw [upd_ne (ne_of_none e ha)]; exact e, fun _ _ _ _ e => e, fun b ⟨j, m, e, z⟩ => ?_, fun j m e => ?_⟩
  · by_cases hj : j = i
    · subst hj
      rw [List.getElem?_set_self hi] at e
      cases e
    · rw [List.getElem?_set_ne (Ne.symm hj)] at e
      rw [sg j hj]
      exact p.val j x e
  · rcases own1 j m e with ⟨rfl, rfl⟩ | ⟨hj, e⟩
    · exact ⟨a, vs, si, upd_same, hF, q⟩
    · rw [sg j hj]
      obtain ⟨b, ws, e1, e2, e3, z⟩ := p.own j m e
      exact ⟨b, ws, e1, by rw [upd_ne (old j m b e e1)]; exact e2, e3, z⟩
  · rcases own1 j m e1 with ⟨rfl, rfl⟩ | ⟨hj, y1⟩ <;> rcases own1 k m' e2 with ⟨rfl, rfl⟩ | ⟨hk, y2⟩
    · rfl
    · rw [si] at z1
      cases z1
      rw [sg k hk] at z2
      exact absurd rfl (old k m' a y2 z2)
    · rw [si] at z2
      cases z2
      rw [sg j hj] at z1
      exact absurd rfl (old j m a y1 z1)
    · rw [sg j hj] at z1
      rw [sg k hk] at z2
      exact p.apart j k m m' b y1 y2 z1 z2
  · rcases own1 j m e with ⟨rfl, rfl⟩ | ⟨hj, e⟩
    · rw [si] at z
      cases z
      exact .inr ha
    · rw [sg j hj] at z
      exact .inl ⟨j, m, e, z⟩
  · have hj : j ≠ i := fun z => by subst z; exact ni m e
    rw [List.getElem?_set_ne (Ne.symm hj), sg j hj]
    exact ⟨⟨m, e⟩, rfl⟩
/-- a list of the frame's own is changed -/
theorem Rp.chg (p : Rp K r σ H F) {i : Nat} {l l' : List D} {s : Slot} {a : Addr} {vs : List V} (h : ownL r[i]? = some l) (hs : ownL (some s) = some l') (hio : (∃ y, r[i]? = some (Slot.io y)) → s = .io l') (nv : ∀ d, s ≠ .val d) (ha : σ[i]? = some (some (V.ref a))) (q : Reps K F l' vs) :
    Ps K r (r.set i s) σ H F (upd H a (.lst vs)) F := by
  have hi : i < r.length := by
    cases e : r[i]? with
    | none => rw [e] at h; cases h
    | some z => exact (List.getElem?_eq_some_iff.mp e).1
  obtain ⟨a', ws, e1, e2, e3, _⟩ := p.own i l h
  rw [ha] at e1
  cases e1
  have hset : ∀ (j : Nat), ownL (r.set i s)[j]? = if j = i then some l' else ownL r[j]? := fun j => by
    by_cases hj : j = i
    · subst hj
      rw [List.getElem?_set_self hi, if_pos rfl]
      exact hs
    · rw [List.getElem?_set_ne (Ne.symm hj), if_neg hj]
  have back : ∀ (j : Nat) m, ownL (r.set i s)[j]? = some m → ∃ m', ownL r[j]? = some m' := fun j m e => by
    rw [hset] at e
    by_cases hj : j = i
    · subst hj; exact ⟨l, h⟩
    · rw [if_neg hj] at e; exact ⟨m, e⟩
  refine ⟨⟨by rw [List.length_set]; exact p.len, fun b u e => by rw [upd_ne (fun z => by subst z; rw [e3] at e; cases e)]; exact p.sub b u e, fun j d e => ?_, fun j m e => ?_, fun j k m m' b z1 z2 w1 w2 => ?_⟩, fun _ _ e => e, fun b u e n => ?_, fun _ _ _ _ e => e, back, fun j m e => ?_⟩
  · by_cases hj : j = i
    · subst hj
      rw [List.getElem?_set_self hi] at e
      exact absurd (Option.some.inj e) (nv d)
    · rw [List.getElem?_set_ne (Ne.symm hj)] at e
      exact p.val j d e
  · rw [hset] at e
    by_cases hj : j = i
    · subst hj
      rw [if_pos rfl] at e
      cases e
      exact ⟨a, vs, ha, upd_same, e3, q⟩
    · rw [if_neg hj] at e
      obtain ⟨b, us, z1, z2, z3, z4⟩ := p.own j m e
      have hb : b ≠ a := fun w => by subst w; exact hj (p.apart j i m l b e h z1 ha)
      exact ⟨b, us, z1, by rw [upd_ne hb]; exact z2, z3, z4⟩
  · obtain ⟨m1, y1⟩ := back j m z1
    obtain ⟨m2, y2⟩ := back k m' z2
    exact p.apart j k m1 m2 b y1 y2 w1 w2
  · have hb : b ≠ a := fun w => n (by subst w; exact ⟨i, l, h, ha⟩)
    rw [upd_ne hb]
    exact e
  · by_cases hj : j = i
    · subst hj
      rw [List.getElem?_set_self hi, hio ⟨m, e⟩]
      exact ⟨l', rfl⟩
    · rw [List.getElem?_set_ne (Ne.symm hj)]
      exact ⟨m, e⟩
end

/-! ### targets -/
def gAll : List Nat → TGs
  | [] => gNil
  | i :: is => gCons (gName i) (gAll is)
def gTg (K : PySem.W.Frag) : Tg → TG
  | .one i => gName i
  | .many is => gTup K is.length (gAll is)
/-- the same but at these places -/
def But (is : List Nat) (σ σ' : L2.St) : Prop := σ'.length = σ.length ∧ ∀ j, j ∉ is → σ'[j]? = σ[j]?
theorem But.refl (is : List Nat) (σ : L2.St) : But is σ σ := ⟨rfl, fun _ _ => rfl⟩
theorem gAll_ok {K : PySem.W.Frag} : ∀ {is : List Nat} {ds : List D} {vs : List V} {r r' : St} {σ : L2.St} {H F : Hp} {Q : L2.St → Hp → Prop}, setAll is ds r = some r' → Rp K r σ H F → Reps K F ds vs →
    (∀ σ', Pt K r r' σ σ' H F H F → But is σ σ' → Q σ' H) → gAll is vs σ H Q
  | [], [], _, r, r', σ, H, F, Q, h, p, q, k => by
    simp only [setAll, Option.some.injEq] at h
    subst h
    simp only [Reps] at q
    exact ⟨q, k σ (Pt.refl p) (But.refl _ _)⟩
  | i :: is, d :: ds, _, r, r', σ, H, F, Q, h, p, q, k => by
    simp only [Reps] at q
    obtain ⟨v, w, rfl, qv, qw⟩ := q
    simp only [setAll] at h
    obtain ⟨r1, h1, h2⟩ := Option.bind_eq_some_iff.mp h
    obtain ⟨e, hi, ni⟩ := setv_some h1
    subst e
    have p1 := p.put hi ni qv
    refine ⟨v, w, rfl, gAll_ok h2 p1.rp qw fun σ' p2 b => k σ' (p1.trans p2) ⟨by rw [b.1, List.length_set], fun j hj => ?_⟩⟩
    rw [b.2 j fun z => hj (List.mem_cons_of_mem _ z), List.getElem?_set_ne (fun z => hj (by rw [z]; exact List.mem_cons_self))]
  | [], _ :: _, _, _, _, _, _, _, _, h, _, _, _ => by simp [setAll] at h
  | _ :: _, [], _, _, _, _, _, _, _, h, _, _, _ => by simp [setAll] at h
theorem setAll_len : ∀ {is : List Nat} {ds : List D} {r r' : St}, setAll is ds r = some r' → is.length = ds.length
  | [], [], _, _, _ => rfl
  | i :: is, d :: ds, r, r', h => by
    simp only [setAll] at h
    obtain ⟨r1, h1, h2⟩ := Option.bind_eq_some_iff.mp h
    simp [setAll_len h2]
  | [], _ :: _, _, _, h => by simp [setAll] at h
  | _ :: _, [], _, _, h => by simp [setAll] at h
def Tg.is : Tg → List Nat
  | .one i => [i]
  | .many is => is
theorem gTg_okB {K : PySem.W.Frag} {t : Tg} {d : D} {v : V} {r r' : St} {σ : L2.St} {H F : Hp} {Q : L2.St → Hp → Prop} (h : setTg t d r = some r') (p : Rp K r σ H F) (q : Rep K F d v)
    (k : ∀ σ', Pt K r r' σ σ' H F H F → But t.is σ σ' → Q σ' H) : gTg K t v σ H Q := by
  cases t with
  | one i =>
    obtain ⟨e, hi, ni⟩ := setv_some (show setv i (.val d) r = some r' from h)
    subst e
    exact k _ (p.put hi ni q) ⟨by rw [List.length_set], fun j hj => by rw [List.getElem?_set_ne (fun z => hj (by rw [z]; exact List.mem_singleton_self _))]⟩
  | many is =>
    cases d with
    | tup ds =>
      have h : setAll is ds r = some r' := h
      obtain ⟨a, vs, e, s, z⟩ := Rep.tup_iff.mp q
      exact ⟨a, vs, e, SqT.mono p.sub s, by rw [← z.length]; exact (setAll_len h).symm, gAll_ok h p z k⟩
    | _ => cases h
theorem gTg_ok {K : PySem.W.Frag} {t : Tg} {d : D} {v : V} {r r' : St} {σ : L2.St} {H F : Hp} {Q : L2.St → Hp → Prop} (h : setTg t d r = some r') (p : Rp K r σ H F) (q : Rep K F d v)
    (k : ∀ σ', Pt K r r' σ σ' H F H F → Q σ' H) : gTg K t v σ H Q := gTg_okB h p q fun σ' p _ => k σ' p
theorem setAll_but : ∀ {is : List Nat} {ds : List D} {r r' : St}, setAll is ds r = some r' → r'.length = r.length ∧ ∀ j, j ∉ is → r'[j]? = r[j]?
  | [], [], r, r', h => by
    simp only [setAll, Option.some.injEq] at h
    subst h
    exact ⟨rfl, fun _ _ => rfl⟩
  | i :: is, d :: ds, r, r', h => by
    simp only [setAll] at h
    obtain ⟨r1, h1, h2⟩ := Option.bind_eq_some_iff.mp h
    obtain ⟨e, hi, ni⟩ := setv_some h1
    subst e
    obtain ⟨a, b⟩ := setAll_but h2
    refine ⟨by rw [a, List.length_set], fun j hj => ?_⟩
    rw [b j fun z => hj (List.mem_cons_of_mem _ z), List.getElem?_set_ne (fun z => hj (by rw [z]; exact List.mem_cons_self))]
  | [], _ :: _, _, _, h => by simp [setAll] at h
  | _ :: _, [], _, _, h => by simp [setAll] at h
theorem setTg_but {t : Tg} {d : D} {r r' : St} (h : setTg t d r = some r') : r'.length = r.length ∧ ∀ j, j ∉ t.is → r'[j]? = r[j]? := by
  cases t with
  | one i =>
    obtain ⟨e, hi, ni⟩ := setv_some (show setv i (.val d) r = some r' from h)
    subst e
    exact ⟨by rw [List.length_set], fun j hj => by rw [List.getElem?_set_ne (fun z => hj (by rw [z]; exact List.mem_singleton_self _))]⟩
  | many is =>
    cases d with
    | tup ds => exact setAll_but (show setAll is ds r = some r' from h)
    | _ => cases h
/-! ### what is walked -/
structure Wk (K : PySem.W.Frag) (F : Hp) (xs : List D) (J : It) : Prop where
  go : ∀ {i r σ H F'}, i < xs.length → Rp K r σ H F' → Same F F' → J.go i H
  stop : ∀ {i r σ H F'}, xs.length ≤ i → Rp K r σ H F' → Same F F' → J.stop i H
  yld : ∀ {i r σ H F' x H'}, i < xs.length → Rp K r σ H F' → Same F F' → J.yld i H x H' → ∃ d F'', xs[i]? = some d ∧ Ps K r r σ H F' H' F'' ∧ Rep K F'' d x
def relW (K : PySem.W.Frag) : Rl (List D) It := fun F xs J => Wk K F xs J
def tI (K : PySem.W.Frag) (ca : Nat → Addr) (W : WX) (f : St → R (List D)) : TI := fun σ H Q => ∃ r F, Rp K r σ H F ∧ Fi K ca W (relW K) (f r) r σ H F Q
abbrev QI (X : Cx) (ca : Nat → Addr) (W : WX) (tg it : Expr) (f : St → R (List D)) : Prop := PI X tg it (tI X.K ca W f)
theorem PI.weak {X : Cx} {tg e : Expr} {t t' : TI} (h : PI X tg e t) (w : ∀ σ H Q, t' σ H Q → t σ H Q) : PI X tg e t' := ⟨fun pins s σ H Q I q => h.run pins s σ H Q I (w σ H Q q)⟩
section
variable {K : PySem.W.Frag} {F : Hp}
theorem wk_list {a : Addr} {vs : List V} {xs : List D} (s : SqL K F a vs) (q : Reps K F xs vs) : Wk K F xs (Itl K a) where
  go := fun {i r σ H F'} hi p sm => by
    obtain ⟨d, hd⟩ : ∃ d, xs[i]? = some d := ⟨xs[i], by simp [hi]⟩
    obtain ⟨v, hv, _⟩ := q.get hd
    exact ⟨vs, v, SqL.mono (sm.trans p.sub) s, hv⟩
  stop := fun {i r σ H F'} hi p sm => ⟨vs, SqL.mono (sm.trans p.sub) s, by rw [← q.length]; exact hi⟩
  yld := fun {i r σ H F' x H'} hi p sm y => by
    obtain ⟨e, y⟩ := y
    subst e
    have hv := y vs (SqL.mono (sm.trans p.sub) s)
    obtain ⟨d, hd⟩ : ∃ d, xs[i]? = some d := ⟨xs[i], by simp [hi]⟩
    obtain ⟨v, hv', z⟩ := q.get hd
    rw [hv] at hv'
    cases hv'
    exact ⟨d, F', hd, Ps.refl p, z.mono sm⟩
theorem wk_tup {a : Addr} {vs : List V} {xs : List D} (s : SqT K F a vs) (q : Reps K F xs vs) : Wk K F xs (Itt K a) where
  go := fun {i r σ H F'} hi p sm => by
    obtain ⟨d, hd⟩ : ∃ d, xs[i]? = some d := ⟨xs[i], by simp [hi]⟩
    obtain ⟨v, hv, _⟩ := q.get hd
    exact ⟨vs, v, SqT.mono (sm.trans p.sub) s, hv⟩
  stop := fun {i r σ H F'} hi p sm => ⟨vs, SqT.mono (sm.trans p.sub) s, by rw [← q.length]; exact hi⟩
  yld := fun {i r σ H F' x H'} hi p sm y => by
    obtain ⟨e, y⟩ := y
    subst e
    have hv := y vs (SqT.mono (sm.trans p.sub) s)
    obtain ⟨d, hd⟩ : ∃ d, xs[i]? = some d := ⟨xs[i], by simp [hi]⟩
    obtain ⟨v, hv', z⟩ := q.get hd
    rw [hv] at hv'
    cases hv'
    exact ⟨d, F', hd, Ps.refl p, z.mono sm⟩
theorem rngL_get {lo hi : Int} {i : Nat} (h : i < (hi - lo).toNat) : (rngL lo hi)[i]? = some (.int (lo + i)) := by
  unfold rngL
  rw [List.getElem?_map, List.getElem?_range h]
  rfl
theorem rngL_len {lo hi : Int} : (rngL lo hi).length = (hi - lo).toNat := by unfold rngL; simp
theorem wk_rng {lo hi : Int} : Wk K F (rngL lo hi) (Itr lo (hi - lo).toNat) where
  go := fun {i r σ H F'} h p sm => by rw [rngL_len] at h; exact h
  stop := fun {i r σ H F'} h p sm => by rw [rngL_len] at h; exact h
  yld := fun {i r σ H F' x H'} hi p sm y => by
    obtain ⟨e, y⟩ := y
    subst e y
    rw [rngL_len] at hi
    exact ⟨_, F', rngL_get hi, Ps.refl p, Rep.int_iff.mpr rfl⟩
theorem rngB_get {lo hi : Int} {i : Nat} (h : i < (lo - hi).toNat) : (rngB lo hi)[i]? = some (.int (lo - i)) := by
  unfold rngB
  rw [List.getElem?_map, List.getElem?_range h]
  rfl
theorem rngB_len {lo hi : Int} : (rngB lo hi).length = (lo - hi).toNat := by unfold rngB; simp
theorem wk_rngB {lo hi : Int} : Wk K F (rngB lo hi) (Itc lo (-1) (lo - hi).toNat) where
  go := fun {i r σ H F'} h p sm => by rw [rngB_len] at h; exact h
  stop := fun {i r σ H F'} h p sm => by rw [rngB_len] at h; exact h
  yld := fun {i r σ H F' x H'} hi p sm y => by
    obtain ⟨e, y⟩ := y
    subst e y
    rw [rngB_len] at hi
    exact ⟨_, F', rngB_get hi, Ps.refl p, Rep.int_iff.mpr (by congr 1; omega)⟩
theorem wk_str {s : List Nat} (o : SOk s) : Wk K F (s.map fun c => .str [c]) (Its ⟨s.toArray⟩) where
  go := fun {i r σ H F'} h p sm => by rw [List.length_map] at h; exact (show i < (⟨s.toArray⟩ : Str).length by rw [len_mk]; exact h)
  stop := fun {i r σ H F'} h p sm => by rw [List.length_map] at h; exact (show (⟨s.toArray⟩ : Str).length ≤ i by rw [len_mk]; exact h)
  yld := fun {i r σ H F' x H'} hi p sm y => by
    obtain ⟨e, c, hc, ex⟩ := y
    subst e ex
    have hc : s[i]? = some c := by simpa using hc
    exact ⟨.str [c], F', by rw [List.getElem?_map, hc]; rfl, Ps.refl p, Rep.str_iff.mpr ⟨rfl, o.one (List.mem_of_getElem? hc)⟩⟩
end
section
variable {X : Cx} {ca : Nat → Addr} {W : WX} {pos p : Pos} {tg e : Expr} {f : St → R D} {fs : St → R (List D)}
theorem qi_e (h : QE X ca W e f) : QI X ca W tg e (fun r => (f r).bind fun d r => .of (itemsD d) r) := by
  refine ⟨fun pins s σ H R I ⟨r, F, p, q⟩ => ?_⟩
  dsimp only at q
  have any : (∀ d r1, f r = .ok d r1 → False) → wpAny (model X.prog X.w) X.A (eval e X.env) (fun v s1 => wpAny (model X.prog X.w) X.A (pyIter v) (PIE X pins σ tg R) X.xe s1) X.xe s := fun no => by
    refine (pi_list h).run pins s σ H R I ⟨r, F, p, ?_⟩
    cases e : f r with
    | ok d r1 => exact (no d r1 e).elim
    | exc y r1 => rw [e] at q; exact q
    | bad => rw [e] at q; exact q.elim
  cases e1 : f r with
  | exc y r1 => exact any fun d r1 z => by rw [e1] at z; cases z
  | bad => exact any fun d r1 z => by rw [e1] at z; cases z
  | ok d r1 =>
    rw [e1] at q
    cases d with
    | lst xs =>
      refine (pi_list h).run pins s σ H R I ⟨r, F, p, ?_⟩
      rw [e1]
      intro v H1 F1 p1 q1
      obtain ⟨a, vs, ev, s1, z1⟩ := Rep.lst_iff.mp q1
      exact ⟨a, ev, ⟨vs, SqL.mono p1.rp.sub s1⟩, q _ _ _ p1 (wk_list s1 z1)⟩
    | tup xs =>
      refine (pi_tup h).run pins s σ H R I ⟨r, F, p, ?_⟩
      rw [e1]
      intro v H1 F1 p1 q1
      obtain ⟨a, vs, ev, s1, z1⟩ := Rep.tup_iff.mp q1
      exact ⟨a, ev, ⟨vs, SqT.mono p1.rp.sub s1⟩, q _ _ _ p1 (wk_tup s1 z1)⟩
    | str xs =>
      refine (pi_str h).run pins s σ H R I ⟨r, F, p, ?_⟩
      rw [e1]
      intro v H1 F1 p1 q1
      obtain ⟨ev, o⟩ := Rep.str_iff.mp q1
      exact ⟨_, ev, q _ _ _ p1 (wk_str o)⟩
    | _ => exact q.elim
theorem small2 {a : Int} (h : small a = true) : -(2 ^ 62) ≤ a ∧ a < 2 ^ 62 := by
  have := small_le h
  omega
theorem qi_rng1 {a : Expr} (hg : Gl X "range") (hm : X.mg "range" = none) (ha : QE X ca W a f) (hn : noStar a = true) : QI X ca W tg (.Call (.Name "range" p) [a] [] pos) (fun r => (f r).bind fun x r => .of (rng1 x) r) := by
  refine PI.weak (pi_range1 hg hm (pa_cons ha pa_nil (star_cons hn)) (star_cons hn)) fun σ H Q ⟨r, F, p, h⟩ => ⟨r, F, p, Fi.step h fun x r1 v H1 F1 p1 q1 h => ?_⟩
  cases x <;> try exact h.elim
  rename_i b
  dsimp only [rng1] at h
  split at h
  · rename_i hb
    refine ⟨b, by rw [Rep.int_iff.mp q1], (small2 hb).1, (small2 hb).2, ?_⟩
    have w := wk_rng (K := X.K) (F := F1) (lo := 0) (hi := b)
    rw [show b - 0 = b by omega] at w
    exact h _ _ _ (Ps.refl p1.rp) w
  · exact h.elim
theorem qi_rng2 {a b : Expr} {f2 : St → R D} (hg : Gl X "range") (hm : X.mg "range" = none) (ha : QE X ca W a f) (hb : QE X ca W b f2) (hn : noStar a = true) (hn2 : noStar b = true) :
    QI X ca W tg (.Call (.Name "range" p) [a, b] [] pos) (fun r => (f r).bind fun x r => (f2 r).bind fun y r => .of (rng2 x y) r) := by
  refine PI.weak (pi_range2 hg hm (pa_cons ha (pa_cons hb pa_nil (star_cons hn2)) (star_cons hn)) ((star_cons hn).trans (by rw [star_cons hn2]; rfl)) (star_cons hn2)) fun σ H Q ⟨r, F, p, h⟩ => ⟨r, F, p, Fi.step h fun x r1 v H1 F1 p1 q1 h => ⟨r1, F1, p1.rp, Fi.step h fun y r2 w H2 F2 p2 q2 h => ?_⟩⟩
  cases x <;> cases y <;> try exact h.elim
  rename_i i _ j
  dsimp only [rng2] at h
  split at h
  · rename_i hb
    rw [Bool.and_eq_true] at hb
    refine ⟨i, j, by rw [Rep.int_iff.mp q1, Rep.int_iff.mp q2], ⟨(small2 hb.1).1, (small2 hb.1).2, (small2 hb.2).1, (small2 hb.2).2⟩, ?_⟩
    exact h _ _ _ (Ps.refl p2.rp) wk_rng
  · exact h.elim
/-- range(a, b, -1) -/
theorem qi_rng3 {a b c : Expr} {f2 : St → R D} (hg : Gl X "range") (hm : X.mg "range" = none) (ha : QE X ca W a f) (hb : QE X ca W b f2) (hc : PE X c (fun _ H Q => Q (.int (-1)) H)) (hn : noStar a = true) (hn2 : noStar b = true) (hn3 : noStar c = true) :
    QI X ca W tg (.Call (.Name "range" p) [a, b, c] [] pos) (fun r => (f r).bind fun x r => (f2 r).bind fun y r => .of (rng3 x y) r) := by
  refine PI.weak (pi_range3 hg hm (pa_cons ha (pa_cons hb (pa_cons hc pa_nil (star_cons hn3)) (star_cons hn2)) (star_cons hn)) (star_cons hn) (star_any (by simp [hn2, hn3]))) fun σ H Q ⟨r, F, p, h⟩ => ⟨r, F, p, Fi.step h fun x r1 v H1 F1 p1 q1 h => ⟨r1, F1, p1.rp, Fi.step h fun y r2 w H2 F2 p2 q2 h => ?_⟩⟩
  cases x <;> cases y <;> try exact h.elim
  rename_i i _ j
  dsimp only [rng3] at h
  split at h
  · rename_i hb
    rw [Bool.and_eq_true] at hb
    refine ⟨i, j, -1, (i - j).toNat, by rw [Rep.int_iff.mp q1, Rep.int_iff.mp q2], RgC.neg (small2 hb.1).1 (small2 hb.1).2 (small2 hb.2).1 (small2 hb.2).2, ?_⟩
    exact h _ _ _ (Ps.refl p2.rp) wk_rngB
  · exact h.elim
end
end Z

/-! Z9: statements -/
namespace Z
open PySem PySem.Spec PyProof.Rows L2 TL

def FiS (K : PySem.W.Frag) (ca : Nat → Addr) (W : WX) (x : Z.F) (r : St) (σ : L2.St) (H F : Hp) (D : Ends) : Prop := match x with
  | .nx r' => ∀ σ' H' F', Pt K r r' σ σ' H F H' F' → D.nx σ' H'
  | .rt d r' => ∀ v σ' H' F', Pt K r r' σ σ' H F H' F' → Rep K F' d v → D.rt v H'
  | .bk r' => ∀ σ' H' F', Pt K r r' σ σ' H F H' F' → D.bk σ' H'
  | .ct r' => ∀ σ' H' F', Pt K r r' σ σ' H F H' F' → D.ct σ' H'
  | .exc e r' => ∀ cls dd σ' H' F', Pt K r r' σ σ' H F H' F' → RepX K ca H' F' e cls dd → W cls dd σ' H'
  | .bad => False
def tS (K : PySem.W.Frag) (ca : Nat → Addr) (W : WX) (f : St → Z.F) : TS := fun D σ H => ∃ r F, Rp K r σ H F ∧ FiS K ca W (f r) r σ H F D
abbrev QS (X : Cx) (ca : Nat → Addr) (W : WX) (st : Stmt) (f : St → Z.F) : Prop := PS X st (tS X.K ca W f)
abbrev QSs (X : Cx) (ca : Nat → Addr) (W : WX) (st : List Stmt) (f : St → Z.F) : Prop := PSs X st (tS X.K ca W f)
theorem PS.weak {X : Cx} {e : Stmt} {t t' : TS} (h : PS X e t) (w : ∀ D σ H, t' D σ H → t D σ H) : PS X e t' := ⟨fun pins s σ H D I q => h.run pins s σ H D I (w D σ H q)⟩
theorem PSs.weak {X : Cx} {e : List Stmt} {t t' : TS} (h : PSs X e t) (w : ∀ D σ H, t' D σ H → t D σ H) : PSs X e t' := ⟨fun pins s σ H D I q => h.run pins s σ H D I (w D σ H q)⟩
section
variable {K : PySem.W.Frag} {ca : Nat → Addr} {W : WX} {r r1 : St} {σ σ1 : L2.St} {H F H1 F1 : Hp} {D : Ends} {α β : Type} {ra : Rl α β}
theorem FiS.shift (p : Pt K r r1 σ σ1 H F H1 F1) {y : Z.F} (h : FiS K ca W y r σ H F D) : FiS K ca W y r1 σ1 H1 F1 D := by
  cases y with
  | nx r2 => exact fun σ' H' F' q => h σ' H' F' (p.trans q)
  | rt d r2 => exact fun v σ' H' F' q z => h v σ' H' F' (p.trans q) z
  | bk r2 => exact fun σ' H' F' q => h σ' H' F' (p.trans q)
  | ct r2 => exact fun σ' H' F' q => h σ' H' F' (p.trans q)
  | exc e r2 => exact fun c dd σ' H' F' q z => h c dd σ' H' F' (p.trans q) z
  | bad => exact h
/-- an expression within a statement -/
theorem FiS.step {x : R α} {g : α → St → Z.F} {Q : β → Hp → Prop} (h : FiS K ca W (x.fl g) r σ H F D) (k : ∀ d r1 v H1 F1, Ps K r r1 σ H F H1 F1 → ra F1 d v → FiS K ca W (g d r1) r1 σ H1 F1 D → Q v H1) : Fi K ca W ra x r σ H F Q := by
  cases x with
  | ok d r1 => exact fun v H1 F1 p e => k d r1 v H1 F1 p e (FiS.shift p.pt h)
  | exc e r1 => exact fun c dd H1 F1 p z => h c dd σ H1 F1 p.pt z
  | bad => exact h
/-- a statement, then more -/
theorem FiS.then {x : Z.F} {g : St → Z.F} {D' : Ends} (h : FiS K ca W (x.then g) r σ H F D) (k : ∀ r1 σ1 H1 F1, Pt K r r1 σ σ1 H F H1 F1 → FiS K ca W (g r1) r1 σ1 H1 F1 D → D'.nx σ1 H1) (e1 : D'.rt = D.rt) (e2 : D'.bk = D.bk) (e3 : D'.ct = D.ct) : FiS K ca W x r σ H F D' := by
  cases x with
  | nx r1 => exact fun σ1 H1 F1 p => k r1 σ1 H1 F1 p (FiS.shift p h)
  | rt d r1 => exact fun v σ' H' F' p z => by rw [e1]; exact h v σ' H' F' p z
  | bk r1 => exact fun σ' H' F' p => by rw [e2]; exact h σ' H' F' p
  | ct r1 => exact fun σ' H' F' p => by rw [e3]; exact h σ' H' F' p
  | exc e r1 => exact h
  | bad => exact h
end
section
variable {X : Cx} {ca : Nat → Addr} {W : WX} {pos : Pos} {e : Expr} {f : St → R D} {st : Stmt} {sts : List Stmt} {g g2 : St → Z.F}
theorem ss_nil : QSs X ca W [] (fun r => .nx r) := PSs.weak pss_nil fun D σ H ⟨r, F, p, h⟩ => h σ H F (Pt.refl p)
theorem ss_cons (h1 : QS X ca W st g) (h2 : QSs X ca W sts g2) : QSs X ca W (st :: sts) (fun r => (g r).then g2) := by
  refine PSs.weak (pss_cons h1 h2) fun D σ H ⟨r, F, p, h⟩ => ⟨r, F, p, FiS.then h (fun r1 σ1 H1 F1 p1 h => ?_) rfl rfl rfl⟩
  exact ⟨r1, F1, p1.rp, h⟩
theorem s_pass : QS X ca W (.Pass pos) (fun r => .nx r) := PS.weak ps_pass fun D σ H ⟨r, F, p, h⟩ => h σ H F (Pt.refl p)
theorem s_brk : QS X ca W (.Break pos) (fun r => .bk r) := PS.weak ps_break fun D σ H ⟨r, F, p, h⟩ => h σ H F (Pt.refl p)
theorem s_cont : QS X ca W (.Continue pos) (fun r => .ct r) := PS.weak ps_continue fun D σ H ⟨r, F, p, h⟩ => h σ H F (Pt.refl p)
theorem s_retN : QS X ca W (.Return none pos) (fun r => .rt .non r) := PS.weak ps_retN fun D σ H ⟨r, F, p, h⟩ => h _ σ H F (Pt.refl p) (Rep.non_iff.mpr rfl)
theorem s_ret (he : QE X ca W e f) : QS X ca W (.Return (some e) pos) (fun r => (f r).fl fun d r => .rt d r) :=
  PS.weak (ps_ret he) fun D σ H ⟨r, F, p, h⟩ => ⟨r, F, p, FiS.step h fun d r1 v H1 F1 p1 q1 h => h v σ H1 F1 (Pt.refl p1.rp) q1⟩
def noComp : Expr → Bool
  | .ListComp _ _ _ _ => false
  | .SetComp _ _ _ _ => false
  | .DictComp _ _ _ _ _ => false
  | _ => true
theorem no_swap {t : Option Expr} {l : Nat} {env : Env} (h : noComp e = true) : swapsWith e t l env = pure false := by
  cases e <;> first | rfl | cases h
theorem s_exp (he : QE X ca W e f) (hn : noComp e = true) : QS X ca W (.Expr e pos) (fun r => (f r).fl fun _ r => .nx r) :=
  PS.weak (ps_expr he (no_swap hn)) fun D σ H ⟨r, F, p, h⟩ => ⟨r, F, p, FiS.step h fun d r1 v H1 F1 p1 q1 h => h σ H1 F1 (Pt.refl p1.rp)⟩
theorem s_set {i : Nat} {x : Str} {px : Pos} (nd : X.N.Nodup) (hN : X.N[i]? = some x) (hl : Loc X.env.scope x) (hf : X.fn x = true ∨ X.env.scope.names.lookup x = some .local) (he : QE X ca W e f) (hn : noComp e = true) :
    QS X ca W (.Assign [.Name x px] e pos) (fun r => (f r).fl fun d r => match setv i (.val d) r with | some r => .nx r | none => .bad) := by
  refine PS.weak (ps_set nd hN hl he (no_swap hn) hf) fun D σ H ⟨r, F, p, h⟩ => ⟨r, F, p, FiS.step h fun d r1 v H1 F1 p1 q1 h => ?_⟩
  cases z : setv i (.val d) r1 with
  | none => simp only [z] at h; exact h.elim
  | some r2 =>
    simp only [z] at h
    obtain ⟨e2, hi, ni⟩ := setv_some z
    subst e2
    exact h _ _ _ (p1.rp.put hi ni q1)
theorem s_if {c : Expr} {fc : St → R D} {a b : List Stmt} (hc : QT X ca W c fc) (ha : QSs X ca W a g) (hb : QSs X ca W b g2) :
    QS X ca W (.If c a b pos) (fun r => (fc r).fl fun d r => match d with | .bl true => g r | .bl false => g2 r | _ => .bad) := by
  refine PS.weak (ps_if hc ha hb) fun D σ H ⟨r, F, p, h⟩ => ⟨r, F, p, FiS.step h fun d r1 v H1 F1 p1 q1 h => ?_⟩
  cases q1
  cases v with
  | true => exact iteT ⟨r1, F1, p1.rp, h⟩
  | false => exact iteF ⟨r1, F1, p1.rp, h⟩
/-! ### loops -/
theorem s_while {c : Expr} {fc : St → R D} {b : List Stmt} (hp : PassesOwn (model X.prog X.w) X.A X.env X.xe) (hc : QT X ca W c fc) (hb : QSs X ca W b g) :
    QS X ca W (.While c b [] pos) (fun r => whileL fc g TURNS r) := by
  refine PS.weak (ps_while hp hc hb) fun D σ H ⟨r, F, p, h⟩ => ?_
  refine ⟨fun m σ H => ∃ r F, Rp X.K r σ H F ∧ FiS X.K ca W (whileL fc g m r) r σ H F D, ⟨TURNS, r, F, p, h⟩, ?_⟩
  rintro m σ H ⟨r, F, p, h⟩
  cases m with
  | zero => exact h.elim
  | succ m =>
    simp only [whileL] at h
    refine ⟨r, F, p, FiS.step h fun d r1 v H1 F1 p1 q1 h => ?_⟩
    cases q1
    cases v with
    | false => exact iteF (h _ _ _ (Pt.refl p1.rp))
    | true =>
      refine iteT ⟨fun σ' H' => ∃ r F, Rp X.K r σ' H' F ∧ FiS X.K ca W (whileL fc g m r) r σ' H' F D, fun σ' H' w => ⟨m, Nat.lt_succ_self m, w⟩, r1, F1, p1.rp, ?_⟩
      dsimp only at h
      cases e : g r1 with
      | nx r2 => simp only [e] at h; exact fun σ2 H2 F2 p2 => ⟨r2, F2, p2.rp, FiS.shift p2 h⟩
      | ct r2 => simp only [e] at h; exact fun σ2 H2 F2 p2 => ⟨r2, F2, p2.rp, FiS.shift p2 h⟩
      | bk r2 => simp only [e] at h; exact h
      | rt d r2 => simp only [e] at h; exact h
      | exc x r2 => simp only [e] at h; exact h
      | bad => simp only [e] at h; exact h.elim
theorem s_for {tg it : Expr} {t : Tg} {fi : St → R (List D)} {b : List Stmt} (hp : PassesOwn (model X.prog X.w) X.A X.env X.xe) (hc : X.calm = true) (hi : QI X ca W tg it fi) (hg : PG X tg (gTg X.K t)) (hb : QSs X ca W b g) (hs : ∀ x, foldedSetIterable it X.env x = pure x) :
    QS X ca W (.For tg it b [] pos) (fun r => (fi r).fl fun xs r => forL g t xs r) := by
  refine PS.weak (ps_for hp hc hi hg hb hs) fun D σ H ⟨r, F, p, h⟩ => ⟨r, F, p, FiS.step h fun xs r1 J H1 F1 p1 q1 h => ?_⟩
  have q1 : Wk X.K F1 xs J := q1
  refine ⟨fun i m σ H => m = xs.length - i ∧ i ≤ xs.length ∧ ∃ r F, Rp X.K r σ H F ∧ Same F1 F ∧ FiS X.K ca W (forL g t (xs.drop i) r) r σ H F D, ⟨xs.length, by simp, Nat.zero_le _, r1, F1, p1.rp, fun _ _ e => e, by simpa using h⟩, ?_⟩
  rintro i m σ2 H2 ⟨rfl, hi, r2, F2, p2, s2, h⟩
  by_cases hlt : i < xs.length
  · refine .inr ⟨q1.go hlt p2 s2, fun σ' H' => i + 1 ≤ xs.length ∧ ∃ r F, Rp X.K r σ' H' F ∧ Same F1 F ∧ FiS X.K ca W (forL g t (xs.drop (i + 1)) r) r σ' H' F D, fun σ' H' w => ⟨xs.length - (i + 1), by omega, rfl, w.1, w.2⟩, fun x H' y => ?_⟩
    obtain ⟨d, F3, hd, p3, q3⟩ := q1.yld hlt p2 s2 y
    have e : xs.drop i = d :: xs.drop (i + 1) := by
      rw [List.drop_eq_getElem_cons hlt]
      congr 1
      rw [List.getElem?_eq_getElem hlt] at hd
      exact Option.some.inj hd
    rw [e] at h
    simp only [forL] at h
    have h := FiS.shift p3.pt h
    cases z : setTg t d r2 with
    | none => simp only [z] at h; exact h.elim
    | some r3 =>
      simp only [z] at h
      refine gTg_ok z p3.rp q3 fun σ4 p4 => ⟨r3, F3, p4.rp, ?_⟩
      have h := FiS.shift p4 h
      have s3 : Same F1 F3 := s2.trans p3.f
      cases e : g r3 with
      | nx r5 => simp only [e] at h; exact fun σ5 H5 F5 p5 => ⟨hlt, r5, F5, p5.rp, s3.trans p5.f, FiS.shift p5 h⟩
      | ct r5 => simp only [e] at h; exact fun σ5 H5 F5 p5 => ⟨hlt, r5, F5, p5.rp, s3.trans p5.f, FiS.shift p5 h⟩
      | bk r5 => simp only [e] at h; exact h
      | rt d r5 => simp only [e] at h; exact h
      | exc x r5 => simp only [e] at h; exact h
      | bad => simp only [e] at h; exact h.elim
  · have e : xs.drop i = [] := List.drop_eq_nil_of_le (by omega)
    rw [e] at h
    exact .inl ⟨q1.stop (by omega) p2 s2, h _ _ _ (Pt.refl p2)⟩
/-! ### targets' rules -/
theorem pg_one {i : Nat} {x : Str} (nd : X.N.Nodup) (hN : X.N[i]? = some x) (hl : Loc X.env.scope x) (hf : X.fn x = true ∨ X.env.scope.names.lookup x = some .local) : PG X (.Name x pos) (gTg X.K (.one i)) := pg_name nd hN hl hf
/-! ### own lists -/
def FiO (K : PySem.W.Frag) (ca : Nat → Addr) (W : WX) (x : R D) (r : St) (σ : L2.St) (H F : Hp) (Q : VK) : Prop := match x with
  | .ok (.lst l) r' => ∀ a vs H1 F1, Ps K r r' σ H F H1 F1 → H1 a = none → Reps K F1 l vs → Q (.ref a) (upd H1 a (.lst vs))
  | .ok _ _ => False
  | .exc e r' => ∀ cls dd H' F', Ps K r r' σ H F H' F' → RepX K ca H' F' e cls dd → W cls dd σ H'
  | .bad => False
def tO' (K : PySem.W.Frag) (ca : Nat → Addr) (W : WX) (f : St → R D) : TE := fun σ H Q => ∃ r F, Rp K r σ H F ∧ FiO K ca W (f r) r σ H F Q
abbrev QO (X : Cx) (ca : Nat → Addr) (W : WX) (e : Expr) (f : St → R D) : Prop := PE X e (tO' X.K ca W f)
theorem o_lst {es : List Expr} {fs : St → R (List D)} (h : QA X ca W es fs) : QO X ca W (.List es pos) (fun r => (fs r).bind fun l r => if l.length ≤ LINE then .ok (.lst l) r else .bad) := by
  refine PE.weak (pe_lst h) fun σ H Q ⟨r, F, p, h⟩ => ⟨r, F, p, ?_⟩
  cases e : fs r with
  | bad => simp only [e] at h; exact h.elim
  | exc x r1 => simp only [e] at h; exact h
  | ok l r1 =>
    simp only [e] at h
    intro vs H1 F1 p1 q1
    dsimp only [R.bind] at h
    split at h
    · rename_i hl
      exact ⟨by rw [← q1.length, ← LINE_eq]; exact hl, fun a ha => h a vs H1 F1 p1 ha q1⟩
    · exact h.elim
theorem o_share (h : QO X ca W e f) : QE X ca W e (fun r => (f r).bind fun d r => match d with | .lst l => .ok (.lst l) r | _ => .bad) := by
  refine PE.weak h fun σ H Q ⟨r, F, p, h⟩ => ⟨r, F, p, ?_⟩
  cases e : f r with
  | bad => simp only [e] at h; exact h.elim
  | exc x r1 => simp only [e] at h; exact h
  | ok d r1 =>
    simp only [e] at h
    cases d with
    | lst l =>
      intro a vs H1 F1 p1 ha q1
      have hn := p1.rp.new (o := .lst vs) ha
      exact h (.ref a) _ _ (p1.trans hn) (Rep.lst_iff.mpr ⟨a, vs, rfl, SqL.of upd_same, q1.mono hn.f⟩)
    | _ => exact h.elim
theorem s_own {i : Nat} {x : Str} {px : Pos} (nd : X.N.Nodup) (hN : X.N[i]? = some x) (hl : Loc X.env.scope x) (hf : X.fn x = true ∨ X.env.scope.names.lookup x = some .local) (he : QO X ca W e f) (hn : noComp e = true) :
    QS X ca W (.Assign [.Name x px] e pos) (fun r => (f r).fl fun d r => match d with | .lst l => (match setv i (.own l) r with | some r => .nx r | none => .bad) | _ => .bad) := by
  refine PS.weak (ps_set nd hN hl he (no_swap hn) hf) fun D σ H ⟨r, F, p, h⟩ => ⟨r, F, p, ?_⟩
  cases e : f r with
  | bad => simp only [e] at h; exact h.elim
  | exc x r1 => simp only [e] at h; exact fun c dd H1 F1 p z => h c dd σ H1 F1 p.pt z
  | ok d r1 =>
    simp only [e] at h
    cases d with
    | lst l =>
      intro a vs H1 F1 p1 ha q1
      have h := FiS.shift p1.pt h
      dsimp only [R.fl] at h
      cases z : setv i (.own l) r1 with
      | none => simp only [z] at h; exact h.elim
      | some r2 =>
        simp only [z] at h
        obtain ⟨e2, hi, ni⟩ := setv_some z
        subst e2
        exact h _ _ _ (p1.rp.putOwn hi ni ha q1)
    | _ => exact h.elim
theorem s_app {i : Nat} {x : Str} {px apos cpos : Pos} (hN : X.N[i]? = some x) (hv : Vis X.env.scope x) (hd : (x == ("__debug__" : Str)) = false) (hcd : (x == ("__classdict__" : Str)) = false) (he : QE X ca W e f) (hn : noStar e = true) (hline : (apos.endLine == cpos.line) = true) :
    QS X ca W (.Expr (.Call (.Attribute (.Name x px) "append" apos) [e] [] cpos) pos) (fun r => if (iov i r).isSome then (f r).fl fun d r => (match r[i]? with
      | some (.own l) => if l.length < LINE then .nx (r.set i (.own (l ++ [d]))) else .bad
      | some (.io l) => if l.length < LINE then .nx (r.set i (.io (l ++ [d]))) else .bad
      | _ => .bad) else .bad) := by
  have hfew : ((backTo cpos (starEach [e] X.env)).all (fun x => !x.1) && (backToKw cpos (keywordEach [] X.env)).all (fun x => x.1.isSome)
      && decide ([e].length + ([] : List Keyword).length + (if ([] : List Keyword).isEmpty then 0 else 1) < 30)) = true := by rw [star_cons hn]; rfl
  refine PS.weak (ps_expr (pe_bm PySem.F.plainAttrs_list PySem.F.slot_list_append PySem.F.type_list_append mt_append (pe_var hN hv hd hcd) (pa_cons he pa_nil (star_cons hn)) rfl hfew hline (star_cons hn) rfl) (no_swap rfl)) fun D σ H ⟨r, F, p, h⟩ => ?_
  dsimp only at h
  split at h
  case isFalse => exact h.elim
  rename_i h0
  obtain ⟨x0, e0⟩ := Option.isSome_iff_exists.mp h0
  obtain ⟨a, vs0, ea, ha0, _, _⟩ := p.own i x0 (iov_own e0)
  refine ⟨_, ea, .inl ⟨rfl, _, SqL.of ha0⟩, r, F, p, FiS.step h fun d r1 v H1 F1 p1 q1 h => ?_⟩
  have fin : ∀ {l : List Z.D} {s : Slot}, ownL r1[i]? = some l → ownL (some s) = some (l ++ [d]) → ((∃ y, r1[i]? = some (Slot.io y)) → s = .io (l ++ [d])) → (∀ d, s ≠ .val d) → l.length < LINE → FiS X.K ca W (.nx (r1.set i s)) r1 σ H1 F1 D →
      rAppend (V.ref a) [v] H1 fun x H' => D.nx σ H' := fun {l s} h1 h2 h3 h4 h5 h => by
    obtain ⟨b, ws, eb, hb, hF, q⟩ := p1.rp.own i l h1
    rw [ea] at eb
    cases eb
    exact ⟨a, ws, v, rfl, rfl, hb, by rw [← q.length, ← LINE_eq]; exact h5, h _ _ _ (p1.rp.chg h1 h2 h3 h4 ea (q.append (Reps.cons q1 Reps.nil))).pt⟩
  split at h
  · rename_i l e1
    split at h
    · rename_i hl
      exact fin (by rw [e1]; rfl) rfl (fun ⟨y, z⟩ => by rw [e1] at z; cases z) (fun d z => by cases z) hl h
    · exact h.elim
  · rename_i l e1
    split at h
    · rename_i hl
      exact fin (by rw [e1]; rfl) rfl (fun _ => rfl) (fun d z => by cases z) hl h
    · exact h.elim
  · exact h.elim
end
end Z

/-! Z10: list comprehensions -/
namespace Z
open PySem PySem.Spec PyProof.Rows L2 TL

theorem wipeS_len (ow : List Nat) (r : St) : (wipeS ow r).length = r.length := by
  induction ow with
  | nil => rfl
  | cons v ow ih => simp [wipeS, ih]
theorem wipeS_out {ow : List Nat} {r : St} {i : Nat} (h : i ∉ ow) : (wipeS ow r)[i]? = r[i]? := by
  induction ow with
  | nil => rfl
  | cons v ow ih =>
    simp only [List.mem_cons, not_or] at h
    simp only [wipeS]
    rw [List.getElem?_set_ne (Ne.symm h.1), ih h.2]
theorem wipeS_in {ow : List Nat} {r : St} {i : Nat} (h : i ∈ ow) : (wipeS ow r)[i]? = none ∨ (wipeS ow r)[i]? = some .no := by
  induction ow with
  | nil => cases h
  | cons v ow ih =>
    simp only [wipeS]
    by_cases hv : v = i
    · subst hv
      by_cases hl : v < (wipeS ow r).length
      · exact .inr (List.getElem?_set_self hl)
      · exact .inl (List.getElem?_eq_none (by simpa using hl))
    · rw [List.getElem?_set_ne hv]
      rcases List.mem_cons.mp h with e | h
      · exact absurd e.symm hv
      · exact ih h
theorem wipeS_own {ow : List Nat} {r : St} {i : Nat} {l : List D} (h : ownL (wipeS ow r)[i]? = some l) : i ∉ ow ∧ ownL r[i]? = some l := by
  by_cases hi : i ∈ ow
  · rcases wipeS_in (r := r) hi with e | e <;> rw [e] at h <;> cases h
  · rw [wipeS_out hi] at h
    exact ⟨hi, h⟩
theorem backS_len (ow : List Nat) (r0 r : St) : (backS ow r0 r).length = r.length := by
  induction ow with
  | nil => rfl
  | cons v ow ih => simp [backS, ih]
theorem backS_out {ow : List Nat} {r0 r : St} {i : Nat} (h : i ∉ ow) : (backS ow r0 r)[i]? = r[i]? := by
  induction ow with
  | nil => rfl
  | cons v ow ih =>
    simp only [List.mem_cons, not_or] at h
    simp only [backS]
    rw [List.getElem?_set_ne (Ne.symm h.1), ih h.2]
theorem backS_in {ow : List Nat} {r0 r : St} {i : Nat} (h : i ∈ ow) (hl : r.length = r0.length) : (backS ow r0 r)[i]? = r0[i]? := by
  induction ow with
  | nil => cases h
  | cons v ow ih =>
    simp only [backS]
    by_cases hv : v = i
    · subst hv
      by_cases hlt : v < r0.length
      · rw [List.getElem?_set_self (by rw [backS_len, hl]; exact hlt)]
        simp [List.getD, hlt]
      · rw [List.getElem?_eq_none (by rw [List.length_set, backS_len, hl]; omega), List.getElem?_eq_none (by omega)]
    · rw [List.getElem?_set_ne hv]
      rcases List.mem_cons.mp h with e | h
      · exact absurd e.symm hv
      · exact ih h
theorem wipe_in {ow : List Nat} {σ : L2.St} {i : Nat} (h : i ∈ ow) : (wipe σ ow)[i]? = none ∨ (wipe σ ow)[i]? = some none := by
  induction ow with
  | nil => cases h
  | cons v ow ih =>
    simp only [wipe]
    by_cases hv : v = i
    · subst hv
      by_cases hl : v < (wipe σ ow).length
      · exact .inr (List.getElem?_set_self hl)
      · exact .inl (List.getElem?_eq_none (by simpa using hl))
    · rw [List.getElem?_set_ne hv]
      rcases List.mem_cons.mp h with e | h
      · exact absurd e.symm hv
      · exact ih h
theorem wipe_in2 {ow : List Nat} {σ τ : L2.St} {i : Nat} (h : i ∈ ow) (hl : σ.length = τ.length) : (wipe σ ow)[i]? = (wipe τ ow)[i]? := by
  by_cases hi : i < τ.length
  · have a : (wipe σ ow)[i]? = some none := by
      rcases wipe_in (σ := σ) h with e | e
      · exact absurd (List.getElem?_eq_none_iff.mp e) (by rw [wipe_length]; omega)
      · exact e
    have b : (wipe τ ow)[i]? = some none := by
      rcases wipe_in (σ := τ) h with e | e
      · exact absurd (List.getElem?_eq_none_iff.mp e) (by rw [wipe_length]; omega)
      · exact e
    rw [a, b]
  · rw [List.getElem?_eq_none (by rw [wipe_length]; omega), List.getElem?_eq_none (by rw [wipe_length]; omega)]
theorem wipe_eq {ow : List Nat} {σ τ : L2.St} (h : But ow (wipe σ ow) τ) : wipe τ ow = wipe σ ow := by
  refine List.ext_getElem? fun i => ?_
  have hl : τ.length = σ.length := by rw [h.1, wipe_length]
  by_cases hi : i ∈ ow
  · exact wipe_in2 hi hl
  · rw [wipe_out hi, h.2 i hi]
section
variable {K : PySem.W.Frag} {r r' r1 r2 : St} {σ τ : L2.St} {H F H1 F1 H2 F2 : Hp} {ow : List Nat}
theorem Rp.wipe (p : Rp K r σ H F) (ow : List Nat) : Rp K (wipeS ow r) (L2.wipe σ ow) H F := by
  refine ⟨by rw [wipeS_len, wipe_length]; exact p.len, p.sub, fun i d e => ?_, fun i l e => ?_, fun i j l m a e1 e2 z1 z2 => ?_⟩
  · by_cases hi : i ∈ ow
    · rcases wipeS_in (r := r) hi with z | z <;> rw [z] at e <;> cases e
    · rw [wipeS_out hi] at e
      rw [wipe_out hi]
      exact p.val i d e
  · obtain ⟨hi, e⟩ := wipeS_own e
    rw [wipe_out hi]
    exact p.own i l e
  · obtain ⟨hi, e1⟩ := wipeS_own e1
    obtain ⟨hj, e2⟩ := wipeS_own e2
    rw [wipe_out hi] at z1
    rw [wipe_out hj] at z2
    exact p.apart i j l m a e1 e2 z1 z2
theorem own_wipe {b : Addr} (h : Own (wipeS ow r) (L2.wipe σ ow) b) : Own r σ b := by
  obtain ⟨i, l, e, z⟩ := h
  obtain ⟨hi, e⟩ := wipeS_own e
  rw [wipe_out hi] at z
  exact ⟨i, l, e, z⟩
/-- an object outside of the frame is changed -/
theorem Rp.other (p : Rp K r σ H F) {a : Addr} {o : HO} (hf : F a = none) (no : ¬ Own r σ a) : Rp K r σ (upd H a o) F :=
  ⟨p.len, fun b u e => by rw [upd_ne (fun z => by subst z; rw [hf] at e; cases e)]; exact p.sub b u e, p.val, fun i l e => by
    obtain ⟨b, vs, e1, e2, e3, q⟩ := p.own i l e
    exact ⟨b, vs, e1, by rw [upd_ne (fun z => no (by subst z; exact ⟨i, l, e, e1⟩))]; exact e2, e3, q⟩, p.apart⟩
/-- one turn of a comprehension's block, as an expression over the wiped frame -/
theorem turn_ps {t : Tg} {d : D} {r3 r4 : St} {σ2 : L2.St} (hw : ∀ i ∈ ow, ownL r[i]? = none) (hsub : ∀ i ∈ t.is, i ∈ ow) (hs : setTg t d r = some r3) (ht : Pt K r r3 (L2.wipe σ ow) σ2 H F H F) (hb : But t.is (L2.wipe σ ow) σ2) (p : Ps K r3 r4 σ2 H F H2 F2) :
    Ps K r (wipeS ow r4) (L2.wipe σ ow) H F H2 F2 := by
  have e2 : L2.wipe σ2 ow = L2.wipe σ ow := wipe_eq ⟨hb.1, fun j hj => hb.2 j fun z => hj (hsub j z)⟩
  obtain ⟨hl3, hb3⟩ := setTg_but hs
  have q := ht.trans p.pt
  have out : ∀ (i : Nat), i ∉ ow → r3[i]? = r[i]? := fun i hi => hb3 i fun z => hi (hsub i z)
  refine ⟨?_, q.f, q.h, q.n, fun i l e => ?_, fun i l e => ?_⟩
  · rw [← e2]
    exact p.rp.wipe ow
  · obtain ⟨hi, e⟩ := wipeS_own e
    obtain ⟨l', e'⟩ := p.sub i l e
    rw [out i hi] at e'
    exact ⟨l', e'⟩
  · have hi : i ∉ ow := fun z => by have := hw i z; rw [e] at this; cases this
    rw [wipeS_out hi]
    refine p.io i l ?_
    rw [out i hi]
    exact e
end
def WF : WX := fun _ _ _ _ => False
def delH (H : Hp) (a : Addr) : Hp := fun b => if b = a then none else H b
theorem upd_del {H : Hp} {a : Addr} {o : HO} (h : H a = some o) : upd (delH H a) a o = H := by
  funext b
  unfold upd delH
  split
  · rename_i e; rw [e, h]
  · rfl
section
variable {X : Cx} {ca : Nat → Addr} {W : WX} {pos : Pos}
/-- the loop of a comprehension -/
theorem comp_loop {K : PySem.W.Frag} {J : It} {xs : List D} {t : Tg} {fc fe : St → R D} {tt : TT} {te : TE} {ow : List Nat} {σ : L2.St} {H1 F1 : Hp} {r1 : St} {A : Addr} {Qd : Hp → Prop} (hsub : ∀ i ∈ t.is, i ∈ ow)
    (hc : ∀ σ H Q, tT K ca WF fc σ H Q → tt σ H Q) (he : ∀ σ H Q, tE K ca WF fe σ H Q → te σ H Q)
    (p1 : Rp K r1 σ H1 F1) (w : Wk K F1 xs J) (hA : H1 A = none) (ne : ∃ l r', compL (compB t fc fe ow) xs [] (wipeS ow r1) = .ok l r')
    (k : ∀ l r' H F accV, compL (compB t fc fe ow) xs [] (wipeS ow r1) = .ok l r' → Ps K (wipeS ow r1) r' (wipe σ ow) H1 F1 H F → H A = some (.lst accV) → F A = none → Reps K F l accV → Qd H) :
    ∃ W : Nat → Nat → Hp → Prop, (∃ m, W 0 m (upd H1 A (.lst []))) ∧ ∀ i m H, W i m H → (J.stop i H ∧ Qd H) ∨ (J.go i H ∧ ∃ Nx : Hp → Prop, (∀ H', Nx H' → ∃ m', m' < m ∧ W (i + 1) m' H') ∧ ∀ x H', J.yld i H x H' → gTg K t x (wipe σ ow) H' fun σ2 H2 => wipe σ2 ow = wipe σ ow ∧ tt σ2 H2 fun b H3 =>
      if b = true then te σ2 H3 fun y H4 => ∃ acc, H4 A = some (.lst acc) ∧ acc.length < sizeLine ∧ Nx (upd H4 A (.lst (acc ++ [y]))) else Nx H3) := by
  obtain ⟨lE, rE, hE⟩ := ne
  have nA : ∀ {r H F}, Ps K (wipeS ow r1) r (wipe σ ow) H1 F1 H F → ¬ Own r (wipe σ ow) A := fun {r H F} p z => by
    obtain ⟨i, l, e, z⟩ := p.ownSub z
    obtain ⟨a, vs, e1, e2, _⟩ := (p1.wipe ow).own i l e
    rw [z] at e1
    cases e1
    rw [hA] at e2
    cases e2
  have hF1 : F1 A = none := p1.sub.free hA
  -- the invariant
  let V : Nat → Hp → Prop := fun i H => ∃ r F acc accV, Ps K (wipeS ow r1) r (wipe σ ow) H1 F1 H F ∧ H A = some (.lst accV) ∧ F A = none ∧ Reps K F acc accV ∧ compL (compB t fc fe ow) (xs.drop i) acc r = .ok lE rE
  have wiped : ∀ {r H F}, Ps K (wipeS ow r1) r (wipe σ ow) H1 F1 H F → ∀ i ∈ ow, ownL r[i]? = none := fun {r H F} p i hi => by
    cases e : ownL r[i]? with
    | none => rfl
    | some l =>
      obtain ⟨l', e'⟩ := p.sub i l e
      exact absurd hi (wipeS_own e').1
  -- the list changes
  have chg : ∀ {r H F o}, Ps K (wipeS ow r1) r (wipe σ ow) H1 F1 H F → F A = none → Ps K (wipeS ow r1) r (wipe σ ow) H1 F1 (upd H A o) F := fun {r H F o} p hf =>
    ⟨p.rp.other hf (nA p), p.f, fun b u e n => by rw [upd_ne (ne_of_none e hA)]; exact p.h b u e n, p.n, p.sub, p.io⟩
  refine ⟨fun i m H => m = xs.length - i ∧ i ≤ xs.length ∧ V i H, ⟨xs.length, by simp, Nat.zero_le _, wipeS ow r1, F1, [], [], chg (Ps.refl (p1.wipe ow)) hF1, upd_same, hF1, Reps.nil, by simpa using hE⟩, ?_⟩
  rintro i m H ⟨rfl, hi, r, F, acc, accV, p, hL, hF, ql, h⟩
  by_cases hlt : i < xs.length
  · refine .inr ⟨w.go hlt p.rp p.f, fun H' => i + 1 ≤ xs.length ∧ V (i + 1) H', fun H' w => ⟨xs.length - (i + 1), by omega, rfl, w.1, w.2⟩, fun x H' y => ?_⟩
    obtain ⟨d, F3, hd, p3, q3⟩ := w.yld hlt p.rp p.f y
    have e : xs.drop i = d :: xs.drop (i + 1) := by
      rw [List.drop_eq_getElem_cons hlt]
      congr 1
      rw [List.getElem?_eq_getElem hlt] at hd
      exact Option.some.inj hd
    rw [e] at h
    simp only [compL] at h
    unfold compB at h
    have p13 := p.trans p3
    have hL3 : H' A = some (.lst accV) := p3.h A _ hL (nA p)
    have hF3 : F3 A = none := p3.n A _ hL (nA p) hF
    cases z : setTg t d r with
    | none => simp only [z] at h; cases h
    | some r3 =>
      simp only [z] at h
      refine gTg_okB z p3.rp q3 fun σ4 p4 b4 => ⟨wipe_eq ⟨b4.1, fun j hj => b4.2 j fun z => hj (hsub j z)⟩, hc _ _ _ ⟨r3, F3, p4.rp, ?_⟩⟩
      cases e5 : fc r3 with
      | bad => simp only [e5] at h; cases h
      | exc x r5 => simp only [e5] at h; cases h
      | ok b r5 =>
        simp only [e5, R.bind] at h
        intro b' H5 F5 p5 q5
        cases q5
        have nA4 : ¬ Own r3 σ4 A := fun z => by
          rcases p4.sub A z with z | z
          · exact nA p13 z
          · rw [hL3] at z; cases z
        have hL5 : H5 A = some (.lst accV) := p5.h A _ hL3 nA4
        have hF5 : F5 A = none := p5.n A _ hL3 nA4 hF3
        cases b' with
        | false =>
          simp only at h
          refine iteF ⟨hlt, wipeS ow r5, F5, acc, accV, p13.trans (turn_ps (wiped p13) hsub z p4 b4 p5), hL5, hF5, ql.mono (p3.f.trans p5.f), h⟩
        | true =>
          simp only at h
          refine iteT (he _ _ _ ⟨r5, F5, p5.rp, ?_⟩)
          cases e6 : fe r5 with
          | bad => simp only [e6] at h; cases h
          | exc x r6 => simp only [e6] at h; cases h
          | ok yd r6 =>
            simp only [e6] at h
            intro yv H6 F6 p6 q6
            have nA5 : ¬ Own r5 σ4 A := fun z => nA4 (p5.ownSub z)
            have hL6 : H6 A = some (.lst accV) := p6.h A _ hL5 nA5
            have hF6 : F6 A = none := p6.n A _ hL5 nA5 hF5
            split at h
            · rename_i hlen
              refine ⟨accV, hL6, by rw [← ql.length, ← LINE_eq]; exact hlen, hlt, wipeS ow r6, F6, acc ++ [yd], accV ++ [yv], chg (p13.trans (turn_ps (wiped p13) hsub z p4 b4 (p5.trans p6))) hF6, upd_same, hF6, ?_, h⟩
              exact (ql.mono (p3.f.trans (p5.f.trans p6.f))).append (Reps.cons q6 Reps.nil)
            · cases h
  · have e : xs.drop i = [] := List.drop_eq_nil_of_le (by omega)
    rw [e] at h
    simp only [compL, R.ok.injEq] at h
    obtain ⟨rfl, rfl⟩ := h
    exact .inl ⟨w.stop (by omega) p.rp p.f, k _ _ H F accV hE p hL hF ql⟩
theorem o_compT {elt tg iter : Expr} {ifs : List Expr} {scope : Scope} {own : List (Str × Nat)} {t : Tg} {fi : St → R (List D)} {fc fe : St → R D} (hsub : ∀ i ∈ t.is, i ∈ own.map (·.2)) :
    ∀ σ H Q, tO' X.K ca W (compR fi t fc fe (own.map (·.2))) σ H Q → tLc (tI X.K ca W fi) (gTg X.K t) (tT X.K ca WF fc) (tE X.K ca WF fe) (own.map (·.2)) σ H Q := by
  intro σ H Q ⟨r, F, p, h⟩
  unfold compR at h
  refine ⟨r, F, p, ?_⟩
  cases e : fi r with
  | bad => rw [e] at h; exact h.elim
  | exc x r1 => rw [e] at h; exact h
  | ok xs r1 =>
    rw [e] at h
    intro J H1 F1 p1 w A hA
    simp only [R.bind] at h
    have ne : ∃ l r', compL (compB t fc fe (own.map (·.2))) xs [] (wipeS (own.map (·.2)) r1) = .ok l r' := by
      cases z : compL (compB t fc fe (own.map (·.2))) xs [] (wipeS (own.map (·.2)) r1) with
      | ok l r' => exact ⟨l, r', rfl⟩
      | bad => rw [z] at h; exact h.elim
      | exc x r' =>
        exfalso
        have : ∀ (xs : List D) (acc : List D) (r : St), compL (compB t fc fe (own.map (·.2))) xs acc r ≠ .exc x r' := by
          intro xs
          induction xs with
          | nil => intro acc r; simp [compL]
          | cons y ys ih =>
            intro acc r
            simp only [compL]
            split
            · split
              · exact ih _ _
              · simp
            · exact ih _ _
            · simp
        exact this _ _ _ z
    refine comp_loop hsub (fun _ _ _ z => z) (fun _ _ _ z => z) p1.rp w hA ne fun l r' H2 F2 accV hl p2 hL hF ql => ?_
    rw [hl] at h
    have nb : ∀ b, b ∈ [A] → True := fun _ _ => trivial
    -- the frame as it was
    have hlen : r'.length = r1.length := by rw [p2.rp.len, wipe_length, p1.rp.len]
    have inner : ∀ (i : Nat), i ∉ own.map (·.2) → (backS (own.map (·.2)) r1 r')[i]? = r'[i]? := fun i hi => backS_out hi
    have outer : ∀ (i : Nat), i ∈ own.map (·.2) → (backS (own.map (·.2)) r1 r')[i]? = r1[i]? := fun i hi => backS_in hi hlen
    have f2 : Same F1 F2 := p2.f
    have noIn : ∀ (i : Nat) l b, i ∈ own.map (·.2) → ownL r1[i]? = some l → σ[i]? = some (some (V.ref b)) → ¬ Own (wipeS (own.map (·.2)) r1) (wipe σ (own.map (·.2))) b := fun i l b hi e z ⟨j, m, e', z'⟩ => by
      obtain ⟨hj, e'⟩ := wipeS_own e'
      rw [wipe_out hj] at z'
      have := p1.rp.apart i j l m b e e' z z'
      subst this
      exact hj hi
    have ownB : ∀ (i : Nat) l, ownL (backS (own.map (·.2)) r1 r')[i]? = some l → ∃ l', ownL r1[i]? = some l' := fun i l e => by
      by_cases hi : i ∈ own.map (·.2)
      · rw [outer i hi] at e; exact ⟨l, e⟩
      · rw [inner i hi] at e
        obtain ⟨l', e'⟩ := p2.sub i l e
        exact ⟨l', (wipeS_own e').2⟩
    have hAne : ∀ b u, H1 b = some u → b ≠ A := fun b u e => ne_of_none e hA
    have rp : Rp X.K (backS (own.map (·.2)) r1 r') σ (delH H2 A) F2 := by
      refine ⟨by rw [backS_len, hlen]; exact p1.rp.len, fun b u e => ?_, fun i d e => ?_, fun i l e => ?_, fun i j l m a e1 e2 z1 z2 => ?_⟩
      · have hb : b ≠ A := fun z => by subst z; rw [hF] at e; cases e
        unfold delH
        rw [if_neg hb]
        exact p2.rp.sub b u e
      · by_cases hi : i ∈ own.map (·.2)
        · rw [outer i hi] at e
          obtain ⟨v, e1, q⟩ := p1.rp.val i d e
          exact ⟨v, e1, q.mono f2⟩
        · rw [inner i hi] at e
          obtain ⟨v, e1, q⟩ := p2.rp.val i d e
          rw [wipe_out hi] at e1
          exact ⟨v, e1, q⟩
      · by_cases hi : i ∈ own.map (·.2)
        · rw [outer i hi] at e
          obtain ⟨b, vs, e1, e2, e3, q⟩ := p1.rp.own i l e
          have hn := noIn i l b hi e e1
          refine ⟨b, vs, e1, ?_, p2.n b _ e2 hn e3, q.mono f2⟩
          unfold delH
          rw [if_neg (hAne b _ e2)]
          exact p2.h b _ e2 hn
        · rw [inner i hi] at e
          obtain ⟨b, vs, e1, e2, e3, q⟩ := p2.rp.own i l e
          rw [wipe_out hi] at e1
          obtain ⟨l', e'⟩ := p2.sub i l e
          obtain ⟨b', vs', z1, z2, _⟩ := p1.rp.own i l' (wipeS_own e').2
          rw [e1] at z1
          cases z1
          refine ⟨b, vs, e1, ?_, e3, q⟩
          unfold delH
          rw [if_neg (hAne b _ z2)]
          exact e2
      · obtain ⟨l1, y1⟩ := ownB i l e1
        obtain ⟨l2, y2⟩ := ownB j m e2
        exact p1.rp.apart i j l1 l2 a y1 y2 z1 z2
    have ps : Ps X.K r1 (backS (own.map (·.2)) r1 r') σ H1 F1 (delH H2 A) F2 := by
      refine ⟨rp, f2, fun b u e n => ?_, fun b u e n z => p2.n b u e (fun z => n (own_wipe z)) z, fun i l e => ownB i l e, fun i l e => ?_⟩
      · unfold delH
        rw [if_neg (hAne b u e)]
        exact p2.h b u e fun z => n (own_wipe z)
      · by_cases hi : i ∈ own.map (·.2)
        · rw [outer i hi]; exact ⟨l, e⟩
        · rw [inner i hi]
          exact p2.io i l (by rw [wipeS_out hi]; exact e)
    have fin := h A accV (delH H2 A) F2 (p1.trans ps) (by unfold delH; rw [if_pos rfl]) ql
    rw [upd_del hL] at fin
    exact fin
end
end Z

/-! Z11: comprehensions as values and stored; methods; more statements -/
namespace Z
open PySem PySem.Spec PyProof.Rows L2 TL

section
variable {X : Cx} {ca : Nat → Addr} {W : WX} {pos : Pos} {e a b : Expr} {f fa fb : St → R D}
theorem PTs.weak {es : List Expr} {t t' : TT} (h : PTs X es t) (w : ∀ σ H Q, t' σ H Q → t σ H Q) : PTs X es t' := ⟨fun pins s σ H Q I q => h.run pins s σ H Q I (w σ H Q q)⟩
theorem pts_no : PTs X [] (tT X.K ca W fun r => .ok (.bl true) r) := PTs.weak pts_nil fun σ H Q ⟨r, F, p, h⟩ => h true H F (Ps.refl p) rfl
theorem o_comp {elt tg iter : Expr} {ifs : List Expr} {scope : Scope} {own : List (Str × Nat)} {t : Tg} {fi : St → R (List D)} {fc fe : St → R D} (hc : X.calm = true) (nd : X.N.Nodup) (hi : QI X ca W tg iter fi) (ok : BlkOk X.N X.env.scope scope own)
    (hg : ∀ (s : Shared) (H : Hp) (C : Addr) (cl : List (Str × Addr)) (fp : List Addr), PG (X.blk s H scope (compEnvC scope cl C X.env) fp) tg (gTg X.K t))
    (ht : ∀ (s : Shared) (H : Hp) (C : Addr) (cl : List (Str × Addr)) (fp : List Addr), PTs (X.blk s H scope (compEnvC scope cl C X.env) fp) ifs (tT X.K ca WF fc))
    (he : ∀ (s : Shared) (H : Hp) (C : Addr) (cl : List (Str × Addr)) (fp : List Addr), PE (X.blk s H scope (compEnvC scope cl C X.env) fp) elt (tE X.K ca WF fe))
    (hs : ∀ x, foldedSetIterable iter X.env x = pure x) (hsub : ∀ i ∈ t.is, i ∈ own.map (·.2)) :
    QO X ca W (.ListComp elt [⟨tg, iter, ifs, 0⟩] scope pos) (compR fi t fc fe (own.map (·.2))) :=
  PE.weak (pe_lc hc nd hi ok hg ht he hs) (o_compT (elt := elt) (tg := tg) (iter := iter) (ifs := ifs) (scope := scope) hsub)
/-- name = [..], the name a local: the block's own store -/
theorem s_comp {i : Nat} {y : Str} {py spos : Pos} {elt tg iter : Expr} {ifs : List Expr} {scope : Scope} {own : List (Str × Nat)} {t : Tg} {fi : St → R (List D)} {fc fe : St → R D} (hc : X.calm = true) (nd : X.N.Nodup) (hy : X.N[i]? = some y) (hyl : X.env.scope.names.lookup y = some .local)
    (hsw : swapsWith (.ListComp elt [⟨tg, iter, ifs, 0⟩] scope pos) (some (.Name y py)) spos.line X.env = pure true) (hi : QI X ca W tg iter fi) (ok : BlkOk X.N X.env.scope scope own)
    (hg : ∀ (s : Shared) (H : Hp) (C : Addr) (cl : List (Str × Addr)) (fp : List Addr), PG (X.blk s H scope (compEnvC scope cl C X.env) fp) tg (gTg X.K t))
    (ht : ∀ (s : Shared) (H : Hp) (C : Addr) (cl : List (Str × Addr)) (fp : List Addr), PTs (X.blk s H scope (compEnvC scope cl C X.env) fp) ifs (tT X.K ca WF fc))
    (he : ∀ (s : Shared) (H : Hp) (C : Addr) (cl : List (Str × Addr)) (fp : List Addr), PE (X.blk s H scope (compEnvC scope cl C X.env) fp) elt (tE X.K ca WF fe))
    (hs : ∀ x, foldedSetIterable iter X.env x = pure x) (hsub : ∀ i ∈ t.is, i ∈ own.map (·.2)) :
    PS X (.Assign [.Name y py] (.ListComp elt [⟨tg, iter, ifs, 0⟩] scope pos) spos) (tAsg (tO' X.K ca W (compR fi t fc fe (own.map (·.2)))) (gName i)) :=
  PS.weak (ps_setLc hc nd hy hyl hsw hi ok hg ht he hs) fun D σ H h => o_compT (elt := elt) (tg := tg) (iter := iter) (ifs := ifs) (scope := scope) hsub σ H _ h
/-- an own list's expression, stored: as the frame's own, or shared -/
theorem s_ownT {st : Stmt} {i : Nat} (h : PS X st (tAsg (tO' X.K ca W f) (gName i))) : QS X ca W st (fun r => (f r).fl fun d r => match d with | .lst l => (match setv i (.own l) r with | some r => .nx r | none => .bad) | _ => .bad) := by
  refine PS.weak h fun D σ H ⟨r, F, p, h⟩ => ⟨r, F, p, ?_⟩
  cases e : f r with
  | bad => simp only [e] at h; exact h.elim
  | exc x r1 => simp only [e] at h; exact fun c dd H1 F1 p z => h c dd σ H1 F1 p.pt z
  | ok d r1 =>
    simp only [e] at h
    cases d with
    | lst l =>
      intro a vs H1 F1 p1 ha q1
      have h := FiS.shift p1.pt h
      dsimp only [R.fl] at h
      cases z : setv i (.own l) r1 with
      | none => simp only [z] at h; exact h.elim
      | some r2 =>
        simp only [z] at h
        obtain ⟨e2, hi, ni⟩ := setv_some z
        subst e2
        exact h _ _ _ (p1.rp.putOwn hi ni ha q1)
    | _ => exact h.elim
theorem compR_lst {fi : St → R (List D)} {t : Tg} {fc fe : St → R D} {ow : List Nat} {r r' : St} {d : D} (h : compR fi t fc fe ow r = .ok d r') : ∃ l, d = .lst l := by
  unfold compR at h
  cases e : fi r with
  | ok xs r1 =>
    simp only [e, R.bind] at h
    split at h
    · cases h; exact ⟨_, rfl⟩
    · cases h
    · cases h
  | exc x r1 => simp only [e, R.bind] at h; cases h
  | bad => simp only [e, R.bind] at h; cases h
theorem s_setT {st : Stmt} {i : Nat} (h : PS X st (tAsg (tO' X.K ca W f) (gName i))) (hl : ∀ r d r', f r = .ok d r' → ∃ l, d = .lst l) : QS X ca W st (fun r => (f r).fl fun d r => match setv i (.val d) r with | some r => .nx r | none => .bad) := by
  refine PS.weak h fun D σ H ⟨r, F, p, h⟩ => ⟨r, F, p, ?_⟩
  cases e : f r with
  | bad => simp only [e] at h; exact h.elim
  | exc x r1 => simp only [e] at h; exact fun c dd H1 F1 p z => h c dd σ H1 F1 p.pt z
  | ok d r1 =>
    simp only [e] at h
    cases d with
    | lst l =>
      intro a vs H1 F1 p1 ha q1
      have hn := p1.rp.new (o := .lst vs) ha
      have h := FiS.shift (p1.trans hn).pt h
      dsimp only [R.fl] at h
      cases z : setv i (.val (.lst l)) r1 with
      | none => simp only [z] at h; exact h.elim
      | some r2 =>
        simp only [z] at h
        obtain ⟨e2, hi, ni⟩ := setv_some z
        subst e2
        exact h _ _ _ (hn.rp.put hi ni (Rep.lst_iff.mpr ⟨a, vs, rfl, SqL.of upd_same, q1.mono hn.f⟩))
    | _ => obtain ⟨l, z⟩ := hl _ _ _ e; cases z

/-! ### xs[i] = e -/
theorem s_put {i : Nat} {x : Str} {px p2 : Pos} {ix : Expr} {fx : St → R D} (hN : X.N[i]? = some x) (hv : Vis X.env.scope x) (hd : (x == ("__debug__" : Str)) = false) (hcd : (x == ("__classdict__" : Str)) = false) (he : QE X ca W e f) (hi : QE X ca W ix fx) (hn : noComp e = true) (hx : noSlice ix = true) :
    QS X ca W (.Assign [.Subscript (.Name x px) ix p2] e pos) (fun r => (f r).fl fun d r => if (iov i r).isSome then (fx r).fl fun k r => (match k with
      | .int k => (match r[i]? with
        | some (.own l) => if 0 ≤ k ∧ k < l.length then .nx (r.set i (.own (l.set k.toNat d))) else .bad
        | some (.io l) => if 0 ≤ k ∧ k < l.length then .nx (r.set i (.io (l.set k.toNat d))) else .bad
        | _ => .bad)
      | _ => .bad) else .bad) := by
  have ha : ∀ v, assign (.Subscript (.Name x px) ix p2) X.env v = (do
      let ov ← holding [v] (eval (.Name x px) X.env)
      let iv ← holding [v, ov] (eval ix X.env)
      standAt p2
      holding [v, ov, iv] (setItem ov iv v)
      release [v, ov, iv] []) := by
    intro v
    cases ix <;> first | rfl | cases hx
  have hw : swapsWithSole [.Subscript (.Name x px) ix p2] e pos.line X.env = pure false := by
    show swapsWith e (some (.Subscript (.Name x px) ix p2)) pos.line X.env = pure false
    exact no_swap hn
  refine PS.weak (ps_asg he (pg_sub (pe_var hN hv hd hcd) hi set_list ha) hw (by cases e <;> rfl) rfl) fun D σ H ⟨r, F, p, h⟩ => ⟨r, F, p, FiS.step h fun d r1 v H1 F1 p1 q1 h => ?_⟩
  split at h
  case isFalse => exact h.elim
  rename_i h0
  obtain ⟨x0, e0⟩ := Option.isSome_iff_exists.mp h0
  obtain ⟨a, vs0, ea, ha0, _, _⟩ := p1.rp.own i x0 (iov_own e0)
  refine ⟨_, ea, r1, F1, p1.rp, FiS.step h fun k r2 w H2 F2 p2 q2 h => ?_⟩
  cases k with
  | int k =>
    dsimp only at h
    have q1 := q1.mono p2.f
    have fin : ∀ {l : List Z.D} {s : Slot}, ownL r2[i]? = some l → ownL (some s) = some (l.set k.toNat d) → ((∃ y, r2[i]? = some (Slot.io y)) → s = .io (l.set k.toNat d)) → (∀ d, s ≠ .val d) → 0 ≤ k ∧ k < l.length → FiS X.K ca W (.nx (r2.set i s)) r2 σ H2 F2 D →
        rSetL (V.ref a) w v H2 fun H' => D.nx σ H' := fun {l s} h1 h2 h3 h4 h5 h => by
      obtain ⟨b, ws, eb, hb, hF, q⟩ := p2.rp.own i l h1
      rw [ea] at eb
      cases eb
      refine ⟨a, ws, k, k.toNat, rfl, Rep.int_iff.mp q2, hb, ?_, h _ _ _ (p2.rp.chg h1 h2 h3 h4 ea (q.set q1)).pt⟩
      unfold ixN
      rw [if_pos h5.1, if_pos (by rw [← q.length]; exact h5.2)]
    split at h
    · rename_i l e1
      split at h
      · rename_i hl
        exact fin (by rw [e1]; rfl) rfl (fun ⟨y, z⟩ => by rw [e1] at z; cases z) (fun d z => by cases z) hl h
      · exact h.elim
    · rename_i l e1
      split at h
      · rename_i hl
        exact fin (by rw [e1]; rfl) rfl (fun _ => rfl) (fun d z => by cases z) hl h
      · exact h.elim
    · exact h.elim
  | _ => exact h.elim
/-! ### x += e -/
structure AuS (X : Cx) (op : Operator) (g : D → D → Option D) (rd : R2) : Prop where
  op : PIp X op rd
  ok : ∀ {x y d : D} {v w : V} {H F : Hp} {Q : VK}, g x y = some d → Rep X.K F x v → Rep X.K F y w → Same F H → (∀ z, Rep X.K F d z → Q z H) → rd v w H Q
theorem auS_add : AuS X .Add (augD .add) (fun x y H Q => rI0 (fun i j => .int (i + j)) x y H Q ∨ ∃ i j, x = V.str i ∧ y = V.str j ∧ i.length + j.length ≤ sizeLine ∧ Q (.str (i ++ j)) H) := by
  refine ⟨iop_add.or iop_add_str, ?_⟩
  intro x y d v w H F Q hg hx hy p h
  unfold augD at hg
  split at hg <;> try contradiction
  · cases hg
    exact .inl ⟨_, _, Rep.int_iff.mp hx, Rep.int_iff.mp hy, h _ (Rep.int_iff.mpr rfl)⟩
  · split at hg
    · rename_i hl
      cases hg
      obtain ⟨e1, o1⟩ := Rep.str_iff.mp hx
      obtain ⟨e2, o2⟩ := Rep.str_iff.mp hy
      refine .inr ⟨_, _, e1, e2, by rw [len_mk, len_mk, ← LINE_eq]; exact hl, ?_⟩
      rw [mk_app]
      exact h _ (Rep.str_iff.mpr ⟨rfl, o1.app o2 hl⟩)
    · cases hg
theorem auS_sub : AuS X .Sub (augD .sub) (rI0 (fun i j => .int (i - j))) := by
  refine ⟨iop_sub, ?_⟩
  intro x y d v w H F Q hg hx hy p h
  unfold augD at hg
  split at hg <;> try contradiction
  cases hg
  exact ⟨_, _, Rep.int_iff.mp hx, Rep.int_iff.mp hy, h _ (Rep.int_iff.mpr rfl)⟩
theorem s_aug {i : Nat} {x : Str} {px : Pos} {op : Operator} {g : D → D → Option D} {rd : R2} (o : AuS X op g rd) (nd : X.N.Nodup) (hN : X.N[i]? = some x) (hl : Loc X.env.scope x) (hf : X.fn x = true ∨ X.env.scope.names.lookup x = some .local) (he : QE X ca W e f) :
    QS X ca W (.AugAssign (.Name x px) op e pos) (fun r => match r[i]? with
      | some (.val x) => (f r).fl fun y r => (match (g x y).bind fun d => setv i (.val d) r with
        | some r => .nx r
        | none => .bad)
      | _ => .bad) := by
  refine PS.weak (ps_aug nd hN hl he o.op hf) fun D σ H ⟨r, F, p, h⟩ => ?_
  dsimp only at h
  split at h
  · rename_i xd ex
    obtain ⟨v, ev, qv⟩ := p.val i xd ex
    refine ⟨v, ev, r, F, p, FiS.step h fun y r1 w H1 F1 p1 q1 h => ?_⟩
    cases z : g xd y with
    | none => simp only [z] at h; exact h.elim
    | some d =>
      simp only [z, Option.bind] at h
      refine o.ok z (qv.mono p1.f) q1 p1.rp.sub fun u qu => ?_
      cases z2 : setv i (.val d) r1 with
      | none => simp only [z2] at h; exact h.elim
      | some r2 =>
        simp only [z2] at h
        obtain ⟨e2, hi, ni⟩ := setv_some z2
        subst e2
        exact h _ _ _ (p1.rp.put hi ni qu)
  · exact h.elim
end
end Z

/-! Z12: more expressions -/
namespace Z
open PySem PySem.Spec PyProof.Rows L2 TL

section
variable {X : Cx} {ca : Nat → Addr} {W : WX} {pos : Pos} {e a b : Expr} {f fa fb : St → R D}
theorem q_glo {x : Str} {v : V} {u : Value} {d : D} (hg : Gl X x) (hm : X.mg x = some u) (r : RelV v u) (hr : ∀ F, Rep X.K F d v) (hd : (x == ("__debug__" : Str)) = false) : QE X ca W (.Name x pos) (fun r => .ok d r) := q_con (pe_glob hg hm r hd) hr
/-! is True -/
theorem op_isB : OpR X (compareOp .Is) (fun x y H Q => ∃ i j, x = .bl i ∧ y = .bl j ∧ Q (.bl (i == j)) H) := by
  intro pins s σ H x y v u Q I rx ry h
  obtain ⟨i, j, rfl, rfl, q⟩ := h
  cases rx
  cases ry
  show wpAny _ _ ((isSame (.bool i) (.bool j)) >>= fun z => pure (Value.bool z)) _ _ s
  refine wpAny_bind (wpAny_isSame_plain rfl (wpAny_pure (fin_bl I ?_ rfl)))
  rw [show (Value.bool i == Value.bool j) = (i == j) by cases i <;> cases j <;> rfl]
  exact q
theorem q_isT {j : Nat} {p2 : Pos} (ha : QE X ca W a fa) : QE X ca W (.Compare a [.Is] [.Constant (.bool true) j p2] pos) (fun r => (fa r).bind fun x r => match x with | .bl b => .ok (.bl b) r | _ => .bad) := by
  refine PE.weak (pe_cmpR op_isB ha pe_bl rfl) fun σ H Q ⟨r, F, p, h⟩ => ⟨r, F, p, h.step fun x r1 v H1 F1 p1 q1 h => ?_⟩
  cases x with
  | bl b =>
    refine ⟨b, true, Rep.bl_iff.mp q1, rfl, h _ _ _ (Ps.refl p1.rp) (Rep.bl_iff.mpr ?_)⟩
    cases b <;> rfl
  | _ => exact h.elim
/-! text.index, text.join -/
theorem noBase {o : Expr} {name : Str} {env : Env} (h : (match o with | .Call _ _ _ _ => false | _ => true) = true) : attributeBase o name env (eval o env) = eval o env := by
  cases o <;> first | rfl | cases h
theorem six_occ {c k : Nat} {s : List Nat} (e0 : six c s = some k) : ∃ rest, Builtin.Str.occurrences (⟨s.toArray⟩ : Str) (⟨[c].toArray⟩ : Str) 0 (⟨s.toArray⟩ : Str).length 1 = k :: rest := by
  unfold six at e0
  split at e0
  · split at e0
    · rename_i hc; subst hc; cases e0; exact ⟨[], by decide +kernel⟩
    · split at e0
      · rename_i hc; subst hc; cases e0; exact ⟨[], by decide +kernel⟩
      · split at e0
        · rename_i hc; subst hc; cases e0; exact ⟨[], by decide +kernel⟩
        · cases e0
  · split at e0
    · rename_i hc; subst hc; cases e0; exact ⟨[], by decide +kernel⟩
    · split at e0
      · rename_i hc; subst hc; cases e0; exact ⟨[], by decide +kernel⟩
      · split at e0
        · rename_i hc; subst hc; cases e0; exact ⟨[], by decide +kernel⟩
        · cases e0
  · cases e0
theorem mt_ix {s : List Nat} {y d : D} (e : Mt.f .index s y = some d) : ∃ c k, y = .str [c] ∧ six c s = some k ∧ d = .int (k : Nat) := by
  unfold Mt.f at e
  split at e <;> try contradiction
  rename_i c _
  obtain ⟨k, e1, e2⟩ := Option.map_eq_some_iff.mp e
  exact ⟨c, k, rfl, e1, e2.symm⟩
theorem mt_jn {s : List Nat} {y d : D} (e : Mt.f .join s y = some d) : ∃ l ss, y = .lst l ∧ strsOf l = some ss ∧ ((joinL s ss).length ≤ LINE ∧ (ss.map (·.length)).sum + ss.length * s.length ≤ LINE) ∧ d = .str (joinL s ss) := by
  unfold Mt.f at e
  split at e <;> try contradiction
  rename_i l _
  obtain ⟨ss, e1, e2⟩ := Option.bind_eq_some_iff.mp e
  split at e2
  · rename_i hl
    cases e2
    exact ⟨l, ss, rfl, e1, hl, rfl⟩
  · cases e2
theorem q_sindex {apos : Pos} (ha : QE X ca W a fa) (hb : QE X ca W b fb) (hs : noStar b = true) (hbase : attributeBase a "index" X.env (eval a X.env) = eval a X.env) (hline : (apos.endLine == pos.line) = true) :
    QE X ca W (.Call (.Attribute a "index" apos) [b] [] pos) (fun r => (fa r).bind fun x r => match x with
      | .str s => (fb r).bind fun y r => .of (Mt.f .index s y) r
      | _ => .bad) := by
  refine PE.weak (pe_m1 F.slot_str_index F.type_str_index mt_sindex ha hb (star_cons hs) hbase hline) fun σ H Q ⟨r, F, p, h⟩ => ⟨r, F, p, h.step fun x r1 v H1 F1 p1 q1 h => ?_⟩
  cases x with
  | str s =>
    obtain ⟨ev, o⟩ := Rep.str_iff.mp q1
    refine ⟨⟨_, ev⟩, r1, F1, p1.rp, h.step fun y r2 w H2 F2 p2 q2 h => ?_⟩
    cases e : Mt.f .index s y with
    | none => rw [e] at h; exact h.elim
    | some d =>
      rw [e] at h
      obtain ⟨c, k, rfl, e0, rfl⟩ := mt_ix e
      obtain ⟨ew, ow⟩ := Rep.str_iff.mp q2
      subst ev ew
      obtain ⟨rest, ho⟩ := six_occ e0
      exact ⟨_, _, k, rest, rfl, rfl, ho, h _ _ _ (Ps.refl p2.rp) (Rep.int_iff.mpr rfl)⟩
  | _ => exact h.elim
theorem joinS_eq (sep : List Nat) : ∀ ss : List (List Nat), Str.join (⟨sep.toArray⟩ : Str) (ss.map fun s => (⟨s.toArray⟩ : Str)) = ⟨(joinL sep ss).toArray⟩
  | [] => rfl
  | [s] => rfl
  | s :: t :: l => by
    show (⟨s.toArray⟩ : Str) ++ (⟨sep.toArray⟩ : Str) ++ Str.join (⟨sep.toArray⟩ : Str) ((t :: l).map fun s => (⟨s.toArray⟩ : Str)) = _
    rw [joinS_eq sep (t :: l), mk_app, mk_app]
    rfl
theorem joinL_eq (sep : List Nat) (ss : List (List Nat)) : Txt.join (⟨sep.toArray⟩ : Str) (ss.map fun s => (⟨s.toArray⟩ : Str)) = ⟨(joinL sep ss).toArray⟩ := by
  rw [join_eq, joinS_eq]
theorem joinL_ok {sep : List Nat} (h : ∀ c ∈ sep, c < 0x110000) : ∀ {ss : List (List Nat)}, (∀ s ∈ ss, ∀ c ∈ s, c < 0x110000) → ∀ c ∈ joinL sep ss, c < 0x110000
  | [], _, c, hc => by simp [joinL] at hc
  | [s], hs, c, hc => hs s (by simp) c (by simpa [joinL] using hc)
  | s :: t :: l, hs, c, hc => by
    simp only [joinL, List.mem_append] at hc
    rcases hc with (hc | hc) | hc
    · exact hs s (by simp) c hc
    · exact h c hc
    · exact joinL_ok h (fun u hu => hs u (List.mem_cons_of_mem _ hu)) c hc
theorem q_join {apos : Pos} (ha : QE X ca W a fa) (hb : QE X ca W b fb) (hs : noStar b = true) (hbase : attributeBase a "join" X.env (eval a X.env) = eval a X.env) (hline : (apos.endLine == pos.line) = true) :
    QE X ca W (.Call (.Attribute a "join" apos) [b] [] pos) (fun r => (fa r).bind fun x r => match x with
      | .str s => (fb r).bind fun y r => .of (Mt.f .join s y) r
      | _ => .bad) := by
  refine PE.weak (pe_join ha hb (star_cons hs) hbase hline) fun σ H Q ⟨r, F, p, h⟩ => ⟨r, F, p, h.step fun x r1 v H1 F1 p1 q1 h => ?_⟩
  cases x with
  | str s =>
    obtain ⟨ev, o⟩ := Rep.str_iff.mp q1
    refine ⟨⟨_, ev⟩, r1, F1, p1.rp, h.step fun y r2 w H2 F2 p2 q2 h => ?_⟩
    cases e : Mt.f .join s y with
    | none => rw [e] at h; exact h.elim
    | some d =>
      rw [e] at h
      obtain ⟨l, ss, rfl, e1, hl, rfl⟩ := mt_jn e
      obtain ⟨q, vs, ew, s1, z1⟩ := Rep.lst_iff.mp q2
      obtain ⟨e3, e4⟩ := strs_vals e1 z1
      subst ev ew e3
      refine ⟨_, q, ss.map fun s => (⟨s.toArray⟩ : Str), rfl, rfl, .inl (SqL.mono p2.rp.sub s1), ?_, ?_⟩
      · have : (((ss.map fun s => (⟨s.toArray⟩ : Str)).map (·.length)).sum + (ss.map fun s => (⟨s.toArray⟩ : Str)).length * (⟨s.toArray⟩ : Str).length) = (ss.map (·.length)).sum + ss.length * s.length := by
          rw [List.map_map, List.length_map, len_mk]
          congr 2
        rw [this]
        exact hl.2
      · rw [joinL_eq]
        refine h _ _ _ (Ps.refl p2.rp) (Rep.str_iff.mpr ⟨rfl, ?_, hl.1⟩)
        simp only [List.all_eq_true, decide_eq_true_eq]
        exact joinL_ok (by simpa using o.1) fun t ht => by simpa using (e4 t ht).1
  | _ => exact h.elim
/-! "a-b"[::-1] -/
theorem q_rev {k : Nat} {p1 p2 p3 : Pos} (ha : QE X ca W a fa) (ht : ∀ o r, letTemporaryGo a o r = pure ()) : QE X ca W (.Subscript a (.Slice none none (some (.UnaryOp .USub (.Constant (.int 1) k p1) p2)) p3) pos) (fun r => (fa r).bind fun x r => .of (revD x) r) := by
  refine ⟨fun pins s σ H Q I ⟨r, F, p, h⟩ => ?_⟩
  dsimp only at h
  refine Subscript_ (thn (ha.run pins s σ H _ I ⟨r, F, p, h.step (ra := Rep X.K) (Q1 := fun v H1 => ∃ r1 F1, Rp X.K r1 σ H1 F1 ∧ v = .str (⟨#[97, 45, 98]⟩ : Str) ∧ Q (.str (⟨#[98, 45, 97]⟩ : Str)) H1) fun x r1 v H1 F1 p1 q1 h => ?_⟩) fun v s1 ⟨x, H1, I1, r1, q1⟩ => ?_)
  · cases x with
    | str z =>
      dsimp only [revD] at h
      split at h
      · rename_i hz
        subst hz
        exact ⟨r1, F1, p1.rp, (Rep.str_iff.mp q1).1, h _ _ _ (Ps.refl p1.rp) (Rep.str_iff.mpr ⟨rfl, by decide, by decide⟩)⟩
      · exact h.elim
    | _ => exact h.elim
  · obtain ⟨r2, F1, _, ex, q⟩ := q1
    subst ex
    obtain ⟨t, rfl⟩ := r1
    have hst : PO X (some (.UnaryOp .USub (.Constant (.int 1) k p1) p2)) (tPart (tUn (rU fun i => .int (-i)) (tC (.int 1)))) := po_some (pe_un un_neg pe_int)
    refine wpAny_Slice (thn (po_none.run pins s1 σ H1 (fun o H2 => o = none ∧ H2 = H1) I1 ⟨rfl, rfl⟩) fun vl s2 ⟨l, H2, I2, pl, el, e2⟩ => ?_)
    subst el e2
    refine thn (po_none.run pins s2 σ H2 (fun o H3 => o = none ∧ H3 = H2) I2 ⟨rfl, rfl⟩) fun vu s3 ⟨u, H3, I3, pu, eu, e3⟩ => ?_
    subst eu e3
    refine thn (hst.run pins s3 σ H3 (fun o H4 => o = some (-1) ∧ H4 = H3) I3 ⟨1, rfl, -1, rfl, rfl, rfl⟩) fun vs s4 ⟨o, H4, I4, ps, eo, e4⟩ => ?_
    subst eo e4
    have I5 : Inv X pins σ H4 { s4 with heap := s4.heap.push { cls := .type "slice", data := .fields #[vl, vu, vs] } } := I4.kept (t' := s4.toks) fun b ob q => Heap.get?_push_of_some _ q
    cases pl
    cases pu
    obtain ⟨tk, evs⟩ : ∃ tk, vs = .int (-1) tk := by cases ps; exact ⟨_, rfl⟩
    subst evs
    show wpAny (model X.prog X.w) X.A (subscriptTail a (.Slice none none (some (.UnaryOp .USub (.Constant (.int 1) k p1) p2)) p3) (.str ⟨#[97, 45, 98]⟩ t) (.ref s4.heap.objs.size)) (EP X pins σ Q) X.xe { s4 with heap := s4.heap.push { cls := .type "slice", data := .fields #[.none, .none, .int (-1) tk] } }
    refine PyProof.Rows.tail_of_ItemOn ⟨"str", _, PySem.F.slot_str_getitem.lookup, typeIs_str _ _ _, wpAny_getItem_str_slice (l := none) (u := none) (st := some (-1, tk)) ⟨_, Heap.get?_push_size _ rfl, rfl, rfl⟩ rfl
      (post_val_or_str ⟨Nat.le_trans (PySem.Txt.sliceBy_le _ _ _ (-1, tk) (fun z => by cases z)) (by decide +kernel), fun t' c => ?_⟩)⟩ (by with_unfolding_all rfl) (fun r => ht _ r)
    have e : Txt.sliceBy (⟨#[97, 45, 98]⟩ : Str) none none (-1, tk) = (⟨#[98, 45, 97]⟩ : Str) := by with_unfolding_all rfl
    show EP X pins σ Q (.str (Txt.sliceBy (⟨#[97, 45, 98]⟩ : Str) none none (-1, tk)) t') _
    rw [e]
    exact ⟨.str _, _, I5.tok c, ⟨_, rfl⟩, q⟩
/-! a written dict, looked into -/
theorem noSl (h : noSlice a = true) : NoSl a := by
  intro o i
  cases a <;> first | rfl | cases h
/-- f(k = v, ..), all parameters by name -/
def gK (n : Nat) (ks : List Nat) {α : Type} (z : α) (us ws : List α) : List α := if us.length = 0 ∧ ws.length = n then ks.map fun k => ws.getD k z else []
theorem vals_getD : ∀ {zs : List V} {ws : List Value} {k : Nat}, Vals zs ws → RelV (zs.getD k .non) (ws.getD k .none)
  | _, _, _, .nil => by simp; rfl
  | _, _, 0, .cons r _ => by simpa using r
  | _, _, k + 1, .cons _ t => by simpa using vals_getD (k := k) t
theorem gK_rel {n : Nat} {ks : List Nat} {vs zs : List V} {us ws : List Value} (h1 : Vals vs us) (h2 : Vals zs ws) : Vals (gK n ks .non vs zs) (gK n ks .none us ws) := by
  unfold gK
  rw [h1.length, h2.length]
  split
  · induction ks with
    | nil => exact .nil
    | cons k ks ih => exact .cons (vals_getD h2) ih
  · exact .nil

section
variable {n k0 : Nat} {ks : List Nat} {nms : List Str} {f0 : Addr} {fd : FuncData} {ps : List Str} {x : Str} {c : List Slot → CR} {kws : List Keyword} {fs : St → R (List D)} {p : Pos}
abbrev QK (X : Cx) (ca : Nat → Addr) (W : WX) (kws : List Keyword) (f : St → R (List D)) : Prop := PK X kws (tAs X.K ca W f)
theorem PK.weak {t t' : TA} (h : PK X kws t) (w : ∀ σ H Q, t' σ H Q → t σ H Q) : PK X kws t' := ⟨fun pos pins s σ H Q I q => h.run pos pins s σ H Q I (w σ H Q q)⟩
theorem qk_nil : QK X ca W [] (fun r => .ok [] r) := PK.weak pk_nil fun σ H Q ⟨r, F, p, h⟩ => h [] H F (Ps.refl p) Reps.nil
theorem qk_cons {nm : Option Str} {kpos : Pos} {e : Expr} {f : St → R D} {g : St → R (List D)} (h1 : QE X ca W e f) (h2 : QK X ca W kws g) : QK X ca W (⟨nm, e, kpos⟩ :: kws) (fun r => (f r).bind fun d r => (g r).bind fun l r => .ok (d :: l) r) := by
  refine PK.weak (pk_cons h1 h2) fun σ H Q ⟨r, F, p, h⟩ => ⟨r, F, p, h.step fun x r1 v H1 F1 p1 q1 h => ⟨r1, F1, p1.rp, h.step fun l r2 vs H2 F2 p2 q2 h => ?_⟩⟩
  exact h _ _ _ (Ps.refl p2.rp) (Reps.cons (q1.mono p2.f) q2)
theorem kw_all {env : Env} (h : kws.all (·.arg.isSome) = true) : (backToKw pos (keywordEach kws env)).all (·.1.isSome) = true ∧ (backToKw pos (keywordEach kws env)).filterMap (·.1) = kws.filterMap (·.arg) ∧ (backToKw pos (keywordEach kws env)).any (·.1.isNone) = false := by
  induction kws with
  | nil => exact ⟨rfl, rfl, rfl⟩
  | cons k kws ih =>
    simp only [List.all_cons, Bool.and_eq_true] at h
    obtain ⟨a, b, c⟩ := ih h.2
    obtain ⟨nm, e, kp⟩ := k
    cases nm with
    | none => cases h.1
    | some nm =>
      refine ⟨?_, ?_, ?_⟩
      · show ((some nm : Option Str).isSome && (backToKw pos (keywordEach kws env)).all (·.1.isSome)) = true
        rw [a]; rfl
      · show nm :: (backToKw pos (keywordEach kws env)).filterMap (·.1) = _
        rw [b]; rfl
      · show ((some nm : Option Str).isNone || (backToKw pos (keywordEach kws env)).any (·.1.isNone)) = false
        rw [c]; rfl
theorem reps_perm {K : PySem.W.Frag} {F : Hp} {l : List D} {vs : List V} (h : Reps K F l vs) (ks : List Nat) : Reps K F (ks.map fun k => l.getD k .non) (ks.map fun k => vs.getD k .non) := by
  induction ks with
  | nil => exact Reps.nil
  | cons k ks ih =>
    refine Reps.cons ?_ ih
    show Rep K F (l.getD k D.non) (vs.getD k V.non)
    cases e : l[k]? with
    | none =>
      have e2 : vs[k]? = none := by rw [List.getElem?_eq_none_iff] at e ⊢; rw [← h.length]; exact e
      rw [List.getD_eq_getElem?_getD, List.getD_eq_getElem?_getD, e, e2]
      exact Rep.non_iff.mpr rfl
    | some d =>
      obtain ⟨v, e2, q⟩ := h.get e
      rw [List.getD_eq_getElem?_getD, List.getD_eq_getElem?_getD, e, e2]
      exact q
theorem q_callk (FO : FnOk X.prog X.w X.K X.mg X.base (L2.CX X.prog X.w) k0 f0 fd ps (SpOf X.K ca ps.length c)) (hr : Room k0 X.A) (hg : Gl X x) (hm : X.mg x = some (.ref f0)) (hk : PySem.W.keepIn X.K (.ref f0) = true)
    (hb : KBinds X.K fd ps nms (gK n ks .none) (gK n ks .non)) (hd : (x == ("__debug__" : Str)) = false) (ha : QK X ca W kws fs) (hall : kws.all (·.arg.isSome) = true) (hnm : kws.filterMap (·.arg) = nms) (hlen : ∀ r l r', fs r = .ok l r' → l.length = n) (hks : ks.length = ps.length) :
    QE X ca W (.Call (.Name x p) [] kws pos) (fun r => (fs r).bind fun l r => (c (ks.map fun k => .val (l.getD k .non))).valK r) := by
  obtain ⟨k1, k2, k3⟩ := kw_all (pos := pos) (env := X.env) hall
  refine ⟨fun pins s σ H Q I ⟨r, F, q, h⟩ => ?_⟩
  refine wpAny_Call_Name_kw (ld_glob I hg hm ?_ hd)
  refine PySem.W.callWith_KW0 (h₀ := X.base) I.ok.mod.kin hk k1 (thn (ha.run pos pins s σ H (fun zs H2 => SpOf X.K ca ps.length c (gK n ks .non [] zs) H2 Q (fun _ _ _ => False)) I ⟨r, F, q, ?_⟩) fun ws s2 ⟨zs, H2, I2, rz, q2⟩ => ⟨I2.kIn, ?_⟩) (by rw [k3]; rfl)
  · dsimp only at h
    cases e1 : fs r with
    | bad => rw [e1] at h; exact h.elim
    | exc y r1 => rw [e1] at h; exact h
    | ok l r1 =>
      rw [e1] at h
      intro vs H1 F1 p1 q1
      have h := Fi.shift p1 h
      dsimp only [R.bind] at h
      have hl : l.length = n := hlen r l r1 e1
      have eg : gK n ks V.non [] vs = ks.map fun k => vs.getD k .non := by
        unfold gK
        rw [if_pos ⟨rfl, by rw [← q1.length]; exact hl⟩]
      rw [eg]
      have q2 := reps_perm q1 ks
      have es : (ks.map fun k => Slot.val (l.getD k .non)) = (ks.map fun k => l.getD k .non).map .val := by rw [List.map_map]; rfl
      rw [es] at h
      refine ⟨(ks.map fun k => l.getD k .non).map .val, F1, by rw [List.length_map]; exact hks, vals_rp p1.rp.sub q2, fun i m z => ?_, fun i m z => ?_, ?_⟩
      · exact vals_noL (i := i) (m := m) (by rw [z]; rfl)
      · exact absurd (show ownL ((ks.map fun k => l.getD k .non).map Slot.val)[i]? = some m by rw [z]; rfl) vals_noL
      · cases e2 : c ((ks.map fun k => l.getD k .non).map .val) with
        | bad => rw [e2] at h; exact h.elim
        | ret d o =>
          rw [e2] at h
          exact fun v H' F' pc q => h v H' F' (Pc.ps p1.rp pc) q
        | exc y o => rw [e2] at h; exact h.elim
  · rw [k2, hnm]
    exact run_fnk (us := []) (vs := []) FO hr hb (fun _ _ _ _ _ _ _ ⟨_, _, _, _, _, _, _, _, _, _, _, _, z⟩ => z.elim) I2 .nil rz q2
end
/-! a written dict, looked into -/
section
def cvD : D → V
  | .int i => .int i
  | .str s => SV s
  | _ => .non
def cOk : D → Bool
  | .int _ => true
  | .str s => s.all (· < 0x110000) && decide (s.length ≤ 100)
  | _ => false
theorem cvD_rep {K : PySem.W.Frag} {F : Hp} {d : D} (h : cOk d = true) : Rep K F d (cvD d) := by
  cases d <;> first | (simp [cOk] at h; done) | skip
  · exact Rep.int_iff.mpr rfl
  · simp only [cOk, Bool.and_eq_true, decide_eq_true_eq] at h
    exact Rep.str_iff.mpr ⟨rfl, h.1, by have := h.2; unfold LINE; omega⟩
def dV (ks : List (List Nat)) (ds : List D) : List (Key × V) := (ks.zip ds).map fun q => (.inr ⟨q.1.toArray⟩, cvD q.2)
theorem dlook_none : ∀ {ks : List (List Nat)} {ds : List D} {s : List Nat}, s ∉ ks → dlook ks ds s = none
  | [], _, _, _ => by unfold dlook; rfl
  | k :: ks, [], _, _ => by unfold dlook; rfl
  | k :: ks, v :: vs, s, h => by
    simp only [List.mem_cons, not_or] at h
    simp only [dlook, if_neg h.1]
    exact dlook_none h.2
theorem key_inj {s k : List Nat} (h : (Sum.inr (⟨s.toArray⟩ : Str) : Key) = Sum.inr ⟨k.toArray⟩) : s = k := by
  simp only [Sum.inr.injEq] at h
  have := congrArg Str.cps h
  simpa using this
theorem valV_dV : ∀ {ks : List (List Nat)} {ds : List D} {acc : List (Key × V)} {s : List Nat}, ks.Nodup → valV (mergeK acc (dV ks ds)) (.inr ⟨s.toArray⟩) = ((dlook ks ds s).map cvD).or (valV acc (.inr ⟨s.toArray⟩))
  | [], ds, acc, s, _ => by simp [dV, dlook, mergeK]
  | k :: ks, [], acc, s, _ => by simp [dV, dlook, mergeK]
  | k :: ks, v :: vs, acc, s, h => by
    have ih := valV_dV (ks := ks) (ds := vs) (acc := putK acc (.inr ⟨k.toArray⟩) (cvD v)) (s := s) (List.nodup_cons.mp h).2
    show valV (mergeK (putK acc (.inr ⟨k.toArray⟩) (cvD v)) (dV ks vs)) _ = _
    rw [ih, valV_put]
    by_cases hs : s = k
    · subst hs
      rw [dlook_none (List.nodup_cons.mp h).1, if_pos rfl]
      simp [dlook]
    · rw [if_neg fun z => hs (key_inj z)]
      simp only [dlook, if_neg hs]
/-- the display's text -/
def keyB : Option Expr → List Nat → Bool
  | some (.Constant (.str k) _ _), s => k == ⟨s.toArray⟩
  | _, _ => false
theorem keyB_ok {o : Option Expr} {s : List Nat} (h : keyB o s = true) : ∃ j p, o = some (.Constant (.str ⟨s.toArray⟩) j p) := by
  unfold keyB at h
  split at h
  · rw [eq_of_beq h]; exact ⟨_, _, rfl⟩
  · cases h
def valB : Expr → D → Bool
  | .Constant (.int i) _ _, .int j => i == j
  | .Constant (.str x) _ _, .str y => x == ⟨y.toArray⟩
  | _, _ => false
theorem valB_ok {v : Expr} {d : D} (h : valB v d = true) : PE X v (tC (cvD d)) := by
  unfold valB at h
  split at h
  · rw [eq_of_beq h]; exact pe_int
  · rw [eq_of_beq h]; exact pe_str
  · cases h
def dictB : List (Option Expr) → List Expr → List (List Nat) → List D → Bool
  | [], [], [], [] => true
  | o :: es, v :: vs, s :: ks, d :: ds => keyB o s && cOk d && valB v d && dictB es vs ks ds
  | _, _, _, _ => false
def dTr (ks : List (List Nat)) (ds : List D) : List (TE × TE) := (ks.zip ds).map fun q => (tC (.str ⟨q.1.toArray⟩), tC (cvD q.2))
theorem pps_dict {pos : Pos} : ∀ {es : List (Option Expr)} {vs : List Expr} {ks : List (List Nat)} {ds : List D}, dictB es vs ks ds = true → PPs X pos es vs (dTr ks ds) ∧ es.all (·.isSome) = true ∧ es.length = vs.length ∧ es.length = ks.length ∧ ks.length = ds.length ∧ ds.all cOk = true
  | [], [], [], [], _ => ⟨pps_nil, rfl, rfl, rfl, rfl, rfl⟩
  | o :: es, v :: vs, s :: ks, d :: ds, h => by
    simp only [dictB, Bool.and_eq_true] at h
    obtain ⟨⟨⟨h1, h2⟩, h3⟩, h4⟩ := h
    obtain ⟨a1, a2, a3, a4, a5, a6⟩ := pps_dict h4
    obtain ⟨j, p, rfl⟩ := keyB_ok h1
    exact ⟨pps_cons pe_str (valB_ok h3) a1, by simpa using a2, by simp [a3], by simp [a4], by simp [a5], by simp only [List.all_cons, h2, a6]; rfl⟩
  | [], [], [], _ :: _, h | [], [], _ :: _, _, h | [], _ :: _, _, _, h | _ :: _, [], _, _, h | _ :: _, _ :: _, [], _, h | _ :: _, _ :: _, _ :: _, [], h => by simp [dictB] at h
theorem tPairs_dict {σ : L2.St} {H : Hp} : ∀ {ks : List (List Nat)} {ds : List D} {Q : List (V × V) → Hp → Prop}, Q ((dV ks ds).map fun kv => (kV kv.1, kv.2)) H → tPairs (dTr ks ds) σ H Q
  | [], _, Q, h => h
  | _ :: _, [], Q, h => h
  | k :: ks, d :: ds, Q, h => tPairs_dict (ks := ks) (ds := ds) (Q := fun ps H => Q ((.str ⟨k.toArray⟩, cvD d) :: ps) H) h
/-- a new object that is none of the data -/
theorem Rp.newH {K : PySem.W.Frag} {r : St} {σ : L2.St} {H F : Hp} (p : Rp K r σ H F) {a : Addr} {o : HO} (h : H a = none) : Ps K r r σ H F (upd H a o) F := by
  have hF : F a = none := p.sub.free h
  refine ⟨⟨p.len, fun b u e => ?_, p.val, fun i l e => ?_, p.apart⟩, fun _ _ e => e, fun b u e _ => Same.upd h b u e, fun b u e _ n => n, fun i l e => ⟨l, e⟩, fun i l e => ⟨l, e⟩⟩
  · have hb : b ≠ a := fun z => by subst z; rw [hF] at e; cases e
    rw [upd_ne hb]
    exact p.sub b u e
  · obtain ⟨b, vs, e1, e2, e3, q⟩ := p.own i l e
    exact ⟨b, vs, e1, by rw [upd_ne (ne_of_none e2 h)]; exact e2, e3, q⟩
theorem disp_at {σ : L2.St} {H : Hp} {ks : List (List Nat)} {ds : List D} {Q : VK} (h15 : ks.length ≤ 15) (h : ∀ p, H p = none → Q (.ref p) (upd H p (.dK (mergeK [] (dV ks ds))))) : tDisp (dTr ks ds) σ H Q := by
  intro p hp
  refine tPairs_dict ⟨upd_same, dV ks ds, rfl, ?_, ?_⟩
  · unfold dV
    rw [List.length_map, List.length_zip]
    omega
  · have e : upd (upd H p (.dK [])) p (.dK (mergeK [] (dV ks ds))) = upd H p (.dK (mergeK [] (dV ks ds))) := by
      funext b
      by_cases hb : b = p
      · subst hb; rw [upd_same, upd_same]
      · rw [upd_ne hb, upd_ne hb, upd_ne hb]
    rw [e]
    exact h p hp
theorem look_rep {K : PySem.W.Frag} {F : Hp} {ks : List (List Nat)} {ds : List D} {s : List Nat} {d : D} (h : ds.all cOk = true) (e : dlook ks ds s = some d) : Rep K F d (cvD d) := by
  induction ks generalizing ds with
  | nil => simp [dlook] at e
  | cons k ks ih =>
    cases ds with
    | nil => simp [dlook] at e
    | cons v vs =>
      simp only [List.all_cons, Bool.and_eq_true] at h
      simp only [dlook] at e
      split at e
      · cases e; exact cvD_rep h.1
      · exact ih h.2 e
variable {es : List (Option Expr)} {vs : List Expr} {ks : List (List Nat)} {ds : List D} {p2 : Pos}
theorem q_dsub (hu : X.A.units + 1 < cLine) (hd : dictB es vs ks ds = true) (hne : es ≠ []) (h15 : ks.length ≤ 15) (nd : ks.Nodup) (ha : QE X ca W a fa) (hs : noSlice a = true) :
    QE X ca W (.Subscript (.Dict es vs p2) a pos) (fun r => (fa r).bind fun x r => match x with
      | .str s => .of (dlook ks ds s) r
      | _ => .bad) := by
  obtain ⟨a1, a2, a3, a4, a5, a6⟩ := pps_dict (X := X) (pos := p2) hd
  refine PE.weak (pe_dget hu (pe_disp a1 a2 a3 hne (by omega)) ha (noSl hs)) fun σ H Q ⟨r, F, p, h⟩ => disp_at h15 fun q hq => ⟨r, F, (p.newH hq).rp, Fi.step (Fi.shift (p.newH hq) h) fun x r1 v H1 F1 p1 q1 h => ?_⟩
  cases x with
  | str s =>
    dsimp only at h
    cases e : dlook ks ds s with
    | none => rw [e] at h; exact h.elim
    | some d =>
      rw [e] at h
      have no : ¬ Own r σ q := fun z => by obtain ⟨_, vs, z⟩ := p.ownNo z; rw [hq] at z; cases z
      refine ⟨q, cvD d, rfl, .inl ⟨_, .inr ⟨s.toArray⟩, Rd.of (p1.h q _ upd_same no), (Rep.str_iff.mp q1).1, ?_⟩, h _ _ _ (Ps.refl p1.rp) (look_rep a6 e)⟩
      rw [valV_dV nd, e]
      rfl
  | _ => exact h.elim
theorem q_dget {b : Expr} {fb : St → R D} {apos : Pos} (hu : X.A.units + 1 < cLine) (hd : dictB es vs ks ds = true) (hne : es ≠ []) (h15 : ks.length ≤ 15) (nd : ks.Nodup) (ha : QE X ca W a fa) (hb : QE X ca W b fb) (hs : noStar a = true) (hs2 : noStar b = true) (hline : (apos.endLine == pos.line) = true) :
    QE X ca W (.Call (.Attribute (.Dict es vs p2) "get" apos) [a, b] [] pos) (fun r => (fa r).bind fun x r => (fb r).bind fun y r => match x with
      | .str s => .ok ((dlook ks ds s).getD y) r
      | _ => .bad) := by
  obtain ⟨a1, a2, a3, a4, a5, a6⟩ := pps_dict (X := X) (pos := p2) hd
  have st : starEach [a, b] X.env = [(false, eval a X.env), (false, eval b X.env)] := by rw [star_cons hs, star_cons hs2]; rfl
  have m : M2 X (.Dict es vs p2) "get" apos a b pos := ⟨rfl, by rw [st]; rfl, hline, by rw [st]; rfl⟩
  refine PE.weak (pe_dget2 hu (pe_disp a1 a2 a3 hne (by omega)) ha hb m) fun σ H Q ⟨r, F, p, h⟩ => disp_at h15 fun q hq => ⟨q, rfl, .inl ⟨_, Rd.of upd_same⟩, r, F, (p.newH hq).rp, Fi.step (Fi.shift (p.newH hq) h) fun x r1 v H1 F1 p1 q1 h => ⟨r1, F1, p1.rp, Fi.step h fun y r2 w H2 F2 p2 q2 h => ?_⟩⟩
  cases x with
  | str s =>
    dsimp only at h
    have no : ¬ Own r σ q := fun z => by obtain ⟨_, vs, z⟩ := p.ownNo z; rw [hq] at z; cases z
    have no1 : ¬ Own r1 σ q := fun z => no (p1.ownSub z)
    refine ⟨valV (mergeK [] (dV ks ds)) (.inr ⟨s.toArray⟩), .inl ⟨_, .inr ⟨s.toArray⟩, Rd.of (p2.h q _ (p1.h q _ upd_same no) no1), (Rep.str_iff.mp q1).1, rfl⟩, ?_⟩
    rw [valV_dV nd]
    cases e : dlook ks ds s with
    | none => rw [e] at h; exact h _ _ _ (Ps.refl p2.rp) q2
    | some d => rw [e] at h; exact h _ _ _ (Ps.refl p2.rp) (look_rep a6 e)
  | _ => exact h.elim
end
end
end Z

/-! Z13: the checker of core syntax against the model's syntax tree; expressions -/
namespace Z
open PySem PySem.Spec PyProof.Rows L2 TL

structure Tb where
  glo : List Str
  fns : List (Str × Nat)
  kb : List (Nat × List Str × List Nat)
  free : List Str
structure Sc where
  N : List Str
  names : List (Str × NameKind)
  all : Bool
def okN (x : Str) : Bool := !(x == ("__debug__" : Str)) && !(x == ("__classdict__" : Str))
def isVis : Option NameKind → Bool
  | some .local => true
  | some .cell => true
  | some .free => true
  | _ => false
def Sc.vis (c : Sc) (i : Nat) (x : Str) : Bool := decide (c.N[i]? = some x) && okN x && isVis (c.names.lookup x)
def Sc.loc (c : Sc) (i : Nat) (x : Str) : Bool := decide (c.N[i]? = some x) && (match c.names.lookup x with
  | some .local => true
  | some .cell => c.all
  | _ => false)
def Sc.gl (c : Sc) (x : Str) : Bool := okN x && decide (c.names.lookup x = some .globalImplicit)
def relN (names par : List (Str × NameKind)) : List (Str × NameKind) := names.map fun (n, k) => if (k == .free && par.lookup n == some .cell) then (n, .cell) else (n, k)

structure XOk (X : Cx) (c : Sc) : Prop where
  N : X.N = c.N
  names : X.env.scope.names = c.names
  kind : X.env.scope.kind = .function
  all : c.all = true → ∀ x, X.fn x = true
/-- what the calls, the globals and the free names are -/
structure SemOk (X : Cx) (T : Tb) (C : Calls) (G : List D) (ca : Nat → Addr) (W : WX) : Prop where
  ck : Ck X 0
  glo : ∀ (g : Nat) x, T.glo[g]? = some x → ∃ d v u, G[g]? = some d ∧ X.mg x = some u ∧ RelV v u ∧ ∀ F, Rep X.K F d v
  fn : ∀ (f : Nat) x np, T.fns[f]? = some (x, np) → ∃ k fa fd ps, ps.length = np ∧ FnOk X.prog X.w X.K X.mg X.base (L2.CX X.prog X.w) k fa fd ps (SpOf X.K ca ps.length (C f)) ∧ Room k X.A ∧ X.mg x = some (.ref fa) ∧ PySem.W.keepIn X.K (.ref fa) = true ∧ Binds X.K fd ps [] ∧
    ∀ nms ks, (f, nms, ks) ∈ T.kb → ks.length = np ∧ KBinds X.K fd ps nms (gK nms.length ks .none) (gK nms.length ks .non)
  free : ∀ x ∈ T.free, X.mg x = none
  tk : Takes X W
section
variable {X : Cx} {c : Sc} {i : Nat} {x : Str}
theorem okN_iff (h : okN x = true) : (x == ("__debug__" : Str)) = false ∧ (x == ("__classdict__" : Str)) = false := by
  unfold okN at h
  simpa using h
theorem isVis_ok {sc : Scope} (h : isVis (sc.names.lookup x) = true) : Vis sc x := by
  unfold isVis at h
  split at h
  · exact .inl ‹_›
  · exact .inr (.inl ‹_›)
  · exact .inr (.inr ‹_›)
  · cases h
theorem XOk.vis (o : XOk X c) (h : c.vis i x = true) : X.N[i]? = some x ∧ Vis X.env.scope x ∧ (x == ("__debug__" : Str)) = false ∧ (x == ("__classdict__" : Str)) = false := by
  simp only [Sc.vis, Bool.and_eq_true, decide_eq_true_eq] at h
  exact ⟨by rw [o.N]; exact h.1.1, isVis_ok (by rw [o.names]; exact h.2), okN_iff h.1.2⟩
theorem XOk.loc (o : XOk X c) (h : c.loc i x = true) : X.N[i]? = some x ∧ Loc X.env.scope x ∧ (X.fn x = true ∨ X.env.scope.names.lookup x = some .local) := by
  simp only [Sc.loc, Bool.and_eq_true, decide_eq_true_eq] at h
  refine ⟨by rw [o.N]; exact h.1, ?_⟩
  have h2 := h.2
  rw [← o.names] at h2
  split at h2
  · exact ⟨.inl ‹_›, .inr ‹_›⟩
  · exact ⟨.inr ‹_›, .inl (o.all h2 x)⟩
  · cases h2
theorem XOk.gl (o : XOk X c) (h : c.gl x = true) : Gl X x ∧ (x == ("__debug__" : Str)) = false := by
  simp only [Sc.gl, Bool.and_eq_true, decide_eq_true_eq] at h
  exact ⟨by unfold Gl Env.kindOf; rw [o.names]; exact h.2, (okN_iff h.1).1⟩
end
/-! ### the checker -/
def tst : Expr → Bool
  | .IfExp _ _ _ _ => false
  | _ => true
def isB : Expr → Bool
  | .BoolOp _ _ _ => true
  | _ => false
def callee : Expr → Bool
  | .Call _ as _ _ => as.isEmpty
  | _ => false
def isNm : Expr → Bool
  | .Name _ _ => true
  | _ => false
def ownOk (N : List Str) (par names : List (Str × NameKind)) (own : List Nat) : Bool :=
  (names.all fun y => decide (names.lookup y.1 = some y.2)) && (own.all fun i => (N[i]?).isSome) &&
  (names.all fun y => if y.2 = .free then decide (par.lookup y.1 = some .cell) || decide (par.lookup y.1 = some .free) else true) &&
  (names.all fun y => if y.2 = .local ∨ y.2 = .cell then (own.any fun i => decide (N[i]? = some y.1)) || !(N.contains y.1) else true)
def notSet : Expr → Bool
  | .Set _ _ _ => false
  | _ => true
def locN (c : Sc) (i : Nat) : Expr → Bool
  | .Name x _ => c.loc i x
  | _ => false
def tgAll (c : Sc) : List Nat → List Expr → Bool
  | [], [] => true
  | i :: is, x :: xs => locN c i x && tgAll c is xs
  | _, _ => false
def chkTg (c : Sc) (t : Tg) (e : Expr) : Bool := match t with
  | .one i => locN c i e
  | .many is => (match e with
    | .Tuple es _ _ => tgAll c is es
    | _ => false)
section
variable (T : Tb)
mutual
def chkE : Sc → E → Expr → Bool
  | c, .var i, x => (match x with
    | .Name y _ => c.vis i y
    | _ => false)
  | c, .non, x => (match x with
    | .Constant .none _ _ => true
    | _ => false)
  | c, .bl b, x => (match x with
    | .Constant (.bool b') _ _ => b == b'
    | _ => false)
  | c, .int i, x => (match x with
    | .Constant (.int j) _ _ => i == j
    | _ => false)
  | c, .str s, x => (match x with
    | .Constant (.str y) _ _ => (y == ⟨s.toArray⟩) && s.all (· < 0x110000) && decide (s.length ≤ 10000)
    | _ => false)
  | c, .glo g, x => (match x with
    | .Name y _ => c.gl y && decide (T.glo[g]? = some y)
    | _ => false)
  | c, .lst es, x => (match x with
    | .List xs _ => chkEs c es xs
    | _ => false)
  | c, .tup es, x => (match x with
    | .Tuple xs _ _ => chkEs c es xs
    | _ => false)
  | c, .bin o a b, x => (match x with
    | .BinOp a' o' b' _ => chkE c a a' && chkE c b b' && decide (o' = o.op)
    | _ => false)
  | c, .neg a, x => (match x with
    | .UnaryOp .USub a' _ => chkE c a a'
    | _ => false)
  | c, .cmp k a b, x => (match x with
    | .Compare a' [k'] [b'] _ => chkE c a a' && chkE c b b' && decide (k' = k.op) && !(behindInMarks k.op b')
    | _ => false)
  | c, .cmp2 k l a b d, x => (match x with
    | .Compare a' [k', l'] [b', d'] _ => chkE c a a' && chkE c b b' && chkE c d d' && decide (k' = k.op) && decide (l' = l.op) && !(lastMarks [k.op, l.op] [b', d'])
    | _ => false)
  | c, .isN a, x => (match x with
    | .Compare a' [.Is] [.Constant .none _ _] _ => chkE c a a'
    | _ => false)
  | c, .notN a, x => (match x with
    | .Compare a' [.IsNot] [.Constant .none _ _] _ => chkE c a a'
    | _ => false)
  | c, .isT a, x => (match x with
    | .Compare a' [.Is] [.Constant (.bool true) _ _] _ => chkE c a a'
    | _ => false)
  | c, .inn a b, x => (match x with
    | .Compare a' [.In] [b'] _ => chkE c a a' && chkE c b b' && !(behindInMarks .In b')
    | _ => false)
  | c, .nin a b, x => (match x with
    | .Compare a' [.NotIn] [b'] _ => chkE c a a' && chkE c b b' && !(behindInMarks .NotIn b')
    | _ => false)
  | c, .and a b, x => (match x with
    | .BoolOp .And (a' :: b' :: xs) p => chkE c a a' && tst a' && (if xs.isEmpty then chkE c b b' && tst b' else chkE c b (.BoolOp .And (b' :: xs) p))
    | _ => false)
  | c, .or a b, x => (match x with
    | .BoolOp .Or (a' :: b' :: xs) p => chkE c a a' && tst a' && (if xs.isEmpty then chkE c b b' && tst b' else chkE c b (.BoolOp .Or (b' :: xs) p))
    | _ => false)
  | c, .not a, x => (match x with
    | .UnaryOp .Not a' _ => chkE c a a' && tst a'
    | _ => false)
  | c, .ite t a b, x => (match x with
    | .IfExp t' a' b' _ => chkE c t t' && tst t' && chkE c a a' && chkE c b b'
    | _ => false)
  | c, .idx a i, x => (match x with
    | .Subscript a' i' _ => chkE c a a' && chkE c i i' && noSlice i'
    | _ => false)
  | c, .idxv v i, x => (match x with
    | .Subscript (.Name y _) i' _ => c.vis v y && chkE c i i' && noSlice i'
    | _ => false)
  | c, .sli a lo hi, x => (match x with
    | .Subscript a' (.Slice lo' hi' none _) _ => chkE c a a' && chkO c lo lo' && chkO c hi hi'
    | _ => false)
  | c, .rev a, x => (match x with
    | .Subscript a' (.Slice none none (some (.UnaryOp .USub (.Constant (.int k) _ _) _)) _) _ => chkE c a a' && isNm a' && (k == 1)
    | _ => false)
  | c, .bi b es, x => (match x with
    | .Call (.Name y _) (e' :: es') [] _ => decide (y = (b.name : Str)) && c.gl y && T.free.contains y && chkEs c es (e' :: es')
    | _ => false)
  | c, .lenv v, x => (match x with
    | .Call (.Name y _) [.Name z _] [] _ => decide (y = ("len" : Str)) && c.gl y && T.free.contains y && c.vis v z
    | _ => false)
  | c, .isi a t, x => (match x with
    | .Call (.Name y _) [a', .Name z _] [] _ => decide (y = ("isinstance" : Str)) && c.gl y && T.free.contains y && decide (t < 5) && decide (z = (tyName t : Str)) && c.gl z && T.free.contains z && chkE c a a' && noStar a'
    | _ => false)
  | c, .mt m a b, x => (match x with
    | .Call (.Attribute a' y p) [b'] [] p2 => decide (y = (match m with | .index => ("index" : Str) | .join => ("join" : Str))) && !(callee a') && (p.endLine == p2.line) && chkE c a a' && chkE c b b' && noStar b'
    | _ => false)
  | c, .call f es, x => (match x with
    | .Call (.Name y _) (e' :: es') [] _ => c.gl y && decide (T.fns[f]? = some (y, es.length)) && chkEs c es (e' :: es')
    | _ => false)
  | c, .callio f v es, x => (match x with
    | .Call (.Name y _) (.Name z _ :: es') [] _ => c.gl y && decide (T.fns[f]? = some (y, es.length + 1)) && c.vis v z && chkEs c es es'
    | _ => false)
  | c, .callk f es ks, x => (match x with
    | .Call (.Name y _) [] kws _ => c.gl y && (match T.fns[f]? with | some q => decide (q.1 = y) | none => false) && kws.all (·.arg.isSome) && decide (es.length = (kws.filterMap (·.arg)).length) && decide ((f, kws.filterMap (·.arg), ks) ∈ T.kb) && chkK c es kws
    | _ => false)
  | c, .dsub ks vs i, x => (match x with
    | .Subscript (.Dict k' v' _) i' _ => chkE c i i' && noSlice i' && dictB k' v' ks vs && !k'.isEmpty && decide (ks.length ≤ 15) && decide ks.Nodup
    | _ => false)
  | c, .dget ks vs i d, x => (match x with
    | .Call (.Attribute (.Dict k' v' _) y p) [i', d'] [] p2 => decide (y = ("get" : Str)) && chkE c i i' && chkE c d d' && noStar i' && noStar d' && (p.endLine == p2.line) && dictB k' v' ks vs && !k'.isEmpty && decide (ks.length ≤ 15) && decide ks.Nodup
    | _ => false)
  | c, .comp elt tg it cond own, x => (match x with
    | .ListComp elt' [⟨tg', it', ifs', 0⟩] scope _ => chkI c it it' && decide (scope.kind = .function) && ownOk c.N c.names scope.names own && decide (∀ i ∈ tg.is, i ∈ own) &&
      chkTg ⟨c.N, relN scope.names c.names, false⟩ tg tg' && chkE ⟨c.N, relN scope.names c.names, false⟩ elt elt' && chkC ⟨c.N, relN scope.names c.names, false⟩ cond ifs' && notSet it'
    | _ => false)
def chkEs : Sc → List E → List Expr → Bool
  | c, [], [] => true
  | c, e :: es, x :: xs => chkE c e x && noStar x && chkEs c es xs
  | _, _, _ => false
def chkK : Sc → List E → List Keyword → Bool
  | c, [], [] => true
  | c, e :: es, x :: xs => chkE c e x.value && chkK c es xs
  | _, _, _ => false
def chkO : Sc → Option E → Option Expr → Bool
  | c, none, none => true
  | c, some e, some x => chkE c e x
  | _, _, _ => false
def chkC : Sc → Option E → List Expr → Bool
  | c, none, [] => true
  | c, some e, [x] => chkE c e x && tst x
  | _, _, _ => false
def chkI : Sc → I → Expr → Bool
  | c, .e e, x => chkE c e x
  | c, .rng1 a, x => (match x with
    | .Call (.Name y _) [a'] [] _ => decide (y = ("range" : Str)) && c.gl y && T.free.contains y && chkE c a a' && noStar a'
    | _ => false)
  | c, .rng2 a b, x => (match x with
    | .Call (.Name y _) [a', b'] [] _ => decide (y = ("range" : Str)) && c.gl y && T.free.contains y && chkE c a a' && noStar a' && chkE c b b' && noStar b'
    | _ => false)
  | c, .rng3 a b, x => (match x with
    | .Call (.Name y _) [a', b', .UnaryOp .USub (.Constant (.int k) _ _) _] [] _ => decide (y = ("range" : Str)) && c.gl y && T.free.contains y && chkE c a a' && noStar a' && chkE c b b' && noStar b' && (k == 1)
    | _ => false)
  | c, _, x => false
end
end
/-! ### soundness -/
def tv (f : St → R D) : St → R D := fun r => (f r).bind fun y r => .of ((tru y).map .bl) r
structure Snd (X : Cx) (ca : Nat → Addr) (W : WX) (e : Expr) (f : St → R D) : Prop where
  qe : QE X ca W e f
  qt : tst e = true → QT X ca W e (tv f)
  qw : isB e = true → QW X ca W e (tv f)
section
variable {X : Cx} {ca : Nat → Addr} {W : WX} {pos : Pos} {e : Expr} {f g : St → R D}
def plainT : Expr → Bool
  | .UnaryOp op _ _ => (match op with
    | .Not => false
    | _ => true)
  | .BoolOp _ _ _ => false
  | .IfExp _ _ _ _ => false
  | .Compare _ _ _ _ => false
  | _ => true
theorem Snd.plain (h : QE X ca W e f) (hp : plainT e = true) : Snd X ca W e f := by
  refine ⟨h, fun _ => qt_plain h ?_, fun z => ?_⟩
  · intro whole
    cases e with
    | UnaryOp op a p => cases op <;> first | rfl | (simp [plainT] at hp)
    | BoolOp => simp [plainT] at hp
    | IfExp => simp [plainT] at hp
    | Compare => simp [plainT] at hp
    | _ => rfl
  · cases e with
    | BoolOp => simp [plainT] at hp
    | _ => simp [isB] at z
/-- a function that is the other one, or bad -/
def Le {α : Type} (f g : St → R α) : Prop := ∀ r, f r = .bad ∨ f r = g r
theorem QE.le (h : QE X ca W e g) (l : Le f g) : QE X ca W e f := PE.weak h fun σ H Q ⟨r, F, p, h⟩ => ⟨r, F, p, by rcases l r with z | z <;> rw [z] at h; exact h.elim; exact h⟩
theorem QT.le (h : QT X ca W e g) (l : Le f g) : QT X ca W e f := PT.weak h fun σ H Q ⟨r, F, p, h⟩ => ⟨r, F, p, by rcases l r with z | z <;> rw [z] at h; exact h.elim; exact h⟩
theorem QW.le (h : QW X ca W e g) (l : Le f g) : QW X ca W e f := PW.weak h fun σ H Q ⟨r, F, p, h⟩ => ⟨r, F, p, by rcases l r with z | z <;> rw [z] at h; exact h.elim; exact h⟩
theorem Le.of {α : Type} {f g : St → R α} (h : f = g) : Le f g := fun r => .inr (by rw [h])
theorem Snd.cmp {a : Expr} {ops : List CmpOp} {bs : List Expr} (h : QE X ca W (.Compare a ops bs pos) f) (h2 : QT X ca W (.Compare a ops bs pos) f) : Snd X ca W (.Compare a ops bs pos) f := ⟨h, fun _ => bt_of h2, fun z => by cases z⟩
theorem le_not : Le (tv fun r => (f r).bind fun x r => match x with | .bl b => .ok (.bl !b) r | _ => .bad) (fun r => (tv f r).bind fun x r => match x with | .bl b => .ok (.bl !b) r | _ => .bad) := by
  intro r
  unfold tv
  dsimp only
  cases f r with
  | bad => exact .inl rfl
  | exc x r1 => exact .inr rfl
  | ok d r1 => cases d <;> first | exact .inl rfl | exact .inr rfl
theorem le_ite {fa fb : St → R D} : Le (fun r => (f r).bind fun x r => match x with | .bl true => fa r | .bl false => fb r | _ => .bad) (fun r => (tv f r).bind fun x r => match x with | .bl true => fa r | .bl false => fb r | _ => .bad) := by
  intro r
  unfold tv
  dsimp only
  cases f r with
  | bad => exact .inl rfl
  | exc x r1 => exact .inr rfl
  | ok d r1 => cases d <;> first | exact .inl rfl | exact .inr rfl
theorem le_and {fa fb : St → R D} : Le (tv (andF fa fb)) (andF (tv fa) (tv fb)) := by
  intro r
  unfold tv andF
  dsimp only
  cases fa r with
  | bad => exact .inl rfl
  | exc x r1 => exact .inr rfl
  | ok d r1 =>
    cases d with
    | bl b =>
      cases b with
      | false => exact .inr rfl
      | true =>
        cases e : fb r1 with
        | bad => left; simp [R.bind, tru, R.of, e]
        | exc x r2 => right; simp [R.bind, tru, R.of, e]
        | ok d r2 => cases d <;> first | (left; simp [R.bind, tru, R.of, e]; done) | (right; simp [R.bind, tru, R.of, e]; done)
    | _ => exact .inl rfl
theorem le_or {fa fb : St → R D} : Le (tv (orF fa fb)) (orF (tv fa) (tv fb)) := by
  intro r
  unfold tv orF
  dsimp only
  cases fa r with
  | bad => exact .inl rfl
  | exc x r1 => exact .inr rfl
  | ok d r1 =>
    cases d with
    | bl b =>
      cases b with
      | true => exact .inr rfl
      | false =>
        cases e : fb r1 with
        | bad => left; simp [R.bind, tru, R.of, e]
        | exc x r2 => right; simp [R.bind, tru, R.of, e]
        | ok d r2 => cases d <;> first | (left; simp [R.bind, tru, R.of, e]; done) | (right; simp [R.bind, tru, R.of, e]; done)
    | _ => exact .inl rfl
theorem compB_tv {t : Tg} {fc fe : St → R D} {ow : List Nat} : compB t (tv fc) fe ow = compB t fc fe ow := by
  funext x r
  unfold compB tv
  cases setTg t x r with
  | none => rfl
  | some r1 =>
    dsimp only
    cases fc r1 with
    | bad => rfl
    | exc y r2 => rfl
    | ok d r2 => cases d <;> rfl
end

section
variable {X : Cx} {T : Tb} {C : Calls} {G : List D} {ca : Nat → Addr} {W : WX} {c : Sc}
theorem SemOk.blk (m : SemOk X T C G ca W) {s : Shared} {H : Hp} {scope : Scope} {cenv : Env} {fp : List Addr} : SemOk (X.blk s H scope cenv fp) T C G ca WF :=
  ⟨⟨m.ck.calm, m.ck.nd, m.ck.room⟩, m.glo, m.fn, m.free, fun u s' ⟨_, _, _, _, _, _, _, _, _, _, _, _, _, _, _, _, w⟩ => w.elim⟩
theorem relN_eq {scope sc : Scope} (h : sc.kind = .function) : (relS scope sc).names = relN scope.names sc.names := by
  unfold relS relN
  have e : (ScopeKind.function == ScopeKind.function) = true := rfl
  simp only [h, e, Bool.and_true]
theorem XOk.blk (o : XOk X c) {s : Shared} {H : Hp} {scope : Scope} {cl : List (Str × Addr)} {Ca : Addr} {fp : List Addr} (hk : scope.kind = .function) :
    XOk (X.blk s H scope (compEnvC scope cl Ca X.env) fp) ⟨c.N, relN scope.names c.names, false⟩ :=
  ⟨o.N, by rw [← o.names]; exact relN_eq o.kind, hk, fun z => by cases z⟩
theorem SemOk.free' (m : SemOk X T C G ca W) {x : Str} (h : T.free.contains x = true) : X.mg x = none := m.free x (by simpa using h)
theorem evs_len {es : List E} : ∀ {r r' : St} {l : List D}, evs C G es r = .ok l r' → l.length = es.length := by
  induction es with
  | nil => intro r r' l h; simp only [evs] at h; cases h; rfl
  | cons e es ih =>
    intro r r' l h
    simp only [evs] at h
    cases e1 : ev C G e r with
    | bad => rw [e1] at h; cases h
    | exc x r1 => rw [e1] at h; cases h
    | ok d r1 =>
      rw [e1] at h
      dsimp only [R.bind] at h
      cases e2 : evs C G es r1 with
      | bad => rw [e2] at h; cases h
      | exc x r2 => rw [e2] at h; cases h
      | ok l2 r2 =>
        rw [e2] at h
        cases h
        simp [ih e2]
theorem chkEs_len : ∀ {es : List E} {xs : List Expr}, chkEs T c es xs = true → es.length = xs.length ∧ xs.all noStar = true
  | [], [], _ => ⟨rfl, rfl⟩
  | e :: es, x :: xs, h => by
    simp only [chkEs, Bool.and_eq_true] at h
    obtain ⟨a, b⟩ := chkEs_len h.2
    exact ⟨by simp [a], by simp only [List.all_cons, h.1.2, b]; rfl⟩
  | [], _ :: _, h | _ :: _, [], h => by simp [chkEs] at h
theorem chkK_len : ∀ {es : List E} {xs : List Keyword}, chkK T c es xs = true → es.length = xs.length
  | [], [], _ => rfl
  | e :: es, x :: xs, h => by
    simp only [chkK, Bool.and_eq_true] at h
    simp [chkK_len h.2]
  | [], _ :: _, h | _ :: _, [], h => by simp [chkK] at h
theorem blkOk_of {X : Cx} {scope : Scope} {own : List Nat} (o : XOk X c) (hk : scope.kind = .function) (h : ownOk c.N c.names scope.names own = true) : ∃ ow : List (Str × Nat), ow.map (·.2) = own ∧ BlkOk X.N X.env.scope scope ow := by
  simp only [ownOk, Bool.and_eq_true] at h
  obtain ⟨⟨⟨h1, h2⟩, h3⟩, h4⟩ := h
  refine ⟨own.map fun i => (c.N.getD i default, i), by rw [List.map_map]; exact List.map_id' own, ⟨hk, fun y hy => by simpa using (List.all_eq_true.mp h1) y hy, fun p hp => ?_, fun y hy e => ?_, fun y hy e => ?_⟩⟩
  · obtain ⟨i, hi, rfl⟩ := List.mem_map.mp hp
    obtain ⟨x, hx⟩ := Option.isSome_iff_exists.mp ((List.all_eq_true.mp h2) i hi)
    rw [o.N, hx, List.getD_eq_getElem?_getD, hx]
    rfl
  · have := (List.all_eq_true.mp h3) y hy
    rw [if_pos e] at this
    rw [o.names]
    simpa using this
  · have := (List.all_eq_true.mp h4) y hy
    rw [if_pos e] at this
    rw [o.N]
    rcases (Bool.or_eq_true _ _).mp this with z | z
    · obtain ⟨i, hi, e2⟩ := List.any_eq_true.mp z
      left
      rw [List.map_map]
      refine List.mem_map.mpr ⟨i, hi, ?_⟩
      have e2 : c.N[i]? = some y.1 := by simpa using e2
      show c.N.getD i default = y.1
      rw [List.getD_eq_getElem?_getD, e2]
      rfl
    · right
      simpa using z
theorem locN_ok {i : Nat} {e : Expr} (h : locN c i e = true) : ∃ x p, e = .Name x p ∧ c.loc i x = true := by
  cases e with
  | Name x p => exact ⟨x, p, rfl, h⟩
  | _ => cases h
theorem pgs_of {X : Cx} (o : XOk X c) (nd : X.N.Nodup) : ∀ {is : List Nat} {es : List Expr}, tgAll c is es = true → PGs X es (gAll is) ∧ (assignEach es X.env).length = is.length ∧ (assignEach es X.env).findIdx? (·.1) = none
  | [], [], _ => ⟨pgs_nil, rfl, rfl⟩
  | i :: is, e :: es, h => by
    simp only [tgAll, Bool.and_eq_true] at h
    obtain ⟨a, b, d⟩ := pgs_of o nd h.2
    obtain ⟨x, p, rfl, h1⟩ := locN_ok h.1
    obtain ⟨h2, h3, h4⟩ := o.loc h1
    refine ⟨pgs_cons (pg_name nd h2 h3 h4) a rfl, ?_, ?_⟩
    · show (assignEach es X.env).length + 1 = is.length + 1
      rw [b]
    · show List.findIdx? (·.1) ((false, assign (.Name x p) X.env) :: assignEach es X.env) = none
      rw [List.findIdx?_cons, d]
      rfl
  | [], _ :: _, h | _ :: _, [], h => by simp [tgAll] at h
theorem tg_of {X : Cx} (o : XOk X c) (m : Ck X 0) {t : Tg} {e : Expr} (h : chkTg c t e = true) : PG X e (gTg X.K t) := by
  cases t with
  | one i =>
    obtain ⟨x, p, rfl, h1⟩ := locN_ok h
    obtain ⟨h2, h3, h4⟩ := o.loc h1
    exact pg_one m.nd h2 h3 h4
  | many is =>
    cases e with
    | Tuple es k p =>
      obtain ⟨a, b, d⟩ := pgs_of o m.nd h
      exact pg_tup m.calm a b d
    | _ => cases h
theorem noBehind {b : Bool} (h : (!b) = true) : b = false := by simpa using h

theorem inn_eq {a b : E} : ev C G (.inn a b) = fun r => (ev C G a r).bind fun x r => (ev C G b r).bind fun y r => .of (((inD x y).map fun b => if false then !b else b).map .bl) r := by
  funext r
  simp only [ev]
  congr 1
  funext x r
  congr 1
  funext y r
  congr 1
  cases inD x y <;> rfl
theorem nin_eq {a b : E} : ev C G (.nin a b) = fun r => (ev C G a r).bind fun x r => (ev C G b r).bind fun y r => .of (((inD x y).map fun b => if true then !b else b).map .bl) r := by
  funext r
  simp only [ev]
  congr 1
  funext x r
  congr 1
  funext y r
  congr 1
  cases inD x y <;> rfl
theorem qt_isT {X : Cx} {pos : Pos} {a : Expr} {fa : St → R D} {j : Nat} {p2 : Pos} (ha : QE X ca W a fa) : QT X ca W (.Compare a [.Is] [.Constant (.bool true) j p2] pos) (fun r => (fa r).bind fun x r => match x with | .bl b => .ok (.bl b) r | _ => .bad) := by
  refine PT.weak (pt_cmpR op_isB ha pe_bl rfl) fun σ H Q ⟨r, F, p, h⟩ => ⟨r, F, p, h.step fun x r1 v H1 F1 p1 q1 h => ?_⟩
  cases x with
  | bl b =>
    refine ⟨b, true, Rep.bl_iff.mp q1, rfl, _, rfl, h _ _ _ (Ps.refl p1.rp) ?_⟩
    cases b <;> rfl
  | _ => exact h.elim
theorem room1 (k : Ck X 0) : X.A.units + 1 < cLine := by have := k.room.un; omega
theorem pe_neg1 {X : Cx} {k : Nat} {p1 p2 : Pos} : PE X (.UnaryOp .USub (.Constant (.int 1) k p1) p2) (fun _ H Q => Q (.int (-1)) H) := PE.weak (pe_un un_neg pe_int) fun σ H Q h => ⟨1, rfl, h⟩
theorem comp_eq {elt : E} {tg : Tg} {it : I} {cond : Option E} {own : List Nat} : ev C G (.comp elt tg it cond own) = fun r => (compR (evi C G it) tg (tv (evc C G cond)) (ev C G elt) own r).bind fun d r => match d with | .lst l => .ok (.lst l) r | _ => .bad := by
  funext r
  simp only [ev, compR, compB_tv]
  cases evi C G it r with
  | bad => rfl
  | exc x r1 => rfl
  | ok xs r1 =>
    simp only [R.bind_ok]
    cases compL (compB tg (evc C G cond) (ev C G elt) own) xs [] (wipeS own r1) <;> rfl
theorem comp_of {X : Cx} {W : WX} {pos : Pos} {scope : Scope} {ow : List (Str × Nat)} {tg : Tg} {tg' it' elt' : Expr} {ifs' : List Expr} {fi : St → R (List D)} {fe fc : St → R D} (o : XOk X c) (m : SemOk X T C G ca W) (ok : BlkOk X.N X.env.scope scope ow) (h2 : scope.kind = .function)
    (h4 : ∀ i ∈ tg.is, i ∈ ow.map (·.2)) (h5 : chkTg ⟨c.N, relN scope.names c.names, false⟩ tg tg' = true) (hi : QI X ca W tg' it' fi)
    (he : ∀ X', XOk X' ⟨c.N, relN scope.names c.names, false⟩ → SemOk X' T C G ca WF → Snd X' ca WF elt' fe)
    (hf : ∀ X', XOk X' ⟨c.N, relN scope.names c.names, false⟩ → SemOk X' T C G ca WF → PTs X' ifs' (tT X'.K ca WF fc))
    (h8 : notSet it' = true) : QO X ca W (.ListComp elt' [⟨tg', it', ifs', 0⟩] scope pos) (compR fi tg fc fe (ow.map (·.2))) :=
  o_comp m.ck.calm m.ck.nd hi ok (fun s H Ca cl fp => tg_of (o.blk h2) m.blk.ck h5) (fun s H Ca cl fp => hf _ (o.blk h2) m.blk) (fun s H Ca cl fp => (he _ (o.blk h2) m.blk).qe)
    (fun x => by cases it' <;> first | rfl | cases h8) h4
theorem beq_str {a b : Str} (h : (a == b) = true) : a = b := eq_of_beq h
theorem ns {b : Bool} (h : (!b) = true) : b = false := by simpa using h
mutual
theorem sndE : ∀ {e : E} {x : Expr} {X : Cx} {W : WX} {c : Sc}, XOk X c → SemOk X T C G ca W → chkE T c e x = true → Snd X ca W x (ev C G e)
  | .var i, x, X, W, c, o, m, h => by
    unfold chkE at h
    split at h <;> try contradiction
    obtain ⟨a, b, d, f⟩ := o.vis h
    exact .plain (q_var a b d f) rfl
  | .non, x, X, W, c, o, m, h => by
    unfold chkE at h
    split at h <;> try contradiction
    exact .plain q_none rfl
  | .bl b, x, X, W, c, o, m, h => by
    unfold chkE at h
    split at h <;> try contradiction
    rw [eq_of_beq h]
    exact .plain q_bool rfl
  | .int j, x, X, W, c, o, m, h => by
    unfold chkE at h
    split at h <;> try contradiction
    rw [eq_of_beq h]
    exact .plain q_int rfl
  | .str s, x, X, W, c, o, m, h => by
    unfold chkE at h
    split at h <;> try contradiction
    simp only [Bool.and_eq_true, decide_eq_true_eq] at h
    exact .plain (q_str (eq_of_beq h.1.1) ⟨h.1.2, by have := h.2; unfold LINE; omega⟩) rfl
  | .glo g, x, X, W, c, o, m, h => by
    unfold chkE at h
    split at h <;> try contradiction
    simp only [Bool.and_eq_true, decide_eq_true_eq] at h
    obtain ⟨d, v, u, e1, e2, e3, e4⟩ := m.glo _ _ h.2
    have e : ev C G (.glo g) = fun r => .ok d r := by
      funext r
      simp only [ev, e1, R.of_some]
    rw [e]
    exact .plain (q_glo (o.gl h.1).1 e2 e3 e4 (o.gl h.1).2) rfl
  | .lst es, x, X, W, c, o, m, h => by
    unfold chkE at h
    split at h <;> try contradiction
    exact .plain (q_lst (sndEs o m h)) rfl
  | .tup es, x, X, W, c, o, m, h => by
    unfold chkE at h
    split at h <;> try contradiction
    exact .plain (q_tup (sndEs o m h)) rfl
  | .bin k a b, x, X, W, c, o, m, h => by
    unfold chkE at h
    split at h <;> try contradiction
    simp only [Bool.and_eq_true, decide_eq_true_eq] at h
    obtain ⟨⟨h1, h2⟩, rfl⟩ := h
    obtain ⟨rd, z⟩ := opS_all (X := X) k
    exact .plain (q_bin z (sndE o m h1).qe (sndE o m h2).qe) rfl
  | .neg a, x, X, W, c, o, m, h => by
    unfold chkE at h
    split at h <;> try contradiction
    exact .plain (q_neg (sndE o m h).qe) rfl
  | .cmp k a b, x, X, W, c, o, m, h => by
    unfold chkE at h
    split at h <;> try contradiction
    simp only [Bool.and_eq_true, decide_eq_true_eq] at h
    obtain ⟨⟨⟨h1, h2⟩, rfl⟩, h3⟩ := h
    obtain ⟨rd, z⟩ := cpS_all m.ck k
    exact .cmp (q_cmp z (sndE o m h1).qe (sndE o m h2).qe (ns h3)) (qt_cmp z (sndE o m h1).qe (sndE o m h2).qe (ns h3))
  | .cmp2 k l a b d, x, X, W, c, o, m, h => by
    unfold chkE at h
    split at h <;> try contradiction
    simp only [Bool.and_eq_true, decide_eq_true_eq] at h
    obtain ⟨⟨⟨⟨⟨h1, h2⟩, h3⟩, rfl⟩, rfl⟩, h4⟩ := h
    obtain ⟨rd, z⟩ := cpS_all m.ck k
    obtain ⟨rd', z'⟩ := cpS_all m.ck l
    exact .cmp (q_cmp2 z z' (sndE o m h1).qe (sndE o m h2).qe (sndE o m h3).qe (ns h4)) (qt_cmp2 z z' (sndE o m h1).qe (sndE o m h2).qe (sndE o m h3).qe (ns h4))
  | .isN a, x, X, W, c, o, m, h => by
    unfold chkE at h
    split at h <;> try contradiction
    exact .cmp (q_isN (sndE o m h).qe) (qt_isN (sndE o m h).qe)
  | .notN a, x, X, W, c, o, m, h => by
    unfold chkE at h
    split at h <;> try contradiction
    exact .cmp (q_notN (sndE o m h).qe) (qt_notN (sndE o m h).qe)
  | .isT a, x, X, W, c, o, m, h => by
    unfold chkE at h
    split at h <;> try contradiction
    exact .cmp (q_isT (sndE o m h).qe) (qt_isT (sndE o m h).qe)
  | .inn a b, x, X, W, c, o, m, h => by
    unfold chkE at h
    split at h <;> try contradiction
    simp only [Bool.and_eq_true] at h
    obtain ⟨⟨h1, h2⟩, h3⟩ := h
    obtain ⟨rd, z⟩ := inS_all m.ck false
    exact .cmp ((q_cmp z (sndE o m h1).qe (sndE o m h2).qe (ns h3)).le (.of (inn_eq))) ((qt_cmp z (sndE o m h1).qe (sndE o m h2).qe (ns h3)).le (.of inn_eq))
  | .nin a b, x, X, W, c, o, m, h => by
    unfold chkE at h
    split at h <;> try contradiction
    simp only [Bool.and_eq_true] at h
    obtain ⟨⟨h1, h2⟩, h3⟩ := h
    obtain ⟨rd, z⟩ := inS_all m.ck true
    exact .cmp ((q_cmp z (sndE o m h1).qe (sndE o m h2).qe (ns h3)).le (.of (nin_eq))) ((qt_cmp z (sndE o m h1).qe (sndE o m h2).qe (ns h3)).le (.of nin_eq))
  | .and a b, x, X, W, c, o, m, h => by
    unfold chkE at h
    split at h <;> try contradiction
    simp only [Bool.and_eq_true] at h
    obtain ⟨⟨h1, h2⟩, h3⟩ := h
    have sa := sndE o m h1
    rename_i a' b' xs p
    have sb : QE X ca W (.BoolOp .And (b' :: xs) p) (ev C G b) ∧ QW X ca W (.BoolOp .And (b' :: xs) p) (tv (ev C G b)) := by
      cases xs with
      | nil =>
        simp only [List.isEmpty_nil, if_true, Bool.and_eq_true] at h3
        have s := sndE o m h3.1
        exact ⟨q_one s.qe, qw_and1 (s.qt h3.2)⟩
      | cons y ys =>
        simp only [List.isEmpty_cons, Bool.false_eq_true, if_false] at h3
        have s := sndE o m h3
        exact ⟨s.qe, s.qw rfl⟩
    have w := (qw_and (sa.qt h2) sb.2).le le_and
    exact ⟨q_and1 sa.qe sb.1, fun _ => w.pt, fun _ => w⟩
  | .or a b, x, X, W, c, o, m, h => by
    unfold chkE at h
    split at h <;> try contradiction
    simp only [Bool.and_eq_true] at h
    obtain ⟨⟨h1, h2⟩, h3⟩ := h
    have sa := sndE o m h1
    rename_i a' b' xs p
    have sb : QE X ca W (.BoolOp .Or (b' :: xs) p) (ev C G b) ∧ QW X ca W (.BoolOp .Or (b' :: xs) p) (tv (ev C G b)) := by
      cases xs with
      | nil =>
        simp only [List.isEmpty_nil, if_true, Bool.and_eq_true] at h3
        have s := sndE o m h3.1
        exact ⟨q_one s.qe, qw_or1 (s.qt h3.2)⟩
      | cons y ys =>
        simp only [List.isEmpty_cons, Bool.false_eq_true, if_false] at h3
        have s := sndE o m h3
        exact ⟨s.qe, s.qw rfl⟩
    have w := (qw_or (sa.qt h2) sb.2).le le_or
    exact ⟨q_or1 sa.qe sb.1, fun _ => w.pt, fun _ => w⟩
  | .not a, x, X, W, c, o, m, h => by
    unfold chkE at h
    split at h <;> try contradiction
    simp only [Bool.and_eq_true] at h
    have sa := sndE o m h.1
    exact ⟨q_not sa.qe, fun _ => (qt_not (sa.qt h.2)).le le_not, fun z => by cases z⟩
  | .ite t a b, x, X, W, c, o, m, h => by
    unfold chkE at h
    split at h <;> try contradiction
    simp only [Bool.and_eq_true] at h
    obtain ⟨⟨⟨h1, h2⟩, h3⟩, h4⟩ := h
    exact ⟨(q_ite ((sndE o m h1).qt h2) (sndE o m h3).qe (sndE o m h4).qe).le le_ite, fun z => (by cases z), fun z => (by cases z)⟩
  | .idx a i, x, X, W, c, o, m, h => by
    unfold chkE at h
    split at h <;> try contradiction
    simp only [Bool.and_eq_true] at h
    exact .plain (q_idx (sndE o m h.1.1).qe (sndE o m h.1.2).qe h.2) rfl
  | .idxv v i, x, X, W, c, o, m, h => by
    unfold chkE at h
    split at h <;> try contradiction
    simp only [Bool.and_eq_true] at h
    obtain ⟨a, b, d, f⟩ := o.vis h.1.1
    exact .plain (q_idxv a b d f (sndE o m h.1.2).qe h.2) rfl
  | .sli a lo hi, x, X, W, c, o, m, h => by
    unfold chkE at h
    split at h <;> try contradiction
    simp only [Bool.and_eq_true] at h
    exact .plain (q_sli (sndE o m h.1.1).qe (sndO o m h.1.2) (sndO o m h.2)) rfl
  | .rev a, x, X, W, c, o, m, h => by
    unfold chkE at h
    split at h <;> try contradiction
    simp only [Bool.and_eq_true] at h
    obtain ⟨⟨h1, h2⟩, h3⟩ := h
    have e := eq_of_beq h3
    subst e
    refine .plain (q_rev (sndE o m h1).qe ?_) rfl
    intro u v
    rename_i a' _ _ _ _ _
    cases a' with
    | Name => rfl
    | _ => cases h2
  | .bi b es, x, X, W, c, o, m, h => by
    unfold chkE at h
    split at h <;> try contradiction
    simp only [Bool.and_eq_true, decide_eq_true_eq] at h
    obtain ⟨⟨⟨rfl, h1⟩, h2⟩, h3⟩ := h
    exact .plain (q_bi m.ck.calm (o.gl h1).1 (m.free' h2) (sndEs o m h3) (chkEs_len h3).2) rfl
  | .lenv v, x, X, W, c, o, m, h => by
    unfold chkE at h
    split at h <;> try contradiction
    simp only [Bool.and_eq_true, decide_eq_true_eq] at h
    obtain ⟨⟨⟨rfl, h1⟩, h2⟩, h3⟩ := h
    obtain ⟨a, b, d, f⟩ := o.vis h3
    exact .plain (q_lenv a b d f (o.gl h1).1 (m.free' h2)) rfl
  | .isi a t, x, X, W, c, o, m, h => by
    unfold chkE at h
    split at h <;> try contradiction
    simp only [Bool.and_eq_true, decide_eq_true_eq] at h
    obtain ⟨⟨⟨⟨⟨⟨⟨⟨rfl, h1⟩, h2⟩, h3⟩, rfl⟩, h4⟩, h5⟩, h6⟩, h7⟩ := h
    exact .plain (q_isi h3 (o.gl h1).1 (m.free' h2) (o.gl h4).1 (m.free' h5) (sndE o m h6).qe h7) rfl
  | .mt k a b, x, X, W, c, o, m, h => by
    unfold chkE at h
    split at h <;> try contradiction
    simp only [Bool.and_eq_true, decide_eq_true_eq] at h
    obtain ⟨⟨⟨⟨⟨h0, h1⟩, h2⟩, h3⟩, h4⟩, h5⟩ := h
    subst h0
    rename_i a' _ b' _
    have hb : ∀ nm : Str, attributeBase a' nm X.env (eval a' X.env) = eval a' X.env := fun nm => by
      cases a' with
      | Call g as ks p =>
        cases as with
        | nil => simp [callee] at h1
        | cons a as => cases g <;> rfl
      | _ => rfl
    cases k with
    | index => exact .plain (q_sindex (sndE o m h3).qe (sndE o m h4).qe h5 (hb _) h2) rfl
    | join => exact .plain (q_join (sndE o m h3).qe (sndE o m h4).qe h5 (hb _) h2) rfl
  | .call f es, x, X, W, c, o, m, h => by
    unfold chkE at h
    split at h <;> try contradiction
    simp only [Bool.and_eq_true, decide_eq_true_eq] at h
    obtain ⟨⟨h1, h2⟩, h3⟩ := h
    obtain ⟨k, fa, fd, ps, e1, FO, hr, hm, hk, hb, _⟩ := m.fn _ _ _ h2
    exact .plain (q_call m.tk FO hr (o.gl h1).1 hm hk hb (o.gl h1).2 (sndEs o m h3) (chkEs_len h3).2 fun r l r' z => by rw [evs_len z, e1]) rfl
  | .callio f v es, x, X, W, c, o, m, h => by
    unfold chkE at h
    split at h <;> try contradiction
    simp only [Bool.and_eq_true, decide_eq_true_eq] at h
    obtain ⟨⟨⟨h1, h2⟩, h3⟩, h4⟩ := h
    obtain ⟨k, fa, fd, ps, e1, FO, hr, hm, hk, hb, _⟩ := m.fn _ _ _ h2
    obtain ⟨a, b, d, g⟩ := o.vis h3
    exact .plain (q_callio m.tk FO hr (o.gl h1).1 hm hk hb (o.gl h1).2 a b d g (sndEs o m h4) (chkEs_len h4).2 fun r l r' z => by rw [evs_len z, e1]) rfl
  | .callk f es ks, x, X, W, c, o, m, h => by
    unfold chkE at h
    split at h <;> try contradiction
    simp only [Bool.and_eq_true, decide_eq_true_eq] at h
    obtain ⟨⟨⟨⟨⟨h1, h2⟩, h3⟩, h4⟩, h5⟩, h6⟩ := h
    split at h2 <;> try contradiction
    rename_i q hq
    obtain ⟨y, np⟩ := q
    have h2 := of_decide_eq_true h2
    dsimp only at h2
    subst h2
    obtain ⟨k, fa, fd, ps, e1, FO, hr, hm, hk, hb, hkb⟩ := m.fn _ _ _ hq
    obtain ⟨e2, e3⟩ := hkb _ _ h5
    exact .plain (q_callk FO hr (o.gl h1).1 hm hk e3 (o.gl h1).2 (sndK o m h6) h3 rfl (fun r l r' z => by rw [evs_len z, h4]) (by rw [e2, e1])) rfl
  | .dsub ks vs i, x, X, W, c, o, m, h => by
    unfold chkE at h
    split at h <;> try contradiction
    simp only [Bool.and_eq_true, decide_eq_true_eq] at h
    obtain ⟨⟨⟨⟨⟨h1, h2⟩, h3⟩, h4⟩, h5⟩, h6⟩ := h
    exact .plain (q_dsub (room1 m.ck) h3 (fun z => by rw [z] at h4; cases h4) h5 h6 (sndE o m h1).qe h2) rfl
  | .dget ks vs i d, x, X, W, c, o, m, h => by
    unfold chkE at h
    split at h <;> try contradiction
    simp only [Bool.and_eq_true, decide_eq_true_eq] at h
    obtain ⟨⟨⟨⟨⟨⟨⟨⟨⟨rfl, h1⟩, h2⟩, h3⟩, h4⟩, h5⟩, h6⟩, h7⟩, h8⟩, h9⟩ := h
    exact .plain (q_dget (room1 m.ck) h6 (fun z => by rw [z] at h7; cases h7) h8 h9 (sndE o m h1).qe (sndE o m h2).qe h3 h4 h5) rfl
  | .comp elt tg it cond own, x, X, W, c, o, m, h => by
    unfold chkE at h
    split at h <;> try contradiction
    simp only [Bool.and_eq_true, decide_eq_true_eq] at h
    obtain ⟨⟨⟨⟨⟨⟨⟨h1, h2⟩, h3⟩, h4⟩, h5⟩, h6⟩, h7⟩, h8⟩ := h
    obtain ⟨ow, e1, ok⟩ := blkOk_of o h2 h3
    subst e1
    exact .plain ((o_share (comp_of o m ok h2 h4 h5 (sndI o m h1) (fun X' o' m' => sndE o' m' h6) (fun X' o' m' => sndC o' m' h7) h8)).le (.of comp_eq)) rfl
theorem sndEs : ∀ {es : List E} {xs : List Expr} {X : Cx} {W : WX} {c : Sc}, XOk X c → SemOk X T C G ca W → chkEs T c es xs = true → QA X ca W xs (evs C G es)
  | [], [], X, W, c, o, m, h => qa_nil
  | e :: es, x :: xs, X, W, c, o, m, h => by
    simp only [chkEs, Bool.and_eq_true] at h
    exact qa_cons (sndE o m h.1.1).qe (sndEs o m h.2) h.1.2
  | [], _ :: _, X, W, c, o, m, h | _ :: _, [], X, W, c, o, m, h => by simp [chkEs] at h
theorem sndK : ∀ {es : List E} {xs : List Keyword} {X : Cx} {W : WX} {c : Sc}, XOk X c → SemOk X T C G ca W → chkK T c es xs = true → QK X ca W xs (evs C G es)
  | [], [], X, W, c, o, m, h => qk_nil
  | e :: es, ⟨nm, x, p⟩ :: xs, X, W, c, o, m, h => by
    simp only [chkK, Bool.and_eq_true] at h
    exact qk_cons (sndE o m h.1).qe (sndK o m h.2)
  | [], _ :: _, X, W, c, o, m, h | _ :: _, [], X, W, c, o, m, h => by simp [chkK] at h
theorem sndO : ∀ {es : Option E} {xs : Option Expr} {X : Cx} {W : WX} {c : Sc}, XOk X c → SemOk X T C G ca W → chkO T c es xs = true → PO X xs (tO X.K ca W (evo C G es))
  | none, none, X, W, c, o, m, h => qo_none
  | some e, some x, X, W, c, o, m, h => by
    simp only [chkO] at h
    exact qo_some (sndE o m h).qe
  | none, some _, X, W, c, o, m, h | some _, none, X, W, c, o, m, h => by simp [chkO] at h
theorem sndC : ∀ {es : Option E} {xs : List Expr} {X : Cx} {W : WX} {c : Sc}, XOk X c → SemOk X T C G ca W → chkC T c es xs = true → PTs X xs (tT X.K ca W (tv (evc C G es)))
  | none, [], X, W, c, o, m, h => pts_no
  | some e, [x], X, W, c, o, m, h => by
    simp only [chkC, Bool.and_eq_true] at h
    exact pts_one ((sndE o m h.1).qt h.2)
  | none, _ :: _, X, W, c, o, m, h | some _, [], X, W, c, o, m, h | some _, _ :: _ :: _, X, W, c, o, m, h => by simp [chkC] at h
theorem sndI : ∀ {i : I} {x : Expr} {X : Cx} {W : WX} {c : Sc} {tg : Expr}, XOk X c → SemOk X T C G ca W → chkI T c i x = true → QI X ca W tg x (evi C G i)
  | .e e, x, X, W, c, tg, o, m, h => by
    simp only [chkI] at h
    exact qi_e (sndE o m h).qe
  | .rng1 a, x, X, W, c, tg, o, m, h => by
    simp only [chkI] at h
    split at h <;> try contradiction
    simp only [Bool.and_eq_true, decide_eq_true_eq] at h
    obtain ⟨⟨⟨⟨rfl, h1⟩, h2⟩, h3⟩, h4⟩ := h
    exact qi_rng1 (o.gl h1).1 (m.free' h2) (sndE o m h3).qe h4
  | .rng2 a b, x, X, W, c, tg, o, m, h => by
    simp only [chkI] at h
    split at h <;> try contradiction
    simp only [Bool.and_eq_true, decide_eq_true_eq] at h
    obtain ⟨⟨⟨⟨⟨⟨rfl, h1⟩, h2⟩, h3⟩, h4⟩, h5⟩, h6⟩ := h
    exact qi_rng2 (o.gl h1).1 (m.free' h2) (sndE o m h3).qe (sndE o m h5).qe h4 h6
  | .rng3 a b, x, X, W, c, tg, o, m, h => by
    simp only [chkI] at h
    split at h <;> try contradiction
    simp only [Bool.and_eq_true, decide_eq_true_eq] at h
    obtain ⟨⟨⟨⟨⟨⟨⟨rfl, h1⟩, h2⟩, h3⟩, h4⟩, h5⟩, h6⟩, h7⟩ := h
    have e := eq_of_beq h7
    subst e
    exact qi_rng3 (o.gl h1).1 (m.free' h2) (sndE o m h3).qe (sndE o m h5).qe (pe_neg1) h4 h6 rfl
  | .enum _, x, X, W, c, tg, o, m, h => by simp [chkI] at h
  | .zip _ _, x, X, W, c, tg, o, m, h => by simp [chkI] at h
end
end
end Z

/-! Z14: the checker of statements and defs; soundness -/
namespace Z
open PySem PySem.Spec PyProof.Rows L2 TL

def swB (names : List (Str × NameKind)) (x : Str) (px vp : Pos) (sn : List (Str × NameKind)) : Bool :=
  (names.lookup x == some .local) && px.line == vp.line && !(sn.any fun (n, k) => n == x && (k == .local || k == .cell))
def isComp : E → Bool
  | .comp _ _ _ _ _ => true
  | _ => false
def noSeq : Expr → Bool
  | .Tuple _ _ _ => false
  | .List _ _ => false
  | _ => true
section
variable (T : Tb)
mutual
def chkS : Sc → S → Stmt → Bool
  | c, .bad, _ => true
  | c, .set i e, s => (match s with
    | .Assign [.Name x px] v ps => locN c i (.Name x px) && chkE T c e v && (match v with
      | .ListComp _ _ sc vp => isComp e
      | v => noComp v)
    | _ => false)
  | c, .own i e, s => (match s with
    | .Assign [.Name x px] v ps => locN c i (.Name x px) && chkE T c e v && (match e with
      | .lst _ => true
      | .comp _ _ _ _ _ => true
      | _ => false)
    | _ => false)
  | c, .setT is e, s => (match s with
    | .Assign [tg] v _ => chkTg c (.many is) tg && chkE T c e v && noComp v && noSeq v
    | _ => false)
  | c, .par i j a b, s => false
  | c, .aug i k e, s => (match s with
    | .AugAssign t k' v _ => locN c i t && chkE T c e v && (match k with | .add => decide (k' = .Add) | .sub => decide (k' = .Sub) | _ => false)
    | _ => false)
  | c, .exp e, s => (match s with
    | .Expr v _ => chkE T c e v && noComp v
    | _ => false)
  | c, .ret e, s => (match s with
    | .Return (some v) _ => chkE T c e v
    | _ => false)
  | c, .retN, s => (match s with
    | .Return none _ => true
    | _ => false)
  | c, .pass, s => (match s with
    | .Pass _ => true
    | _ => false)
  | c, .brk, s => (match s with
    | .Break _ => true
    | _ => false)
  | c, .cont, s => (match s with
    | .Continue _ => true
    | _ => false)
  | c, .cond t a b, s => (match s with
    | .If t' a' b' _ => chkE T c t t' && tst t' && chkSs c a a' && chkSs c b b'
    | _ => false)
  | c, .loop tg it b, s => (match s with
    | .For tg' it' b' [] _ => chkTg c tg tg' && chkI T c it it' && chkSs c b b' && notSet it'
    | _ => false)
  | c, .whil t b, s => (match s with
    | .While t' b' [] _ => chkE T c t t' && tst t' && chkSs c b b'
    | _ => false)
  | c, .app v e, s => (match s with
    | .Expr (.Call (.Attribute (.Name x _) y p) [e'] [] p2) _ => decide (y = ("append" : Str)) && c.vis v x && chkE T c e e' && noStar e' && (p.endLine == p2.line)
    | _ => false)
  | c, .put v i e, s => (match s with
    | .Assign [.Subscript (.Name x _) i' _] e' _ => c.vis v x && chkE T c i i' && chkE T c e e' && noComp e' && noSlice i' && noSeq e'
    | _ => false)
  | c, .rais _ _, s => false
def chkSs : Sc → List S → List Stmt → Bool
  | c, [], [] => true
  | c, s :: ss, x :: xs => chkS c s x && chkSs c ss xs
  | _, _, _ => false
end
end
section
variable {X : Cx} {T : Tb} {C : Calls} {G : List D} {ca : Nat → Addr} {W : WX} {c : Sc} {st : Stmt}
def LeS (f g : St → F) : Prop := ∀ r, f r = .bad ∨ f r = g r
theorem QS.le {f g : St → F} (h : QS X ca W st g) (l : LeS f g) : QS X ca W st f := PS.weak h fun D σ H ⟨r, F, p, h⟩ => ⟨r, F, p, by rcases l r with z | z <;> rw [z] at h; exact h.elim; exact h⟩
theorem foldSet {it : Expr} {env : Env} (h : notSet it = true) (x : Value) : foldedSetIterable it env x = pure x := by
  cases it with
  | Set => simp [notSet] at h
  | _ => rfl
theorem s_bad : QS X ca W st (fun _ => .bad) := ⟨fun pins s σ H D I ⟨r, F, p, h⟩ => h.elim⟩
theorem le_cond {f : St → R D} {a b : St → F} : LeS (fun r => (f r).fl fun d r => match d with | .bl true => a r | .bl false => b r | _ => .bad) (fun r => (tv f r).fl fun d r => match d with | .bl true => a r | .bl false => b r | _ => .bad) := by
  intro r
  unfold tv
  dsimp only
  cases f r with
  | bad => exact .inl rfl
  | exc x r1 => exact .inr rfl
  | ok d r1 => cases d <;> first | exact .inl rfl | exact .inr rfl
theorem whileL_tv {f : St → R D} {b : St → F} : ∀ (n : Nat) (r : St), whileL f b n r = whileL (tv f) b n r
  | 0, r => rfl
  | n + 1, r => by
    simp only [whileL, tv]
    cases f r with
    | bad => rfl
    | exc x r1 => rfl
    | ok d r1 =>
      cases d with
      | bl k =>
        cases k with
        | false => rfl
        | true =>
          show (match b r1 with | .nx r => whileL f b n r | .ct r => whileL f b n r | .bk r => .nx r | x => x) = (match b r1 with | .nx r => whileL (tv f) b n r | .ct r => whileL (tv f) b n r | .bk r => .nx r | x => x)
          cases b r1 <;> first | rfl | exact whileL_tv n _
      | _ => rfl
theorem sw_eq (o : XOk X c) {elt : Expr} {gens : List Comprehension} {scope : Scope} {vp px : Pos} {x : Str} {l : Nat} : swapsWith (.ListComp elt gens scope vp) (some (.Name x px)) l X.env = pure (swB c.names x px vp scope.names) := by
  have hk : X.env.blockKind = .function := by
    unfold Env.blockKind
    rw [o.kind]
    rfl
  show (pure (X.env.blockKind == .function && X.env.kindOf x == some .local && px.line == vp.line && !(scope.names.any fun (n, k) => n == x && (k == .local || k == .cell))) : Sem Bool) = _
  rw [hk]
  unfold swB Env.kindOf
  rw [o.names]
  congr 1
theorem setc {i : Nat} {x : Str} {px spos : Pos} {elt : Expr} {gens : List Comprehension} {scope : Scope} {vp : Pos} {cE : E} (o : XOk X c) (m : SemOk X T C G ca W) (hl : c.loc i x = true) (hc : chkE T c cE (.ListComp elt gens scope vp) = true) (hcomp : isComp cE = true) :
    ∃ f : St → R D, PS X (.Assign [.Name x px] (.ListComp elt gens scope vp) spos) (tAsg (tO' X.K ca W f) (gName i)) ∧ (∀ r d r', f r = .ok d r' → ∃ l, d = .lst l) ∧ ev C G cE = fun r => (f r).bind fun d r => match d with | .lst l => .ok (.lst l) r | _ => .bad := by
  cases cE <;> first | (simp [isComp] at hcomp; done) | skip
  rename_i elt' tg it cond own
  unfold chkE at hc
  split at hc <;> try contradiction
  rename_i e1
  simp only [Expr.ListComp.injEq] at e1
  obtain ⟨rfl, rfl, rfl, rfl⟩ := e1
  simp only [Bool.and_eq_true, decide_eq_true_eq] at hc
  obtain ⟨⟨⟨⟨⟨⟨⟨h1, h2⟩, h3⟩, h4⟩, h5⟩, h6⟩, h7⟩, h8⟩ := hc
  obtain ⟨ow, e1, ok⟩ := blkOk_of o h2 h3
  subst e1
  refine ⟨compR (evi C G it) tg (tv (evc C G cond)) (ev C G elt') (ow.map (·.2)), ?_, fun r d r' z => compR_lst z, comp_eq⟩
  obtain ⟨a1, a2, a3⟩ := o.loc hl
  cases hb : swB c.names x px vp scope.names with
  | true =>
    have hlo : X.env.scope.names.lookup x = some .local := by
      have hb2 := hb
      simp only [swB, Bool.and_eq_true] at hb2
      rw [o.names]
      exact eq_of_beq hb2.1.1
    exact s_comp m.ck.calm m.ck.nd a1 hlo ((sw_eq o).trans (by rw [hb])) (sndI o m h1) ok (fun s H Ca cl fp => tg_of (o.blk h2) m.blk.ck h5) (fun s H Ca cl fp => sndC (o.blk h2) m.blk h7) (fun s H Ca cl fp => (sndE (o.blk h2) m.blk h6).qe)
      (foldSet h8) h4
  | false =>
    exact ps_set m.ck.nd a1 a2 (comp_of o m ok h2 h4 h5 (sndI o m h1) (fun X' o' m' => sndE o' m' h6) (fun X' o' m' => sndC o' m' h7) h8) ((sw_eq o).trans (by rw [hb])) a3
theorem le_set {f g : St → R D} {i : Nat} (hg : g = fun r => (f r).bind fun d r => match d with | D.lst l => .ok (D.lst l) r | _ => .bad) : LeS (fun r => (g r).fl fun d r => match setv i (.val d) r with | some r => .nx r | none => .bad) (fun r => (f r).fl fun d r => match setv i (.val d) r with | some r => .nx r | none => .bad) := by
  subst hg
  intro r
  dsimp only
  cases f r with
  | bad => exact .inl rfl
  | exc x r1 => exact .inr rfl
  | ok d r1 => cases d <;> first | exact .inl rfl | exact .inr rfl
theorem le_own {f g : St → R D} {i : Nat} (hg : g = fun r => (f r).bind fun d r => match d with | D.lst l => .ok (D.lst l) r | _ => .bad) : LeS (fun r => (g r).fl fun (d : D) r => match d with | D.lst l => (match setv i (.own l) r with | some r => .nx r | none => .bad) | _ => .bad) (fun r => (f r).fl fun (d : D) r => match d with | D.lst l => (match setv i (.own l) r with | some r => .nx r | none => .bad) | _ => .bad) := by
  subst hg
  intro r
  dsimp only
  cases f r with
  | bad => exact .inl rfl
  | exc x r1 => exact .inr rfl
  | ok d r1 => cases d <;> first | exact .inl rfl | exact .inr rfl
theorem setT_ok {is : List Nat} {tg v : Expr} {f : St → R D} {pos : Pos} (hg : PG X tg (gTg X.K (.many is))) (hv : QE X ca W v f) (hn : noComp v = true) (hs : noSeq v = true) (htg : ∃ es k p, tg = .Tuple es k p) :
    QS X ca W (.Assign [tg] v pos) (fun r => (f r).fl fun d r => match setTg (.many is) d r with | some r => .nx r | none => .bad) := by
  obtain ⟨es, k, p, rfl⟩ := htg
  have hw : swapsWithSole [.Tuple es k p] v pos.line X.env = pure false := by
    show swapsWith v (some (.Tuple es k p)) pos.line X.env = pure false
    exact no_swap hn
  refine PS.weak (ps_asg hv hg hw (by cases v <;> first | rfl | cases hs) rfl) fun D σ H ⟨r, F, p, h⟩ => ⟨r, F, p, FiS.step h fun d r1 v H1 F1 p1 q1 h => ?_⟩
  try dsimp only at h
  cases z : setTg (.many is) d r1 with
  | none => simp only [z] at h; exact h.elim
  | some r2 =>
    simp only [z] at h
    exact gTg_ok z p1.rp q1 fun σ' p2 => h _ _ _ p2
mutual
theorem sndS : ∀ {s : S} {x : Stmt} {X : Cx} {W : WX} {c : Sc}, XOk X c → SemOk X T C G ca W → PassesOwn (model X.prog X.w) X.A X.env X.xe → chkS T c s x = true → QS X ca W x (ex C G s)
  | .bad, x, X, W, c, o, m, hp, h => s_bad
  | .set i e, x, X, W, c, o, m, hp, h => by
    unfold chkS at h
    split at h <;> try contradiction
    simp only [Bool.and_eq_true] at h
    obtain ⟨⟨h1, h2⟩, h3⟩ := h
    split at h3
    · obtain ⟨f, a, b, d⟩ := setc o m h1 h2 h3
      exact (s_setT a b).le (le_set d)
    · obtain ⟨a1, a2, a3⟩ := o.loc h1
      exact s_set m.ck.nd a1 a2 a3 (sndE o m h2).qe h3
  | .own i e, x, X, W, c, o, m, hp, h => by
    unfold chkS at h
    split at h <;> try contradiction
    simp only [Bool.and_eq_true] at h
    obtain ⟨⟨h1, h2⟩, h3⟩ := h
    obtain ⟨a1, a2, a3⟩ := o.loc h1
    cases e <;> first | (simp at h3; done) | skip
    · rename_i es
      unfold chkE at h2
      split at h2 <;> try contradiction
      exact s_own m.ck.nd a1 a2 a3 (o_lst (sndEs o m h2)) rfl
    · rename_i elt tg it cond own
      have h4 := h2
      unfold chkE at h4
      split at h4 <;> try contradiction
      obtain ⟨f, a, b, d⟩ := setc o m h1 h2 rfl
      exact (s_ownT a).le (le_own d)
  | .setT is e, x, X, W, c, o, m, hp, h => by
    unfold chkS at h
    split at h <;> try contradiction
    simp only [Bool.and_eq_true] at h
    obtain ⟨⟨⟨h1, h2⟩, h3⟩, h4⟩ := h
    refine setT_ok (tg_of o m.ck h1) (sndE o m h2).qe h3 h4 ?_
    rename_i tg v _
    cases tg with
    | Tuple es k p => exact ⟨_, _, _, rfl⟩
    | _ => simp [chkTg] at h1
  | .par i j a b, x, X, W, c, o, m, hp, h => by (unfold chkS at h; simp at h)
  | .aug i k e, x, X, W, c, o, m, hp, h => by
    unfold chkS at h
    split at h <;> try contradiction
    simp only [Bool.and_eq_true] at h
    obtain ⟨⟨h1, h2⟩, h3⟩ := h
    obtain ⟨y, p, rfl, h4⟩ := locN_ok h1
    obtain ⟨a1, a2, a3⟩ := o.loc h4
    cases k <;> first | (simp at h3; done) | skip
    · rw [of_decide_eq_true h3]
      exact s_aug auS_add m.ck.nd a1 a2 a3 (sndE o m h2).qe
    · rw [of_decide_eq_true h3]
      exact s_aug auS_sub m.ck.nd a1 a2 a3 (sndE o m h2).qe
  | .exp e, x, X, W, c, o, m, hp, h => by
    unfold chkS at h
    split at h <;> try contradiction
    simp only [Bool.and_eq_true] at h
    exact s_exp (sndE o m h.1).qe h.2
  | .ret e, x, X, W, c, o, m, hp, h => by
    unfold chkS at h
    split at h <;> try contradiction
    exact s_ret (sndE o m h).qe
  | .retN, x, X, W, c, o, m, hp, h => by
    unfold chkS at h
    split at h <;> try contradiction
    exact s_retN
  | .pass, x, X, W, c, o, m, hp, h => by
    unfold chkS at h
    split at h <;> try contradiction
    exact s_pass
  | .brk, x, X, W, c, o, m, hp, h => by
    unfold chkS at h
    split at h <;> try contradiction
    exact s_brk
  | .cont, x, X, W, c, o, m, hp, h => by
    unfold chkS at h
    split at h <;> try contradiction
    exact s_cont
  | .cond t a b, x, X, W, c, o, m, hp, h => by
    unfold chkS at h
    split at h <;> try contradiction
    simp only [Bool.and_eq_true] at h
    obtain ⟨⟨⟨h1, h2⟩, h3⟩, h4⟩ := h
    exact (s_if ((sndE o m h1).qt h2) (sndSs o m hp h3) (sndSs o m hp h4)).le le_cond
  | .loop tg it b, x, X, W, c, o, m, hp, h => by
    unfold chkS at h
    split at h <;> try contradiction
    simp only [Bool.and_eq_true] at h
    obtain ⟨⟨⟨h1, h2⟩, h3⟩, h4⟩ := h
    exact s_for hp m.ck.calm (sndI o m h2) (tg_of o m.ck h1) (sndSs o m hp h3) (foldSet h4)
  | .whil t b, x, X, W, c, o, m, hp, h => by
    unfold chkS at h
    split at h <;> try contradiction
    simp only [Bool.and_eq_true] at h
    obtain ⟨⟨h1, h2⟩, h3⟩ := h
    exact (s_while hp ((sndE o m h1).qt h2) (sndSs o m hp h3)).le fun r => .inr (whileL_tv _ _)
  | .app v e, x, X, W, c, o, m, hp, h => by
    unfold chkS at h
    split at h <;> try contradiction
    simp only [Bool.and_eq_true, decide_eq_true_eq] at h
    obtain ⟨⟨⟨⟨rfl, h1⟩, h2⟩, h3⟩, h4⟩ := h
    obtain ⟨a, b, d, f⟩ := o.vis h1
    exact s_app a b d f (sndE o m h2).qe h3 h4
  | .put v i e, x, X, W, c, o, m, hp, h => by
    unfold chkS at h
    split at h <;> try contradiction
    simp only [Bool.and_eq_true, decide_eq_true_eq] at h
    obtain ⟨⟨⟨⟨⟨h1, h2⟩, h3⟩, h4⟩, h5⟩, h6⟩ := h
    obtain ⟨a, b, d, f⟩ := o.vis h1
    exact s_put a b d f (sndE o m h3).qe (sndE o m h2).qe h4 h5
  | .rais _ _, x, X, W, c, o, m, hp, h => by (unfold chkS at h; simp at h)
theorem sndSs : ∀ {s : List S} {x : List Stmt} {X : Cx} {W : WX} {c : Sc}, XOk X c → SemOk X T C G ca W → PassesOwn (model X.prog X.w) X.A X.env X.xe → chkSs T c s x = true → QSs X ca W x (exs C G s)
  | [], [], X, W, c, o, m, hp, h => ss_nil
  | s :: ss, x :: xs, X, W, c, o, m, hp, h => by
    simp only [chkSs, Bool.and_eq_true] at h
    exact ss_cons (sndS o m hp h.1) (sndSs o m hp h.2)
  | [], _ :: _, X, W, c, o, m, hp, h | _ :: _, [], X, W, c, o, m, hp, h => by simp [chkSs] at h
end
end
end Z

/-! Z15: defs -/
namespace Z
open PySem PySem.Spec PyProof.Rows L2 TL

/-- a def: its names, its parameters' number, its core -/
structure DefS where
  name : Str
  st : Stmt
  N : List Str
  np : Nat
  body : List S
instance : Inhabited DefS := ⟨⟨default, .Pass ⟨0, 0, 0, 0⟩, [], 0, []⟩⟩
def DefS.fn (d : DefS) : Fn := ⟨d.np, d.N.length, d.body⟩
def DefS.ps (d : DefS) : List Str := d.N.take d.np
def scB (N P : List Str) (sc : Scope) : Bool :=
  decide (sc.kind = .function) && !sc.isCoroutine && !sc.isGenerator && decide N.Nodup && decide (N.take P.length = P) && (P.all fun x => decide (sc.names.lookup x = some .local) || decide (sc.names.lookup x = some .cell)) && (sc.names.all fun y => decide (y.2 ≠ .free))
theorem scB_ok {N P : List Str} {sc : Scope} (h : scB N P sc = true) : FnScope N P sc := by
  simp only [scB, Bool.and_eq_true, decide_eq_true_eq, Bool.not_eq_true', List.all_eq_true, Bool.or_eq_true] at h
  obtain ⟨⟨⟨⟨⟨⟨h1, h2⟩, h3⟩, h4⟩, h5⟩, h6⟩, h7⟩ := h
  exact ⟨h1, h2, h3, h4, h5, h6, h7⟩
def DefS.ok (T : Tb) (d : DefS) : Bool := scB d.N d.ps (defScope d.st) && decide (d.np ≤ d.N.length) && chkSs T ⟨d.N, (defScope d.st).names, true⟩ d.body (defBody d.st)
section
variable {K : PySem.W.Frag} {F H : Hp}
theorem start_rp {sl : List Slot} {vs : List V} {n : Nat} (p : Rp K sl (vs.map some) H F) : Rp K (sl ++ List.replicate n .no) (vs.map some ++ List.replicate n none) H F := by
  have get : ∀ (i : Nat) s, (sl ++ List.replicate n Slot.no)[i]? = some s → s ≠ .no → sl[i]? = some s ∧ ∀ v, (vs.map some)[i]? = some v → (vs.map some ++ List.replicate n none)[i]? = some v := fun i s e hs => by
    have hi : i < sl.length := by
      refine Nat.lt_of_not_le fun hn => hs ?_
      rw [List.getElem?_append_right hn, List.getElem?_replicate] at e
      split at e <;> cases e
      rfl
    rw [List.getElem?_append_left hi] at e
    exact ⟨e, fun v hv => by rw [List.getElem?_append_left (by have := p.len; omega)]; exact hv⟩
  have own : ∀ (i : Nat) l, ownL (sl ++ List.replicate n Slot.no)[i]? = some l → ownL sl[i]? = some l ∧ ∀ v, (vs.map some)[i]? = some v → (vs.map some ++ List.replicate n none)[i]? = some v := fun i l e => by
    cases h : (sl ++ List.replicate n Slot.no)[i]? with
    | none => rw [h] at e; cases e
    | some s =>
      obtain ⟨a, b⟩ := get i s h (fun z => by rw [h, z] at e; cases e)
      rw [h] at e
      exact ⟨by rw [a]; exact e, b⟩
  refine ⟨by rw [List.length_append, List.length_append, p.len, List.length_replicate, List.length_replicate], p.sub, fun i d e => ?_, fun i l e => ?_, fun i j l m a e1 e2 z1 z2 => ?_⟩
  · obtain ⟨a, b⟩ := get i _ e (by simp)
    obtain ⟨v, e1, q⟩ := p.val i d a
    exact ⟨v, b _ e1, q⟩
  · obtain ⟨a, b⟩ := own i l e
    obtain ⟨x, ws, e1, e2, e3, q⟩ := p.own i l a
    exact ⟨x, ws, b _ e1, e2, e3, q⟩
  · obtain ⟨a1, b1⟩ := own i l e1
    obtain ⟨a2, b2⟩ := own j m e2
    obtain ⟨x, _, y1, _⟩ := p.own i l a1
    obtain ⟨x', _, y2, _⟩ := p.own j m a2
    rw [b1 _ y1] at z1
    rw [b2 _ y2] at z2
    cases z1
    cases z2
    exact p.apart i j l m _ a1 a2 y1 y2
theorem start_pc {sl : List Slot} {vs : List V} {n : Nat} {r' : St} {σ' : L2.St} {H' F' : Hp} {o : List D} (p : Rp K sl (vs.map some) H F) (h0 : ∀ (i : Nat) l, sl[i]? = some (.io l) → i = 0)
    (pt : Pt K (sl ++ List.replicate n .no) r' (vs.map some ++ List.replicate n none) σ' H F H' F') (e : outOf sl r' = some o) : Pc K sl o (vs.map some) H F H' F' := by
  have own : ∀ b, Own (sl ++ List.replicate n .no) (vs.map some ++ List.replicate n none) b → Own sl (vs.map some) b := fun b ⟨i, l, e1, e2⟩ => by
    have hi : i < sl.length := by
      refine Nat.lt_of_not_le fun hn => ?_
      rw [List.getElem?_append_right hn, List.getElem?_replicate] at e1
      split at e1 <;> cases e1
    rw [List.getElem?_append_left hi] at e1
    rw [List.getElem?_append_left (by have := p.len; omega)] at e2
    exact ⟨i, l, e1, e2⟩
  refine ⟨pt.f, pt.rp.sub, fun b u z n => pt.h b u z fun w => n (own b w), fun b u z n w => pt.n b u z (fun w => n (own b w)) w, fun l z => ?_⟩
  have hi : 0 < sl.length := (List.getElem?_eq_some_iff.mp z).1
  obtain ⟨⟨l', e1⟩, e2⟩ := pt.io 0 l (by rw [List.getElem?_append_left hi]; exact z)
  obtain ⟨a, ws, e3, e4, e5, q⟩ := pt.rp.own 0 l' (by rw [e1]; rfl)
  rw [e2, List.getElem?_append_left (by have := p.len; omega)] at e3
  refine ⟨a, ws, e3, e4, e5, ?_⟩
  cases sl with
  | nil => cases hi
  | cons s sl =>
    cases z
    cases r' with
    | nil => cases e1
    | cons s' r' =>
      cases e1
      simp only [outOf] at e
      cases e
      exact q
end
section
variable {P : Program} {w : World} {K : PySem.W.Frag} {mg : Str → Option Value} {base : Heap} {ca : Nat → Addr}
/-- the promise that is kept where nothing is asked -/
theorem fnOk0 {k : Nat} {fa : Addr} {fd : FuncData} {ps : List Str} : FnOk P w K mg base (L2.CX P w) k fa fd ps (SpOf K ca ps.length (fun _ => .bad)) :=
  ⟨fun vs H Q E ⟨sl, F, h, _⟩ => h, fun A outer s H args us vs Q E hr he hb hv ⟨sl, F, h1, h2, h3, h4, h5⟩ => h5.elim⟩
/-- one def over what it calls -/
structure CallOk (P : Program) (w : World) (K : PySem.W.Frag) (mg : Str → Option Value) (base : Heap) (ca : Nat → Addr) (T : Tb) (k : Nat) (C : Calls) (G : List D) : Prop where
  glo : ∀ (g : Nat) x, T.glo[g]? = some x → ∃ d v u, G[g]? = some d ∧ mg x = some u ∧ RelV v u ∧ ∀ F, Rep K F d v
  fn : ∀ (f : Nat) x np, T.fns[f]? = some (x, np) → ∃ fa fd ps, ps.length = np ∧ FnOk P w K mg base (L2.CX P w) k fa fd ps (SpOf K ca ps.length (C f)) ∧ mg x = some (.ref fa) ∧ PySem.W.keepIn K (.ref fa) = true ∧ Binds K fd ps [] ∧
    ∀ nms ks, (f, nms, ks) ∈ T.kb → ks.length = np ∧ KBinds K fd ps nms (gK nms.length ks .none) (gK nms.length ks .non)
  free : ∀ x ∈ T.free, mg x = none
theorem def_ok {d : DefS} {T : Tb} {k : Nat} {C : Calls} {G : List D} {fa : Addr} {fd : FuncData} (F : FunD K d.name d.name (defArgs d.st) (defBody d.st) (defScope d.st) [] [] fa fd) (hd : d.ok T = true) (h : CallOk P w K mg base ca T k C G) :
    FnOk P w K mg base (L2.CX P w) (k + 1) fa fd d.ps (SpOf K ca d.ps.length (runFn C G d.fn)) := by
  simp only [DefS.ok, Bool.and_eq_true, decide_eq_true_eq] at hd
  obtain ⟨⟨h1, h2⟩, h3⟩ := hd
  have S := scB_ok h1
  have hps : d.ps.length = d.np := by unfold DefS.ps; rw [List.length_take]; omega
  refine F.ok S (fun vs H Q E ⟨sl, F, h, _⟩ => h) fun cdv A outer s H vs Q E hr hsp => ?_
  obtain ⟨sl, F0, l1, p, no, io0, hc⟩ := hsp
  refine ⟨tS K ca (fun cls dd _ H => E cls dd H) (exs C G d.body), sndSs (X := cxOf (L2.CX P w) P w K mg base d.N d.name (defScope d.st) fa cdv A outer s H E) (c := ⟨d.N, (defScope d.st).names, true⟩) ⟨rfl, rfl, S.kind, fun _ _ => rfl⟩ ⟨⟨rfl, S.nd, hr.mono (Nat.zero_le _)⟩, h.glo, fun f x np z => ?_, h.free, takes_of rfl rfl rfl rfl⟩ (passes_of rfl) h3, ?_⟩
  · obtain ⟨fa, fd, ps, a1, a2, a3, a4, a5, a6⟩ := h.fn f x np z
    exact ⟨k, fa, fd, ps, a1, a2, hr, a3, a4, a5, a6⟩
  · have hl : sl.length = d.np := by have := p.len; rw [List.length_map] at this; rw [this, l1, hps]
    have est : L2.start d.N vs = vs.map some ++ List.replicate (d.N.length - d.np) none := by unfold L2.start; rw [l1, hps]
    rw [est]
    refine ⟨sl ++ List.replicate (d.N.length - d.np) .no, F0, start_rp p, ?_⟩
    unfold runFn DefS.fn at hc
    simp only [hl, if_true] at hc
    cases e : exs C G d.body (sl ++ List.replicate (d.N.length - d.np) .no) with
    | nx r' =>
      rw [e] at hc
      intro σ' H' F' pt
      dsimp only at hc
      cases e2 : outOf sl r' with
      | none => rw [e2] at hc; exact hc.elim
      | some o => rw [e2] at hc; exact hc _ H' F' (start_pc p io0 pt e2) (Rep.non_iff.mpr rfl)
    | rt v r' =>
      rw [e] at hc
      intro u σ' H' F' pt q
      dsimp only at hc
      cases e2 : outOf sl r' with
      | none => rw [e2] at hc; exact hc.elim
      | some o => rw [e2] at hc; exact hc _ H' F' (start_pc p io0 pt e2) q
    | exc x r' =>
      rw [e] at hc
      intro cls dd σ' H' F' pt q
      dsimp only at hc
      cases e2 : outOf sl r' with
      | none => rw [e2] at hc; exact hc.elim
      | some o => rw [e2] at hc; exact hc _ _ H' F' (start_pc p io0 pt e2) q
    | bk r' => rw [e] at hc; exact hc.elim
    | ct r' => rw [e] at hc; exact hc.elim
    | bad => rw [e] at hc; exact hc.elim
/-- the text's facts, level by level -/
structure AllOk (K : PySem.W.Frag) (mg : Str → Option Value) (T : Tb) (ds : List DefS) (G : List D) : Prop where
  fns : T.fns = ds.map fun d => (d.name, d.np)
  ok : ds.all (DefS.ok T) = true
  glo : ∀ (g : Nat) x, T.glo[g]? = some x → ∃ d v u, G[g]? = some d ∧ mg x = some u ∧ RelV v u ∧ ∀ F, Rep K F d v
  free : ∀ x ∈ T.free, mg x = none
  df : ∀ (f : Nat) (d : DefS), ds[f]? = some d → ∃ fa fd, FunD K d.name d.name (defArgs d.st) (defBody d.st) (defScope d.st) [] [] fa fd ∧ mg d.name = some (.ref fa) ∧ Binds K fd d.ps [] ∧
    ∀ nms ks, (f, nms, ks) ∈ T.kb → ks.length = d.np ∧ KBinds K fd d.ps nms (gK nms.length ks .none) (gK nms.length ks .non)
def progOf (ds : List DefS) (G : List D) : Prog := ⟨ds.map DefS.fn, G⟩
theorem dps {T : Tb} {d : DefS} (h : d.ok T = true) : d.ps.length = d.np := by
  simp only [DefS.ok, Bool.and_eq_true, decide_eq_true_eq] at h
  unfold DefS.ps
  rw [List.length_take]
  omega
theorem all_ok {T : Tb} {ds : List DefS} {G : List D} (a : AllOk K mg T ds G) : ∀ n : Nat, CallOk P w K mg base ca T n (callN (progOf ds G) n) G
  | 0 => ⟨a.glo, fun f x np z => by
      rw [a.fns, List.getElem?_map] at z
      obtain ⟨d, hd, e⟩ := Option.map_eq_some_iff.mp z
      cases e
      obtain ⟨fa, fd, F, m1, b, kb⟩ := a.df f d hd
      exact ⟨fa, fd, d.ps, dps (List.all_eq_true.mp a.ok d (List.mem_of_getElem? hd)), fnOk0, m1, F.kp, b, kb⟩, a.free⟩
  | n + 1 => ⟨a.glo, fun f x np z => by
      rw [a.fns, List.getElem?_map] at z
      obtain ⟨d, hd, e⟩ := Option.map_eq_some_iff.mp z
      cases e
      obtain ⟨fa, fd, F, m1, b, kb⟩ := a.df f d hd
      have ok := List.all_eq_true.mp a.ok d (List.mem_of_getElem? hd)
      have ef : callN (progOf ds G) (n + 1) f = runFn (callN (progOf ds G) n) G d.fn := by
        funext as
        simp only [callN, progOf, List.getElem?_map, hd, Option.map_some]
      refine ⟨fa, fd, d.ps, dps ok, ?_, m1, F.kp, b, kb⟩
      rw [ef]
      exact def_ok F ok (all_ok a n), a.free⟩
theorem kb_of {x qual : Str} {params : Arguments} {body : List Stmt} {scope : Scope} {kws : List (Str × V)} {f : Addr} {fd : FuncData} {ps nms : List Str} {ks : List Nat} (F : FunD K x qual params body scope [] kws f fd) (hp : 0 < ps.length)
    (h : ∀ (kV doc pm : Value) (an : Option Addr) (cdv ct : Value) (ws : List Value), ws.length = nms.length → bindArgs (PySem.W.fnOf x qual params body scope .none kV doc pm an cdv ct) ⟨[], nms.zip ws⟩ = pure (ps.zip (ks.map fun k => ws.getD k .none))) :
    KBinds K fd ps nms (gK nms.length ks .none) (gK nms.length ks .non) := by
  obtain ⟨oc, od, dV, kV, doc, pm, an, cdv, ct, osl, rfl, lk, hcd, hD, hK⟩ := F.ex
  rcases hD with ⟨_, rfl⟩ | ⟨e, _⟩
  · refine ⟨fun s us ws X hl => ?_, fun r1 r2 => gK_rel r1 r2⟩
    have hl2 := hl
    unfold gK at hl ⊢
    split at hl
    · rename_i hc
      rw [if_pos hc]
      have hu : us = [] := List.length_eq_zero_iff.mp hc.1
      subst hu
      exact .of_eq (h kV doc pm an cdv ct ws hc.2)
    · simp at hl
      omega
  · exact absurd rfl e
/-- the law, called with a list of ints -/
theorem law_sp {i : Nat} {a : Addr} {H : Hp} {ns : List Int} {C : Calls} (hS : SqL K H a (ns.map V.int)) (h : ∃ o, C i [.val (.lst (ns.map .int))] = .ret (.bl true) o) :
    SpOf K ca 1 (C i) [.ref a] H (fun v _ => v = .bl true) (fun _ _ _ => False) := by
  obtain ⟨o, h⟩ := h
  have hr : Reps K H (ns.map .int) (ns.map V.int) := by
    clear h hS
    induction ns with
    | nil => exact Reps.nil
    | cons i ns ih => exact Reps.cons (Rep.int_iff.mpr rfl) ih
  refine ⟨[.lst (ns.map .int)].map .val, H, rfl, vals_rp (vs := [.ref a]) (fun _ _ e => e) (Reps.cons (Rep.lst_iff.mpr ⟨a, _, rfl, hS, hr⟩) Reps.nil), fun j l z => vals_noL (i := j) (m := l) (by rw [z]; rfl), fun j l z => absurd (show ownL ([D.lst (ns.map .int)].map Slot.val)[j]? = some l by rw [z]; rfl) vals_noL, ?_⟩
  show (match C i [.val (.lst (ns.map .int))] with
    | .ret d o => ∀ v H' F', Pc K _ o _ H H H' F' → Rep K F' d v → v = .bl true
    | .exc x o => _
    | .bad => False)
  rw [h]
  exact fun v H' F' _ q => Rep.bl_iff.mp q
end
end Z

/-! Z16: the law's end, with exceptions by the world -/
namespace Z
open PySem PySem.Spec PyProof.Rows L2
theorem walk_ofW {l : PySem.W.OpenLaw} {n k : Nat} {q : Program} {loose : List Str} {XP : (Str → Option Value) → Heap → Prop} {YP : World → Heap → Prop} {d : DefRec} {x : Str}
    (hn : l.most = some n) (hn2 : n ≤ sizeLine) (hdf : d.params.defaults = []) (hr : Room k callerA)
    (F : ∀ (w : World) (mg : Str → Option Value) (fa : Addr) (h : Heap), YP w h → h.Ns mainGlobals mg → mg d.name = some (.ref fa) →
      ∃ (K : PySem.W.Frag) (fd : FuncData) (sp : Sp), K.In h ∧ (∀ (s : Shared) (u : Value), BindsTo s fd ⟨[u], []⟩ [(x, u)]) ∧
        (∀ (H : Hp) (a : Addr) (ns : List Int), ns.length ≤ n → Only H → SqL K H a (ns.map V.int) → sp [.ref a] H (fun v _ => v = .bl true) fun _ _ _ => False) ∧
        ∀ base : Heap, K.In base → base.Ns mainGlobals mg → FnOk l.prog w K mg base (L2.CX l.prog w) k fa fd [x] sp) :
    PySem.W.WalkO q loose XP YP l.row.toRowW d [] (fun f vs => PySem.call f vs) := by
  refine Att.attach_call hn hdf fun w s₀ s₁ mg mb fa o pm cd doc a vs ns G Y ho hd hcd hmg hobj hints hlen hg => ?_
  obtain ⟨K, fd, sp, KX, hb, hsp, hF⟩ := F w mg fa _ Y G.T.g hmg
  exact law_call KX G.T.g G.T.b G.T.builtins G.T.nolimit hg hobj hints (Nat.le_trans hlen hn2) hr hF hb (fun H hO hS => hsp H a ns hlen hO hS) fun H e s' ⟨_, _, _, _, _, _, _, _, _, _, _, _, z⟩ => z
end Z

/-! the core program of lossdepth_k01_words_and_indexes -/
namespace Z
namespace L
def b_is_integer : List S := [.ret (.and (.isi (.var 0) 0) (.not (.isi (.var 0) 1)))]
def b_check_rounds : List S := [.cond (.or (.not (.call 0 [.var 0])) (.not (.cmp2 .le .le (.int 0) (.var 0) (.glo 1)))) [.bad] []]
def b_is_word : List S := [.cond (.or (.not (.isi (.var 0) 2)) (.cmp .gt (.lenv 0) (.glo 1))) [.ret (.bl false)] [], .ret (.bi .all [.comp (.inn (.var 1) (.glo 0)) (.one 1) (.e (.var 0)) none [1]])]
def b_check_word : List S := [.cond (.not (.call 2 [.var 0])) [.bad] []]
def b_power : List S := [.set 1 (.int 1), .loop (.one 2) (.rng1 (.var 0)) [.set 1 (.bin .mul (.var 1) (.int 3))], .ret (.var 1)]
def b_letters_at : List S := [.ret (.ite (.cmp .eq (.bin .mod (.var 0) (.int 2)) (.int 0)) (.glo 0) (.rev (.glo 0)))]
def b_index_from : List S := [.set 1 (.int 0), .loop (.one 2) (.e (.var 0)) [.set 1 (.bin .add (.bin .mul (.int 3) (.var 1)) (.mt .index (.call 5 [.var 1]) (.var 2)))], .ret (.var 1)]
def b_word_from : List S := [.set 2 (.str []), .set 3 (.int 0), .loop (.one 4) (.rng1 (.var 0)) [.set 5 (.call 4 [.bin .sub (.bin .sub (.var 0) (.var 4)) (.int 1)]), .set 6 (.idx (.call 5 [.var 3]) (.bin .sub (.bin .div (.var 1) (.var 5)) (.bin .mul (.int 3) (.var 3)))), .aug 2 .add (.var 6), .set 3 (.bin .div (.var 1) (.var 5))], .ret (.var 2)]
def b_index_of : List S := [.exp (.call 3 [.var 0]), .ret (.call 6 [.var 0])]
def b_word_at : List S := [.exp (.call 1 [.var 0]), .cond (.or (.not (.call 0 [.var 1])) (.not (.cmp2 .le .lt (.int 0) (.var 1) (.call 4 [.var 0])))) [.bad] [], .ret (.call 7 [.var 0, .var 1])]
def b__law_mixed : List S := [.set 2 (.bin .mod (.bin .add (.bin .add (.bin .mul (.bin .mod (.var 0) (.int 2147483647)) (.int 48271)) (.bin .mul (.var 1) (.int 69621))) (.int 1048583)) (.int 2147483629)), .set 2 (.bin .mod (.bin .mul (.var 2) (.var 2)) (.int 2147483587)), .ret (.bin .mod (.bin .mul (.var 2) (.bin .add (.var 2) (.int 2))) (.int 2147483579))]
def b__law_cell : List S := [.set 2 (.int 0), .cond (.cmp .lt (.var 1) (.lenv 0)) [.set 2 (.idxv 0 (.var 1))] [], .cond (.cmp .ge (.var 2) (.bin .pow (.int 10) (.int 18))) [.ret (.bin .mod (.bin .sub (.var 2) (.bin .pow (.int 10) (.int 18))) (.bin .mul (.bin .mul (.bin .mul (.bin .pow (.int 10) (.int 60)) (.bin .pow (.int 10) (.int 60))) (.bin .pow (.int 10) (.int 60))) (.bin .pow (.int 10) (.int 60))))] [], .set 3 (.int 0), .loop (.one 4) (.rng1 (.int 24)) [.set 3 (.bin .add (.bin .mul (.var 3) (.int 2147483579)) (.call 10 [.var 2, .bin .add (.bin .add (.bin .mul (.int 7) (.var 1)) (.bin .mul (.int 100) (.var 4))) (.bin .mul (.var 4) (.var 4))]))], .ret (.var 3)]
def b__law_take : List S := [.set 2 (.bin .mod (.idxv 0 (.int 0)) (.var 1)), .put 0 (.int 0) (.bin .div (.idxv 0 (.int 0)) (.var 1)), .ret (.var 2)]
def b__law_text : List S := [.ret (.mt .join (.str []) (.comp (.idx (.str [97, 45, 98]) (.callio 12 0 [.int 3])) (.one 2) (.rng1 (.callio 12 0 [.bin .add (.var 1) (.int 1)])) none [2]))]
def b__law_power : List S := [.set 1 (.int 1), .loop (.one 2) (.rng1 (.var 0)) [.set 1 (.bin .mul (.int 3) (.var 1))], .ret (.var 1)]
def b__law_spot : List S := [.set 1 (.int 0), .loop (.one 2) (.e (.var 0)) [.set 3 (.dsub [[97], [45], [98]] [.int 0, .int 1, .int 2] (.var 2)), .set 1 (.bin .add (.bin .mul (.int 3) (.var 1)) (.ite (.cmp .eq (.bin .mod (.var 1) (.int 2)) (.int 0)) (.var 3) (.bin .sub (.int 2) (.var 3))))], .ret (.var 1)]
def b__law_good : List S := [.set 1 (.call 15 [.var 0]), .set 2 (.call 8 [.var 0]), .cond (.or (.cmp .ne (.var 2) (.var 1)) (.or (.isi (.var 2) 1) (.cmp .ne (.callk 8 [.var 0] [0]) (.var 1)))) [.ret (.bl false)] [], .ret (.and (.cmp .eq (.call 9 [.lenv 0, .var 1]) (.var 0)) (.cmp .eq (.callk 9 [.var 1, .lenv 0] [1, 0]) (.var 0)))]
def b__law_is : List S := [.ret (.and (.isi (.var 0) 2) (.and (.cmp .le (.lenv 0) (.int 60)) (.bi .all [.comp (.inn (.var 1) (.tup [.str [97], .str [45], .str [98]])) (.one 1) (.e (.var 0)) none [1]])))]
def b__law_things : List S := [.set 2 (.callio 12 0 [.bin .add (.lenv 1) (.int 1)]), .set 3 (.idx (.lst [.str [65], .str [66], .str [99], .str [32], .str [], .str [97, 98], .str [10], .str [48], .str [63]]) (.callio 12 0 [.int 9])), .set 4 (.lst [.var 1, .bin .add (.var 1) (.var 1), .bin .add (.bin .add (.sli (.var 1) none (some (.var 2))) (.var 3)) (.sli (.var 1) (some (.var 2)) none), .bin .add (.bin .add (.sli (.var 1) none (some (.var 2))) (.var 3)) (.sli (.var 1) (some (.bin .add (.var 2) (.int 1))) none), .lst [.var 1], .tup [.var 1]]), .ret (.bin .add (.var 4) (.lst [.bi .list [.var 1], .lenv 1, .cmp .eq (.var 1) (.str []), .non, .bin .mul (.str [97]) (.int 60), .bin .mul (.str [45]) (.int 61), .bin .mul (.var 1) (.int 61)]))]
def b_law : List S := [.loop (.one 1) (.rng1 (.bi .max2 [.bi .min2 [.lenv 0, .int 5], .int 1])) [.own 3 (.lst [.call 11 [.var 0, .var 1]]), .loop (.one 4) (.rng1 (.int 3)) [.set 7 (.callio 13 3 [.idx (.lst [.int 4, .int 20, .int 60]) (.var 4)]), .cond (.not (.call 16 [.var 7])) [.ret (.bl false)] [], .loop (.one 8) (.e (.callio 18 3 [.var 7])) [.set 9 (.call 2 [.var 8]), .cond (.or (.not (.isi (.var 9) 1)) (.or (.cmp .ne (.var 9) (.call 17 [.var 8])) (.cmp .ne (.callk 2 [.var 8] [0]) (.var 9)))) [.ret (.bl false)] []]], .set 2 (.callio 12 3 [.int 61]), .set 5 (.bin .sub (.call 14 [.var 2]) (.int 1)), .loop (.one 6) (.e (.lst [.int 0, .var 5, .bin .div (.var 5) (.int 2), .callio 12 3 [.bin .add (.var 5) (.int 1)], .callio 12 3 [.bin .add (.var 5) (.int 1)]])) [.cond (.or (.cmp .ne (.bi .len [.call 9 [.var 2, .var 6]]) (.var 2)) (.not (.call 16 [.call 9 [.var 2, .var 6]]))) [.ret (.bl false)] []]], .loop (.one 2) (.rng1 (.int 5)) [.loop (.one 6) (.rng1 (.call 14 [.var 2])) [.cond (.or (.cmp .ne (.call 15 [.call 9 [.var 2, .var 6]]) (.var 6)) (.cmp .ne (.bi .len [.call 9 [.var 2, .var 6]]) (.var 2))) [.ret (.bl false)] []]], .cond (.cmp .ne (.comp (.call 8 [.var 7]) (.one 7) (.e (.lst [.str [98, 97], .str [98, 45, 98], .bin .mul (.str [45]) (.int 60)])) none [7]) (.lst [.int 6, .int 21, .bin .div (.call 14 [.int 60]) (.int 2)])) [.ret (.bl false)] [], .cond (.or (.cmp .ne (.call 9 [.int 3, .int 21]) (.str [98, 45, 98])) (.or (.cmp .ne (.call 9 [.int 2, .int 6]) (.str [98, 97])) (.cmp .ne (.call 9 [.int 60, .bin .sub (.call 14 [.int 60]) (.int 1)]) (.bin .mul (.str [98]) (.int 60))))) [.ret (.bl false)] [], .ret (.and (.cmp .eq (.call 8 [.str []]) (.int 0)) (.and (.cmp .eq (.call 9 [.int 0, .int 0]) (.str [])) (.isT (.call 2 [.str []]))))]
def G : List D := [.str [97, 45, 98], .int 60]
def fns : List Fn := [⟨1, 1, b_is_integer⟩, ⟨1, 1, b_check_rounds⟩, ⟨1, 2, b_is_word⟩, ⟨1, 1, b_check_word⟩, ⟨1, 3, b_power⟩, ⟨1, 1, b_letters_at⟩, ⟨1, 3, b_index_from⟩, ⟨2, 7, b_word_from⟩, ⟨1, 1, b_index_of⟩, ⟨2, 2, b_word_at⟩, ⟨2, 3, b__law_mixed⟩, ⟨2, 5, b__law_cell⟩, ⟨2, 3, b__law_take⟩, ⟨2, 3, b__law_text⟩, ⟨1, 3, b__law_power⟩, ⟨1, 4, b__law_spot⟩, ⟨1, 3, b__law_good⟩, ⟨1, 2, b__law_is⟩, ⟨2, 5, b__law_things⟩, ⟨1, 10, b_law⟩]
def P : Prog := ⟨fns, G⟩
-- 0 is_integer(value) ['value']
-- 1 check_rounds(rounds) ['rounds']
-- 2 is_word(value) ['value', 'letter']
-- 3 check_word(word) ['word']
-- 4 power(rounds) ['rounds', 'found', 'turn']
-- 5 letters_at(index) ['index']
-- 6 index_from(word) ['word', 'index', 'letter']
-- 7 word_from(rounds, index) ['rounds', 'index', 'word', 'done', 'turn', 'part', 'letter']
-- 8 index_of(word) ['word']
-- 9 word_at(rounds, index) ['rounds', 'index']
-- 10 _law_mixed(_law_cell_here, _law_k) ['_law_cell_here', '_law_k', '_law_mix']
-- 11 _law_cell(_law_script, _law_k) ['_law_script', '_law_k', '_law_cell_here', '_law_found', '_law_j']
-- 12 _law_take(_law_own, _law_length) ['_law_own', '_law_length', '_law_digit']
-- 13 _law_text(_law_own, _law_most) ['_law_own', '_law_most', '_law_k']
-- 14 _law_power(_law_length) ['_law_length', '_law_found', '_law_k']
-- 15 _law_spot(_law_text_here) ['_law_text_here', '_law_found', '_law_sign', '_law_offset']
-- 16 _law_good(_law_text_here) ['_law_text_here', '_law_spot_here', '_law_found']
-- 17 _law_is(_law_thing) ['_law_thing', '_law_sign']
-- 18 _law_things(_law_own, _law_text_here) ['_law_own', '_law_text_here', '_law_at', '_law_odd', '_law_some']
-- 19 law(_law_script) ['_law_script', '_law_turn', '_law_length', '_law_own', '_law_k', '_law_last', '_law_spot_here', '_law_text_here', '_law_thing', '_law_found']
end L
end Z

namespace Z
/-- a loop with an invariant -/
theorem forL_inv {b : St → F} {tg : Tg} (I : Nat → St → Prop) : ∀ (xs : List D) (k : Nat) (r : St), I k r →
    (∀ (j : Nat) (x : D) (r : St), I (k + j) r → xs[j]? = some x → ∃ r1 r2, setTg tg x r = some r1 ∧ b r1 = .nx r2 ∧ I (k + j + 1) r2) → ∃ r', forL b tg xs r = .nx r' ∧ I (k + xs.length) r'
  | [], k, r, h, _ => ⟨r, rfl, h⟩
  | x :: xs, k, r, h, f => by
    obtain ⟨r1, r2, e1, e2, h2⟩ := f 0 x r h rfl
    obtain ⟨r', e3, h3⟩ := forL_inv I xs (k + 1) r2 h2 fun j y r hj hy => by
      have := f (j + 1) y r (by rw [show k + (j + 1) = k + 1 + j by omega]; exact hj) (by simpa using hy)
      rw [show k + 1 + j + 1 = k + (j + 1) + 1 by omega]
      exact this
    refine ⟨r', ?_, by rw [show k + (x :: xs).length = k + 1 + xs.length by simp; omega]; exact h3⟩
    simp only [forL, e1, e2, e3]
theorem rngL_get? {a b : Int} {j : Nat} {x : D} (h : (rngL a b)[j]? = some x) : x = .int (a + j) ∧ (j : Int) < b - a := by
  unfold rngL at h
  rw [List.getElem?_map] at h
  obtain ⟨k, h1, h2⟩ := Option.map_eq_some_iff.mp h
  have hj : j < (b - a).toNat := by
    have := (List.getElem?_eq_some_iff.mp h1).1
    simpa using this
  rw [List.getElem?_range hj] at h1
  cases h1
  exact ⟨h2.symm, by omega⟩
theorem rngL_len' {a b : Int} : (rngL a b).length = (b - a).toNat := by unfold rngL; simp
theorem big_of {m k : Nat} (h : m < 2 ^ k) (hk : k ≤ 8000) : m < BIG := Nat.lt_of_lt_of_le h (by unfold BIG; exact Nat.pow_le_pow_right (by omega) hk)
theorem pow3_big {k : Nat} (h : k ≤ 1000) : (3 : Int) ^ k = ((3 ^ k : Nat) : Int) ∧ ((3 : Int) ^ k).natAbs < BIG := by
  have e : (3 : Int) ^ k = ((3 ^ k : Nat) : Int) := by simp
  refine ⟨e, ?_⟩
  rw [e]
  refine big_of (k := 2 * (k + 1)) ?_ (by omega)
  rw [Int.natAbs_natCast, Nat.pow_mul]
  exact Nat.lt_of_le_of_lt (Nat.pow_le_pow_left (by decide : 3 ≤ 2 ^ 2) k) (Nat.pow_lt_pow_right (by decide) (by omega))
theorem big3 : (3 : Nat) < BIG := big_of (k := 2) (by decide) (by decide)
theorem exs_nx {C : Calls} {G : List D} {s : S} {ss : List S} {r r1 : St} (h : ex C G s r = .nx r1) : exs C G (s :: ss) r = exs C G ss r1 := by simp only [exs, h, F.then_nx]
theorem exs_rt {C : Calls} {G : List D} {s : S} {ss : List S} {r r1 : St} {d : D} (h : ex C G s r = .rt d r1) : exs C G (s :: ss) r = .rt d r1 := by simp only [exs, h, F.then_rt]
theorem ex_loop {C : Calls} {G : List D} {tg : Tg} {it : I} {b : List S} {r r1 : St} {xs : List D} (h : evi C G it r = .ok xs r1) : ex C G (.loop tg it b) r = forL (exs C G b) tg xs r1 := by simp only [ex, h, R.fl_ok]
theorem ex_ret {C : Calls} {G : List D} {e : E} {r r1 : St} {d : D} (h : ev C G e r = .ok d r1) : ex C G (.ret e) r = .rt d r1 := by simp only [ex, h, R.fl_ok]
theorem ex_set {C : Calls} {G : List D} {i : Nat} {e : E} {r r1 r2 : St} {d : D} (h : ev C G e r = .ok d r1) (h2 : setv i (.val d) r1 = some r2) : ex C G (.set i e) r = .nx r2 := by simp only [ex, h, R.fl_ok, h2]
theorem ev_bi1 {C : Calls} {G : List D} {b : Bi} {e : E} {r r1 : St} {d d' : D} (h : ev C G e r = .ok d r1) (h2 : b.g [d] = some d') : ev C G (.bi b [e]) r = .ok d' r1 := by simp only [ev, evs, h, R.bind_ok, h2, R.of_some]
theorem ev_mt {C : Calls} {G : List D} {m : Mt} {o e : E} {r r1 r2 : St} {s : List Nat} {y d : D} (h : ev C G o r = .ok (.str s) r1) (h2 : ev C G e r1 = .ok y r2) (h3 : m.f s y = some d) : ev C G (.mt m o e) r = .ok d r2 := by simp only [ev, h, R.bind_ok, h2, h3, R.of_some]
theorem ev_bin {C : Calls} {G : List D} {o : Op} {a b : E} {r r1 r2 : St} {x y d : D} (h : ev C G a r = .ok x r1) (h2 : ev C G b r1 = .ok y r2) (h3 : o.g x y = some d) : ev C G (.bin o a b) r = .ok d r2 := by simp only [ev, h, R.bind_ok, h2, h3, R.of_some]
theorem g_mul {a b : Int} (ha : a.natAbs < BIG) (hb : b.natAbs < BIG) : Op.g .mul (.int a) (.int b) = some (.int (a * b)) := by
  show (if a.natAbs < BIG ∧ b.natAbs < BIG then some (D.int (a * b)) else none) = _
  rw [if_pos ⟨ha, hb⟩]
theorem g_mod {a b : Int} (hb : 0 < b) : Op.g .mod (.int a) (.int b) = some (.int (a % b)) := by
  show (if 0 < b then some (D.int (a % b)) else none) = _
  rw [if_pos hb]
theorem g_div {a b : Int} (h : 0 < b) (hb : b.natAbs < BIG) : Op.g .div (.int a) (.int b) = some (.int (a / b)) := by
  show (if 0 < b ∧ b.natAbs < BIG then some (D.int (a / b)) else none) = _
  rw [if_pos ⟨h, hb⟩]
theorem evs_ok {C : Calls} {G : List D} {e : E} {es : List E} {r r1 r2 : St} {d : D} {l : List D} (h : ev C G e r = .ok d r1) (h2 : evs C G es r1 = .ok l r2) : evs C G (e :: es) r = .ok (d :: l) r2 := by simp only [evs, h, R.bind_ok, h2]
theorem evs_nil {C : Calls} {G : List D} {r : St} : evs C G [] r = .ok [] r := by simp only [evs]
theorem ev_int {C : Calls} {G : List D} {r : St} {i : Int} : ev C G (.int i) r = .ok (.int i) r := by simp only [ev]
theorem ev_lst {C : Calls} {G : List D} {es : List E} {r r1 : St} {l : List D} (h : evs C G es r = .ok l r1) (hl : l.length ≤ LINE) : ev C G (.lst es) r = .ok (.lst l) r1 := by simp only [ev, h, R.bind_ok, hl, if_true]
theorem ev_call {C : Calls} {G : List D} {f : Nat} {es : List E} {r r1 : St} {l o : List D} {d : D} (h : evs C G es r = .ok l r1) (hc : C f (l.map .val) = .ret d o) : ev C G (.call f es) r = .ok d r1 := by simp only [ev, h, R.bind_ok, hc, CR.val]
theorem ev_comp {C : Calls} {G : List D} {e : E} {t : Tg} {it : I} {c : Option E} {ow : List Nat} {r : St} : ev C G (.comp e t it c ow) r = compR (evi C G it) t (evc C G c) (ev C G e) ow r := by simp only [ev]
theorem compR_of {fi : St → R (List D)} {t : Tg} {fc fe : St → R D} {ow : List Nat} {r r1 r2 : St} {xs l : List D} (h1 : fi r = .ok xs r1) (h2 : compL (compB t fc fe ow) xs [] (wipeS ow r1) = .ok l r2) : compR fi t fc fe ow r = .ok (.lst l) (backS ow r1 r2) := by simp only [compR, h1, R.bind_ok, h2]
theorem run_rt {C : Calls} {G : List D} {f : Fn} {as : List Slot} {r : St} {d : D} {o : List D} (h0 : as.length = f.np) (h : exs C G f.body (as ++ List.replicate (f.nl - f.np) .no) = .rt d r) (ho : outOf as r = some o) : runFn C G f as = .ret d o := by
  unfold runFn
  rw [if_pos h0, h]
  simp only [ho]
namespace L
theorem call_of {n i : Nat} {f : Fn} (h : fns[i]? = some f) (as : List Slot) : callN P (n + 1) i as = runFn (callN P n) G f as := by
  simp only [callN, P, h]
theorem take_ok {n : Nat} {a l : Int} (h0 : 0 < l) (h1 : l.natAbs < BIG) : callN P (n + 1) 12 [.io [.int a], .val (.int l)] = .ret (.int (a % l)) [.int (a / l)] := by
  simp [callN, L.P, L.fns, runFn, L.G, exs, ex, ev, evs, evi, evc, evo, pkv, idxD, atL, rdv, Op.g, Op.f, addD, subD, mulN, mulD, modD, divD, setv, setTg, iov, outOf, R.of, Cp.f, eqD, shal, eqd, lenD, tru, inD, isiD, CR.val, CR.valio, CR.valK, setio, Bi.g, Bi.f, rng1, revD, b__law_take, h0, h1]
theorem letters_ok {n : Nat} {i : Int} : callN P (n + 1) 5 [.val (.int i)] = .ret (.str (if i % 2 = 0 then [97, 45, 98] else [98, 45, 97])) [] := by
  by_cases h : i % 2 = 0
  · simp [callN, L.P, L.fns, runFn, L.G, exs, ex, ev, evs, evi, evc, evo, pkv, idxD, atL, rdv, Op.g, Op.f, addD, subD, mulN, mulD, modD, divD, setv, setTg, iov, outOf, R.of, Cp.f, eqD, shal, eqd, lenD, tru, inD, isiD, CR.val, CR.valio, CR.valK, setio, Bi.g, Bi.f, rng1, revD, b_letters_at, h]
  · have h' : (i % 2 == 0) = false := by simpa using h
    simp [callN, L.P, L.fns, runFn, L.G, exs, ex, ev, evs, evi, evc, evo, pkv, idxD, atL, rdv, Op.g, Op.f, addD, subD, mulN, mulD, modD, divD, setv, setTg, iov, outOf, R.of, Cp.f, eqD, shal, eqd, lenD, tru, inD, isiD, CR.val, CR.valio, CR.valK, setio, Bi.g, Bi.f, rng1, revD, b_letters_at, h, h']
theorem loop_pow {n : Nat} {C : Calls} {e : E} {r : Nat} (h : r ≤ 1000) (he : ∀ k s0 s2, k ≤ 1000 → ev C G e [s0, .val (.int (3 ^ k)), s2] = .ok (.int (3 ^ (k + 1))) [s0, .val (.int (3 ^ k)), s2]) :
    ∃ s, forL (exs C G [.set 1 e]) (.one 2) (rngL 0 r) [.val (.int r), .val (.int 1), .no] = .nx [.val (.int r), .val (.int (3 ^ r)), s] := by
  obtain ⟨r', e1, s, e2, e3⟩ := forL_inv (b := exs C G [.set 1 e]) (tg := .one 2) (fun k st => ∃ s, st = [.val (.int r), .val (.int (3 ^ k)), s] ∧ (∀ l, s ≠ .io l)) (rngL 0 r) 0 [.val (.int r), .val (.int 1), .no] ⟨.no, rfl, fun l z => by cases z⟩ (fun j x st ⟨s, e1, e2⟩ hx => by
    obtain ⟨rfl, hj⟩ := rngL_get? hx
    subst e1
    refine ⟨[.val (.int r), .val (.int (3 ^ j)), .val (.int (0 + j))], [.val (.int r), .val (.int (3 ^ (j + 1))), .val (.int (0 + j))], ?_, ?_, ?_⟩
    · cases s <;> first | (simp [setTg, setv]; done) | exact absurd rfl (e2 _)
    · simp [exs, ex, he j _ _ (by omega), setv]
    · exact ⟨.val (.int (0 + j)), by simp, fun l z => by cases z⟩)
  subst e2
  exact ⟨s, by rw [e1]; simp [rngL_len']⟩
theorem pow_ok {n r : Nat} (h : r ≤ 900) : callN P (n + 1) 4 [.val (.int r)] = .ret (.int (3 ^ r)) [] := by
  obtain ⟨s, e⟩ := loop_pow (n := n) (C := callN P n) (e := .bin .mul (.var 1) (.int 3)) (r := r) (by omega) fun k s0 s2 hk => by
    have := (pow3_big hk).2
    have t2 : (3 : Nat) ^ k < BIG := by rw [(pow3_big hk).1] at this; simpa using this
    simp [callN, L.P, L.fns, runFn, L.G, exs, ex, ev, evs, evi, evc, evo, pkv, idxD, atL, rdv, Op.g, Op.f, addD, subD, mulN, mulD, modD, divD, setv, setTg, iov, outOf, R.of, Cp.f, eqD, shal, eqd, lenD, tru, inD, isiD, CR.val, CR.valio, CR.valK, setio, Bi.g, Bi.f, rng1, revD, this, t2, big3, Int.pow_succ]
  have sm : small (r : Int) = true := by unfold small; simp; omega
  rw [call_of (f := ⟨1, 3, b_power⟩) rfl]
  refine run_rt (r := [.val (.int r), .val (.int (3 ^ r)), s]) rfl ?_ rfl
  show exs (callN P n) G b_power [.val (.int r), .no, .no] = _
  unfold b_power
  rw [exs_nx (r1 := [.val (.int r), .val (.int 1), .no]) (by simp [callN, L.P, L.fns, runFn, L.G, exs, ex, ev, evs, evi, evc, evo, pkv, idxD, atL, rdv, Op.g, Op.f, addD, subD, mulN, mulD, modD, divD, setv, setTg, iov, outOf, R.of, Cp.f, eqD, shal, eqd, lenD, tru, inD, isiD, CR.val, CR.valio, CR.valK, setio, Bi.g, Bi.f, rng1, revD]), exs_nx ((ex_loop (xs := rngL 0 r) (r1 := [.val (.int r), .val (.int 1), .no]) (by simp [callN, L.P, L.fns, runFn, L.G, exs, ex, ev, evs, evi, evc, evo, pkv, idxD, atL, rdv, Op.g, Op.f, addD, subD, mulN, mulD, modD, divD, setv, setTg, iov, outOf, R.of, Cp.f, eqD, shal, eqd, lenD, tru, inD, isiD, CR.val, CR.valio, CR.valK, setio, Bi.g, Bi.f, rng1, revD, sm])).trans e)]
  simp [callN, L.P, L.fns, runFn, L.G, exs, ex, ev, evs, evi, evc, evo, pkv, idxD, atL, rdv, Op.g, Op.f, addD, subD, mulN, mulD, modD, divD, setv, setTg, iov, outOf, R.of, Cp.f, eqD, shal, eqd, lenD, tru, inD, isiD, CR.val, CR.valio, CR.valK, setio, Bi.g, Bi.f, rng1, revD]
theorem pow_ok2 {n r : Nat} (h : r ≤ 900) : callN P (n + 1) 14 [.val (.int r)] = .ret (.int (3 ^ r)) [] := by
  obtain ⟨s, e⟩ := loop_pow (n := n) (C := callN P n) (e := .bin .mul (.int 3) (.var 1)) (r := r) (by omega) fun k s0 s2 hk => by
    have := (pow3_big hk).2
    have t2 : (3 : Nat) ^ k < BIG := by rw [(pow3_big hk).1] at this; simpa using this
    simp [callN, L.P, L.fns, runFn, L.G, exs, ex, ev, evs, evi, evc, evo, pkv, idxD, atL, rdv, Op.g, Op.f, addD, subD, mulN, mulD, modD, divD, setv, setTg, iov, outOf, R.of, Cp.f, eqD, shal, eqd, lenD, tru, inD, isiD, CR.val, CR.valio, CR.valK, setio, Bi.g, Bi.f, rng1, revD, this, t2, big3, Int.pow_succ, Int.mul_comm]
  have sm : small (r : Int) = true := by unfold small; simp; omega
  rw [call_of (f := ⟨1, 3, b__law_power⟩) rfl]
  refine run_rt (r := [.val (.int r), .val (.int (3 ^ r)), s]) rfl ?_ rfl
  show exs (callN P n) G b__law_power [.val (.int r), .no, .no] = _
  unfold b__law_power
  rw [exs_nx (r1 := [.val (.int r), .val (.int 1), .no]) (by simp [callN, L.P, L.fns, runFn, L.G, exs, ex, ev, evs, evi, evc, evo, pkv, idxD, atL, rdv, Op.g, Op.f, addD, subD, mulN, mulD, modD, divD, setv, setTg, iov, outOf, R.of, Cp.f, eqD, shal, eqd, lenD, tru, inD, isiD, CR.val, CR.valio, CR.valK, setio, Bi.g, Bi.f, rng1, revD]), exs_nx ((ex_loop (xs := rngL 0 r) (r1 := [.val (.int r), .val (.int 1), .no]) (by simp [callN, L.P, L.fns, runFn, L.G, exs, ex, ev, evs, evi, evc, evo, pkv, idxD, atL, rdv, Op.g, Op.f, addD, subD, mulN, mulD, modD, divD, setv, setTg, iov, outOf, R.of, Cp.f, eqD, shal, eqd, lenD, tru, inD, isiD, CR.val, CR.valio, CR.valK, setio, Bi.g, Bi.f, rng1, revD, sm])).trans e)]
  simp [callN, L.P, L.fns, runFn, L.G, exs, ex, ev, evs, evi, evc, evo, pkv, idxD, atL, rdv, Op.g, Op.f, addD, subD, mulN, mulD, modD, divD, setv, setTg, iov, outOf, R.of, Cp.f, eqD, shal, eqd, lenD, tru, inD, isiD, CR.val, CR.valio, CR.valK, setio, Bi.g, Bi.f, rng1, revD]
def Lt (c : Nat) : Prop := c = 97 ∨ c = 45 ∨ c = 98
def of (c : Nat) : Int := if c = 97 then 0 else if c = 45 then 1 else 2
def dg (a : Int) (c : Nat) : Int := if a % 2 = 0 then of c else 2 - of c
def stp (a : Int) (c : Nat) : Int := 3 * a + dg a c
def idx (w : List Nat) : Int := w.foldl stp 0
theorem of_le {c : Nat} : 0 ≤ of c ∧ of c ≤ 2 := by unfold of; split <;> (try split) <;> omega
theorem dg_le {a : Int} {c : Nat} : 0 ≤ dg a c ∧ dg a c ≤ 2 := by
  have := @of_le c
  unfold dg; split <;> omega
theorem six_dg {a : Int} {c : Nat} (h : Lt c) : ∃ k : Nat, six c (if a % 2 = 0 then [97, 45, 98] else [98, 45, 97]) = some k ∧ (k : Int) = dg a c := by
  unfold dg
  rcases h with rfl | rfl | rfl <;> split <;> first | exact ⟨0, rfl, rfl⟩ | exact ⟨1, rfl, rfl⟩ | exact ⟨2, rfl, rfl⟩
theorem of_big {a : Int} {j : Nat} (h0 : 0 ≤ a) (h : a < 3 ^ j) (hj : j ≤ 900) : a.natAbs < BIG := by
  have := (pow3_big (k := j) (by omega)).2
  omega
theorem stp_le {a : Int} {j c : Nat} (h0 : 0 ≤ a) (h : a < 3 ^ j) : 0 ≤ stp a c ∧ stp a c < 3 ^ (j + 1) := by
  have := @dg_le a c
  unfold stp
  rw [Int.pow_succ]
  omega
theorem fold_le : ∀ {w : List Nat} {a : Int} {j : Nat}, 0 ≤ a → a < 3 ^ j → 0 ≤ w.foldl stp a ∧ w.foldl stp a < 3 ^ (j + w.length)
  | [], a, j, h0, h => ⟨h0, by simpa using h⟩
  | c :: w, a, j, h0, h => by
    obtain ⟨h1, h2⟩ := stp_le (c := c) h0 h
    have := fold_le (w := w) h1 h2
    rw [show j + 1 + w.length = j + (c :: w).length by simp; omega] at this
    exact this
theorem idx_le {w : List Nat} : 0 ≤ idx w ∧ idx w < 3 ^ w.length := by
  have := fold_le (w := w) (a := 0) (j := 0) (by decide) (by decide)
  simpa [idx] using this
theorem loop_from {n : Nat} {v : Slot} : ∀ (w : List Nat) (a : Int) (j : Nat) (s : Slot), (∀ c ∈ w, Lt c) → 0 ≤ a → a < 3 ^ j → j + w.length ≤ 900 → (∀ l, s ≠ .io l) →
    ∃ s', forL (exs (callN P (n + 1)) G [.set 1 (.bin .add (.bin .mul (.int 3) (.var 1)) (.mt .index (.call 5 [.var 1]) (.var 2)))]) (.one 2) (w.map fun c => .str [c]) [v, .val (.int a), s] = .nx [v, .val (.int (w.foldl stp a)), s']
  | [], a, j, s, _, _, _, _, _ => ⟨s, rfl⟩
  | c :: w, a, j, s, hw, h0, h, hj, hs => by
    simp only [List.length_cons] at hj
    obtain ⟨k, e1, e2⟩ := six_dg (a := a) (hw c List.mem_cons_self)
    obtain ⟨h1, h2⟩ := stp_le (c := c) h0 h
    obtain ⟨s', e⟩ := loop_from (n := n) (v := v) w (stp a c) (j + 1) (.val (.str [c])) (fun x hx => hw x (List.mem_cons_of_mem _ hx)) h1 h2 (by omega) (fun l z => by cases z)
    refine ⟨s', ?_⟩
    have t1 : setTg (.one 2) (.str [c]) [v, .val (.int a), s] = some [v, .val (.int a), .val (.str [c])] := by
      cases s <;> first | (simp [setTg, setv]; done) | exact absurd rfl (hs _)
    have bg := of_big h0 h (by omega)
    have t2 : exs (callN P (n + 1)) G [.set 1 (.bin .add (.bin .mul (.int 3) (.var 1)) (.mt .index (.call 5 [.var 1]) (.var 2)))] [v, .val (.int a), .val (.str [c])] = .nx [v, .val (.int (stp a c)), .val (.str [c])] := by
      have l5 := letters_ok (n := n) (i := a)
      simp [exs, ex, ev, evs, rdv, l5, CR.val, Op.g, mulN, mulD, Op.f, addD, bg, big3, R.of, Mt.f, e1, setv, stp, ← e2]
    simp only [List.map_cons, forL, t1, t2, e]
    rfl
theorem from_ok {n : Nat} {w : List Nat} (h : ∀ c ∈ w, Lt c) (hl : w.length ≤ 900) : callN P (n + 2) 6 [.val (.str w)] = .ret (.int (idx w)) [] := by
  obtain ⟨s, e⟩ := loop_from (n := n) (v := .val (.str w)) w 0 0 .no h (by decide) (by decide) (by omega) (fun l z => by cases z)
  rw [call_of (f := ⟨1, 3, b_index_from⟩) rfl]
  refine run_rt (r := [.val (.str w), .val (.int (idx w)), s]) rfl ?_ rfl
  show exs (callN P (n + 1)) G b_index_from [.val (.str w), .no, .no] = _
  unfold b_index_from
  rw [exs_nx (r1 := [.val (.str w), .val (.int 0), .no]) (by simp [callN, L.P, L.fns, runFn, L.G, exs, ex, ev, evs, evi, evc, evo, pkv, idxD, atL, rdv, Op.g, Op.f, addD, subD, mulN, mulD, modD, divD, setv, setTg, iov, outOf, R.of, Cp.f, eqD, shal, eqd, lenD, tru, inD, isiD, CR.val, CR.valio, CR.valK, setio, Bi.g, Bi.f, rng1, revD]), exs_nx ((ex_loop (xs := w.map fun c => .str [c]) (r1 := [.val (.str w), .val (.int 0), .no]) (by simp [callN, L.P, L.fns, runFn, L.G, exs, ex, ev, evs, evi, evc, evo, pkv, idxD, atL, rdv, Op.g, Op.f, addD, subD, mulN, mulD, modD, divD, setv, setTg, iov, outOf, R.of, Cp.f, eqD, shal, eqd, lenD, tru, inD, isiD, CR.val, CR.valio, CR.valK, setio, Bi.g, Bi.f, rng1, revD, itemsD])).trans e)]
  simp [callN, L.P, L.fns, runFn, L.G, exs, ex, ev, evs, evi, evc, evo, pkv, idxD, atL, rdv, Op.g, Op.f, addD, subD, mulN, mulD, modD, divD, setv, setTg, iov, outOf, R.of, Cp.f, eqD, shal, eqd, lenD, tru, inD, isiD, CR.val, CR.valio, CR.valK, setio, Bi.g, Bi.f, rng1, revD, idx]
theorem dl_of {c : Nat} (h : Lt c) : dlook [[97], [45], [98]] [.int 0, .int 1, .int 2] [c] = some (.int (of c)) := by
  rcases h with rfl | rfl | rfl <;> rfl
theorem loop_spot {n : Nat} {v : Slot} : ∀ (w : List Nat) (a : Int) (j : Nat) (s s2 : Slot), (∀ c ∈ w, Lt c) → 0 ≤ a → a < 3 ^ j → j + w.length ≤ 900 → (∀ l, s ≠ .io l) → (∀ l, s2 ≠ .io l) →
    ∃ s' s2', forL (exs (callN P n) G [.set 3 (.dsub [[97], [45], [98]] [.int 0, .int 1, .int 2] (.var 2)), .set 1 (.bin .add (.bin .mul (.int 3) (.var 1)) (.ite (.cmp .eq (.bin .mod (.var 1) (.int 2)) (.int 0)) (.var 3) (.bin .sub (.int 2) (.var 3))))]) (.one 2) (w.map fun c => .str [c]) [v, .val (.int a), s, s2] = .nx [v, .val (.int (w.foldl stp a)), s', s2']
  | [], a, j, s, s2, _, _, _, _, _, _ => ⟨s, s2, rfl⟩
  | c :: w, a, j, s, s2, hw, h0, h, hj, hs, hs2 => by
    simp only [List.length_cons] at hj
    obtain ⟨h1, h2⟩ := stp_le (c := c) h0 h
    obtain ⟨s', s2', e⟩ := loop_spot (n := n) (v := v) w (stp a c) (j + 1) (.val (.str [c])) (.val (.int (of c))) (fun x hx => hw x (List.mem_cons_of_mem _ hx)) h1 h2 (by omega) (fun l z => by cases z) (fun l z => by cases z)
    refine ⟨s', s2', ?_⟩
    have t1 : setTg (.one 2) (.str [c]) [v, .val (.int a), s, s2] = some [v, .val (.int a), .val (.str [c]), s2] := by
      cases s <;> first | (simp [setTg, setv]; done) | exact absurd rfl (hs _)
    have bg := of_big h0 h (by omega)
    have t3 : setv 3 (.val (.int (of c))) [v, .val (.int a), .val (.str [c]), s2] = some [v, .val (.int a), .val (.str [c]), .val (.int (of c))] := by
      cases s2 <;> first | (simp [setv]; done) | exact absurd rfl (hs2 _)
    have t2 : exs (callN P n) G [.set 3 (.dsub [[97], [45], [98]] [.int 0, .int 1, .int 2] (.var 2)), .set 1 (.bin .add (.bin .mul (.int 3) (.var 1)) (.ite (.cmp .eq (.bin .mod (.var 1) (.int 2)) (.int 0)) (.var 3) (.bin .sub (.int 2) (.var 3))))] [v, .val (.int a), .val (.str [c]), s2] = .nx [v, .val (.int (stp a c)), .val (.str [c]), .val (.int (of c))] := by
      have dl := dl_of (hw c List.mem_cons_self)
      have e3 : ex (callN P n) G (.set 3 (.dsub [[97], [45], [98]] [.int 0, .int 1, .int 2] (.var 2))) [v, .val (.int a), .val (.str [c]), s2] = .nx [v, .val (.int a), .val (.str [c]), .val (.int (of c))] := by
        simp only [ex, ev, rdv, List.getElem?_cons_succ, List.getElem?_cons_zero, R.bind_ok, dl, R.of_some, R.fl_ok, t3]
      rw [exs_nx e3]
      by_cases hm : a % 2 = 0
      · simp [exs, ex, ev, rdv, Op.g, mulN, mulD, Op.f, addD, subD, modD, bg, big3, R.of, setv, stp, dg, Cp.f, eqD, shal, eqd, hm]
      · have hm' : (a % 2 == 0) = false := by simpa using hm
        simp [exs, ex, ev, rdv, Op.g, mulN, mulD, Op.f, addD, subD, modD, bg, big3, R.of, setv, stp, dg, Cp.f, eqD, shal, eqd, hm, hm']
    simp only [List.map_cons, forL, t1, t2, e]
    rfl
theorem spot_ok {n : Nat} {w : List Nat} (h : ∀ c ∈ w, Lt c) (hl : w.length ≤ 900) : callN P (n + 1) 15 [.val (.str w)] = .ret (.int (idx w)) [] := by
  obtain ⟨s, s2, e⟩ := loop_spot (n := n) (v := .val (.str w)) w 0 0 .no .no h (by decide) (by decide) (by omega) (fun l z => by cases z) (fun l z => by cases z)
  rw [call_of (f := ⟨1, 4, b__law_spot⟩) rfl]
  refine run_rt (r := [.val (.str w), .val (.int (idx w)), s, s2]) rfl ?_ rfl
  show exs (callN P n) G b__law_spot [.val (.str w), .no, .no, .no] = _
  unfold b__law_spot
  rw [exs_nx (r1 := [.val (.str w), .val (.int 0), .no, .no]) (by simp [callN, L.P, L.fns, runFn, L.G, exs, ex, ev, evs, evi, evc, evo, pkv, idxD, atL, rdv, Op.g, Op.f, addD, subD, mulN, mulD, modD, divD, setv, setTg, iov, outOf, R.of, Cp.f, eqD, shal, eqd, lenD, tru, inD, isiD, CR.val, CR.valio, CR.valK, setio, Bi.g, Bi.f, rng1, revD]), exs_nx ((ex_loop (xs := w.map fun c => .str [c]) (r1 := [.val (.str w), .val (.int 0), .no, .no]) (by simp [callN, L.P, L.fns, runFn, L.G, exs, ex, ev, evs, evi, evc, evo, pkv, idxD, atL, rdv, Op.g, Op.f, addD, subD, mulN, mulD, modD, divD, setv, setTg, iov, outOf, R.of, Cp.f, eqD, shal, eqd, lenD, tru, inD, isiD, CR.val, CR.valio, CR.valK, setio, Bi.g, Bi.f, rng1, revD, itemsD])).trans e)]
  simp [callN, L.P, L.fns, runFn, L.G, exs, ex, ev, evs, evi, evc, evo, pkv, idxD, atL, rdv, Op.g, Op.f, addD, subD, mulN, mulD, modD, divD, setv, setTg, iov, outOf, R.of, Cp.f, eqD, shal, eqd, lenD, tru, inD, isiD, CR.val, CR.valio, CR.valK, setio, Bi.g, Bi.f, rng1, revD, idx]
/-! is_word -/
def isW (w : List Nat) : Bool := w.all fun c => [97, 45, 98].contains c
theorem isint_ok {n : Nat} {i : Int} : callN P (n + 1) 0 [.val (.int i)] = .ret (.bl true) [] := by simp [callN, L.P, L.fns, runFn, L.G, exs, ex, ev, evs, evi, evc, evo, pkv, idxD, atL, rdv, Op.g, Op.f, addD, subD, mulN, mulD, modD, divD, setv, setTg, iov, outOf, R.of, Cp.f, eqD, shal, eqd, lenD, tru, inD, isiD, CR.val, CR.valio, CR.valK, setio, Bi.g, Bi.f, rng1, revD, b_is_integer]
theorem comp_isw {C : Calls} {G' : List D} {e : E} {v : Slot} (he : ∀ (c : Nat) v, ev C G' e [v, .val (.str [c])] = .ok (.bl ([97, 45, 98].contains c)) [v, .val (.str [c])]) : ∀ (w : List Nat) (acc : List D) (v : Slot), acc.length + w.length ≤ LINE →
    compL (compB (.one 1) (evc C G' none) (ev C G' e) [1]) (w.map fun c => .str [c]) acc [v, .no] = .ok (acc ++ w.map fun c => .bl ([97, 45, 98].contains c)) [v, .no]
  | [], acc, v, _ => by simp [compL]
  | c :: w, acc, v, h => by
    simp only [List.length_cons] at h
    have ih := comp_isw (v := v) he w (acc ++ [.bl ([97, 45, 98].contains c)]) v (by simp; omega)
    have t : compB (.one 1) (evc C G' none) (ev C G' e) [1] (.str [c]) [v, .no] = .ok (some (.bl ([97, 45, 98].contains c))) [v, .no] := by
      simp [compB, setTg, setv, evc, he, wipeS]
    simp only [List.map_cons, compL, t]
    rw [if_pos (by omega), ih]
    simp
theorem bls_all (w : List Nat) : blsOf (w.map fun c => D.bl ([97, 45, 98].contains c)) = some (w.map fun c => [97, 45, 98].contains c) := by
  induction w with
  | nil => rfl
  | cons c w ih => simp only [List.map_cons, blsOf, ih, Option.map_some]
theorem isword_str {n : Nat} {w : List Nat} : callN P (n + 1) 2 [.val (.str w)] = .ret (.bl (decide (w.length ≤ 60) && isW w)) [] := by
  rw [call_of (f := ⟨1, 2, b_is_word⟩) rfl]
  by_cases hl : (60 : Int) < w.length
  · refine run_rt (r := [.val (.str w), .no]) rfl ?_ rfl
    show exs (callN P n) G b_is_word [.val (.str w), .no] = _
    have h2 : ¬ w.length ≤ 60 := by omega
    simp [callN, L.P, L.fns, runFn, L.G, exs, ex, ev, evs, evi, evc, evo, pkv, idxD, atL, rdv, Op.g, Op.f, addD, subD, mulN, mulD, modD, divD, setv, setTg, iov, outOf, R.of, Cp.f, eqD, shal, eqd, lenD, tru, inD, isiD, CR.val, CR.valio, CR.valK, setio, Bi.g, Bi.f, rng1, revD, b_is_word, hl, h2]
  · refine run_rt (r := [.val (.str w), .no]) rfl ?_ rfl
    show exs (callN P n) G b_is_word [.val (.str w), .no] = _
    have h2 : w.length ≤ 60 := by omega
    unfold b_is_word
    rw [exs_nx (r1 := [.val (.str w), .no]) (by simp [callN, L.P, L.fns, runFn, L.G, exs, ex, ev, evs, evi, evc, evo, pkv, idxD, atL, rdv, Op.g, Op.f, addD, subD, mulN, mulD, modD, divD, setv, setTg, iov, outOf, R.of, Cp.f, eqD, shal, eqd, lenD, tru, inD, isiD, CR.val, CR.valio, CR.valK, setio, Bi.g, Bi.f, rng1, revD, hl])]
    have c := comp_isw (C := callN P n) (G' := G) (e := .inn (.var 1) (.glo 0)) (v := .no) (fun c v => by simp [callN, L.P, L.fns, runFn, L.G, exs, ex, ev, evs, evi, evc, evo, pkv, idxD, atL, rdv, Op.g, Op.f, addD, subD, mulN, mulD, modD, divD, setv, setTg, iov, outOf, R.of, Cp.f, eqD, shal, eqd, lenD, tru, inD, isiD, CR.val, CR.valio, CR.valK, setio, Bi.g, Bi.f, rng1, revD]) w [] (.val (.str w)) (by unfold LINE; simp; omega)
    have h3 : evi (callN P n) G (.e (.var 0)) [.val (.str w), .no] = .ok (w.map fun c => .str [c]) [.val (.str w), .no] := by simp [callN, L.P, L.fns, runFn, L.G, exs, ex, ev, evs, evi, evc, evo, pkv, idxD, atL, rdv, Op.g, Op.f, addD, subD, mulN, mulD, modD, divD, setv, setTg, iov, outOf, R.of, Cp.f, eqD, shal, eqd, lenD, tru, inD, isiD, CR.val, CR.valio, CR.valK, setio, Bi.g, Bi.f, rng1, revD, itemsD]
    have c2 : ev (callN P n) G (.comp (.inn (.var 1) (.glo 0)) (.one 1) (.e (.var 0)) none [1]) [.val (.str w), .no] = .ok (.lst (w.map fun c => .bl ([97, 45, 98].contains c))) [.val (.str w), .no] := by
      rw [ev_comp, compR_of h3 c]
      rfl
    have c3 : Bi.g .all [.lst (w.map fun c => .bl ([97, 45, 98].contains c))] = some (.bl (isW w)) := by
      show (blsOf _).map _ = _
      rw [bls_all]
      simp only [Option.map_some, isW, List.all_map]
      rfl
    rw [exs_rt (ex_ret (ev_bi1 c2 c3))]
    simp [h2]
theorem isW_iff {w : List Nat} : isW w = true ↔ ∀ c ∈ w, Lt c := by
  unfold isW Lt
  simp
theorem checkw_ok {n : Nat} {w : List Nat} (h : ∀ c ∈ w, Lt c) (hl : w.length ≤ 60) : callN P (n + 2) 3 [.val (.str w)] = .ret .non [] := by
  have e := isword_str (n := n) (w := w)
  rw [isW_iff.mpr h, decide_eq_true hl] at e
  rw [call_of (f := ⟨1, 1, b_check_word⟩) rfl]
  simp [runFn, b_check_word, exs, ex, ev, evs, rdv, e, CR.val, outOf]
theorem indexof_ok {n : Nat} {w : List Nat} (h : ∀ c ∈ w, Lt c) (hl : w.length ≤ 60) : callN P (n + 3) 8 [.val (.str w)] = .ret (.int (idx w)) [] := by
  have e := checkw_ok (n := n) h hl
  have e2 := from_ok (n := n) h (by omega)
  rw [call_of (f := ⟨1, 1, b_index_of⟩) rfl]
  simp [runFn, b_index_of, exs, ex, ev, evs, rdv, e, e2, CR.val, outOf]
/-! word_from -/
theorem six_inv (a : Int) (k : Nat) (h : k ≤ 2) : ∃ c, Lt c ∧ (if a % 2 = 0 then [97, 45, 98] else [98, 45, 97])[k]? = some c ∧ dg a c = (k : Int) := by
  rcases (by omega : k = 0 ∨ k = 1 ∨ k = 2) with rfl | rfl | rfl <;> by_cases hm : a % 2 = 0 <;> simp only [hm, if_true, if_false]
  · exact ⟨97, .inl rfl, rfl, by simp [dg, of, hm]⟩
  · exact ⟨98, .inr (.inr rfl), rfl, by simp [dg, of, hm]⟩
  · exact ⟨45, .inr (.inl rfl), rfl, by simp [dg, of, hm]⟩
  · exact ⟨45, .inr (.inl rfl), rfl, by simp [dg, of, hm]⟩
  · exact ⟨98, .inr (.inr rfl), rfl, by simp [dg, of, hm]⟩
  · exact ⟨97, .inl rfl, rfl, by simp [dg, of, hm]⟩
theorem idx_snoc {w : List Nat} {c : Nat} : idx (w ++ [c]) = stp (idx w) c := by simp [idx]
def NI (s : Slot) : Prop := ∀ l, s ≠ .io l
theorem ni_val {d : D} : NI (.val d) := fun l z => by cases z
theorem ni_no : NI .no := fun l z => by cases z
theorem ni_own {l : List D} : NI (.own l) := fun l z => by cases z
theorem setv_ni {i : Nat} {s x : Slot} {r : St} (h : r[i]? = some s) (n : NI s) : setv i x r = some (r.set i x) := by
  unfold setv
  rw [h]
  cases s <;> first | rfl | exact absurd rfl (n _)
def bodyW : List S := [.set 5 (.call 4 [.bin .sub (.bin .sub (.var 0) (.var 4)) (.int 1)]), .set 6 (.idx (.call 5 [.var 3]) (.bin .sub (.bin .div (.var 1) (.var 5)) (.bin .mul (.int 3) (.var 3)))), .aug 2 .add (.var 6), .set 3 (.bin .div (.var 1) (.var 5))]
theorem step_word {n r k : Nat} {i : Int} {w : List Nat} {s5 s6 : Slot} (h0 : 0 ≤ i) (hi : i < 3 ^ r) (hr : r ≤ 60) (hk : k < r) (hl : w.length = k) (hw : idx w = i / 3 ^ (r - k)) (n5 : NI s5) (n6 : NI s6) :
    ∃ c, Lt c ∧ idx (w ++ [c]) = i / 3 ^ (r - (k + 1)) ∧ exs (callN P (n + 1)) G bodyW [.val (.int r), .val (.int i), .val (.str w), .val (.int (i / 3 ^ (r - k))), .val (.int k), s5, s6] =
      .nx [.val (.int r), .val (.int i), .val (.str (w ++ [c])), .val (.int (i / 3 ^ (r - (k + 1)))), .val (.int k), .val (.int (3 ^ (r - (k + 1)))), .val (.str [c])] := by
  have ep : (3 : Int) ^ (r - k) = 3 ^ (r - (k + 1)) * 3 := by rw [show r - k = (r - (k + 1)) + 1 by omega, Int.pow_succ]
  have pp : (0 : Int) < 3 ^ (r - (k + 1)) := Int.pow_pos (by decide)
  have eq3 : i / 3 ^ (r - k) = i / 3 ^ (r - (k + 1)) / 3 := by rw [ep, Int.ediv_ediv_of_nonneg (by omega)]
  have q0 : 0 ≤ i / 3 ^ (r - (k + 1)) := Int.ediv_nonneg h0 (by omega)
  obtain ⟨d, hd, hd2⟩ : ∃ d : Nat, d ≤ 2 ∧ (d : Int) = i / 3 ^ (r - (k + 1)) - 3 * (i / 3 ^ (r - k)) := ⟨(i / 3 ^ (r - (k + 1)) - 3 * (i / 3 ^ (r - k))).toNat, by rw [eq3]; omega, by rw [eq3]; omega⟩
  obtain ⟨c, hc, e1, e2⟩ := six_inv (i / 3 ^ (r - k)) d hd
  have hs : idx (w ++ [c]) = i / 3 ^ (r - (k + 1)) := by rw [idx_snoc, hw, stp, e2, hd2]; omega
  refine ⟨c, hc, hs, ?_⟩
  have big : (i / 3 ^ (r - k)).natAbs < BIG := of_big (j := r) (by rw [eq3]; omega) (by
    have : i / 3 ^ (r - k) ≤ i := Int.ediv_le_self _ h0
    omega) (by omega)
  have bp : ((3 : Int) ^ (r - (k + 1))).natAbs < BIG := (pow3_big (by omega)).2
  have ea : (r : Int) - k - 1 = ((r - (k + 1) : Nat) : Int) := by omega
  have x1 := pow_ok (n := n) (r := r - (k + 1)) (by omega)
  have x2 := letters_ok (n := n) (i := i / 3 ^ (r - k))
  have a1 : ex (callN P (n + 1)) G (.set 5 (.call 4 [.bin .sub (.bin .sub (.var 0) (.var 4)) (.int 1)])) [.val (.int r), .val (.int i), .val (.str w), .val (.int (i / 3 ^ (r - k))), .val (.int k), s5, s6] =
      .nx [.val (.int r), .val (.int i), .val (.str w), .val (.int (i / 3 ^ (r - k))), .val (.int k), .val (.int (3 ^ (r - (k + 1)))), s6] := by
    refine ex_set (r1 := [.val (.int r), .val (.int i), .val (.str w), .val (.int (i / 3 ^ (r - k))), .val (.int k), s5, s6]) (d := .int (3 ^ (r - (k + 1)))) ?_ (by rw [setv_ni (s := s5) rfl n5]; rfl)
    simp [ev, evs, rdv, Op.g, Op.f, subD, R.of, ea, x1, CR.val]
  have a2 : ex (callN P (n + 1)) G (.set 6 (.idx (.call 5 [.var 3]) (.bin .sub (.bin .div (.var 1) (.var 5)) (.bin .mul (.int 3) (.var 3))))) [.val (.int r), .val (.int i), .val (.str w), .val (.int (i / 3 ^ (r - k))), .val (.int k), .val (.int (3 ^ (r - (k + 1)))), s6] =
      .nx [.val (.int r), .val (.int i), .val (.str w), .val (.int (i / 3 ^ (r - k))), .val (.int k), .val (.int (3 ^ (r - (k + 1)))), .val (.str [c])] := by
    refine ex_set (r1 := [.val (.int r), .val (.int i), .val (.str w), .val (.int (i / 3 ^ (r - k))), .val (.int k), .val (.int (3 ^ (r - (k + 1)))), s6]) (d := .str [c]) ?_ (by rw [setv_ni (s := s6) rfl n6]; rfl)
    have ix : idxD (.str (if (i / 3 ^ (r - k)) % 2 = 0 then [97, 45, 98] else [98, 45, 97])) (.int (d : Nat)) = some (.str [c]) := by
      simp only [idxD, atL]
      rw [if_pos (by omega), Int.toNat_natCast, e1]
      rfl
    rw [hd2] at ix
    have m1 : Op.g .mul (.int 3) (.int (i / 3 ^ (r - k))) = some (.int (3 * (i / 3 ^ (r - k)))) := by
      show (if (3 : Int).natAbs < BIG ∧ (i / 3 ^ (r - k)).natAbs < BIG then _ else _) = _
      rw [if_pos ⟨big3, big⟩]
    have dv : Op.g .div (.int i) (.int (3 ^ (r - (k + 1)))) = some (.int (i / 3 ^ (r - (k + 1)))) := by
      show (if (0 : Int) < 3 ^ (r - (k + 1)) ∧ ((3 : Int) ^ (r - (k + 1))).natAbs < BIG then _ else _) = _
      rw [if_pos ⟨pp, bp⟩]
    have sb : Op.g .sub (.int (i / 3 ^ (r - (k + 1)))) (.int (3 * (i / 3 ^ (r - k)))) = some (.int (i / 3 ^ (r - (k + 1)) - 3 * (i / 3 ^ (r - k)))) := rfl
    simp only [ev, evs, rdv, List.getElem?_cons_succ, List.getElem?_cons_zero, R.bind_ok, List.map_cons, List.map_nil, x2, CR.val, m1, dv, sb, R.of_some, ix]
  unfold bodyW
  rw [exs_nx a1, exs_nx a2]
  have hlen : w.length + 1 ≤ LINE := by unfold LINE; omega
  have bn : (3 : Nat) ^ (r - (k + 1)) < BIG := by have h := bp; rw [(pow3_big (k := r - (k + 1)) (by omega)).1] at h; simpa using h
  simp [exs, ex, ev, rdv, augD, hlen, setv, Op.g, Op.f, divD, pp, bn, R.of]
theorem wordfrom_ok {n r : Nat} {i : Int} (h0 : 0 ≤ i) (hi : i < 3 ^ r) (hr : r ≤ 60) : ∃ w : List Nat, w.length = r ∧ (∀ c ∈ w, Lt c) ∧ idx w = i ∧ callN P (n + 2) 7 [.val (.int r), .val (.int i)] = .ret (.str w) [] := by
  obtain ⟨r', e1, w, s4, s5, s6, e2, l1, l2, l3, _⟩ := forL_inv (b := exs (callN P (n + 1)) G bodyW) (tg := .one 4)
    (fun k st => ∃ (w : List Nat) (s4 s5 s6 : Slot), st = [.val (.int r), .val (.int i), .val (.str w), .val (.int (i / 3 ^ (r - k))), s4, s5, s6] ∧ w.length = k ∧ (∀ c ∈ w, Lt c) ∧ idx w = i / 3 ^ (r - k) ∧ NI s4 ∧ NI s5 ∧ NI s6)
    (rngL 0 r) 0 [.val (.int r), .val (.int i), .val (.str []), .val (.int 0), .no, .no, .no]
    ⟨[], .no, .no, .no, (by rw [Nat.sub_zero, Int.ediv_eq_zero_of_lt h0 hi]), rfl, (fun c hc => by cases hc), (by rw [Nat.sub_zero, Int.ediv_eq_zero_of_lt h0 hi]; rfl), ni_no, ni_no, ni_no⟩
    (fun j x st ⟨w, s4, s5, s6, e, a1, a2, a3, a4, a5, a6⟩ hx => by
      obtain ⟨rfl, hj⟩ := rngL_get? hx
      rw [Nat.zero_add] at e a1 a3
      subst e
      obtain ⟨c, c1, c2, c3⟩ := step_word (n := n) (s5 := s5) (s6 := s6) h0 hi hr (by omega) a1 a3 a5 a6
      refine ⟨_, _, ?_, c3, ?_⟩
      · show setv 4 _ _ = _
        rw [setv_ni (s := s4) rfl a4]
        simp
      · rw [Nat.zero_add]
        exact ⟨w ++ [c], _, _, _, rfl, by simp [a1], fun x hx => by rcases List.mem_append.mp hx with hx | hx; exact a2 x hx; rw [List.mem_singleton.mp hx]; exact c1, c2, ni_val, ni_val, ni_val⟩)
  rw [rngL_len', Nat.zero_add, show ((r : Int) - 0).toNat = r by omega] at l1 l3
  refine ⟨w, l1, l2, by rw [l3]; simp, ?_⟩
  have sm : small (r : Int) = true := by unfold small; simp; omega
  subst e2
  rw [call_of (f := ⟨2, 7, b_word_from⟩) rfl]
  rw [rngL_len', Nat.zero_add, show ((r : Int) - 0).toNat = r by omega] at e1
  refine run_rt (r := [.val (.int r), .val (.int i), .val (.str w), .val (.int (i / 3 ^ (r - r))), s4, s5, s6]) rfl ?_ rfl
  show exs (callN P (n + 1)) G b_word_from [.val (.int r), .val (.int i), .no, .no, .no, .no, .no] = _
  unfold b_word_from
  unfold bodyW at e1
  rw [exs_nx (r1 := [.val (.int r), .val (.int i), .val (.str []), .no, .no, .no, .no]) (by simp [callN, L.P, L.fns, runFn, L.G, exs, ex, ev, evs, evi, evc, evo, pkv, idxD, atL, rdv, Op.g, Op.f, addD, subD, mulN, mulD, modD, divD, setv, setTg, iov, outOf, R.of, Cp.f, eqD, shal, eqd, lenD, tru, inD, isiD, CR.val, CR.valio, CR.valK, setio, Bi.g, Bi.f, rng1, revD]), exs_nx (r1 := [.val (.int r), .val (.int i), .val (.str []), .val (.int 0), .no, .no, .no]) (by simp [callN, L.P, L.fns, runFn, L.G, exs, ex, ev, evs, evi, evc, evo, pkv, idxD, atL, rdv, Op.g, Op.f, addD, subD, mulN, mulD, modD, divD, setv, setTg, iov, outOf, R.of, Cp.f, eqD, shal, eqd, lenD, tru, inD, isiD, CR.val, CR.valio, CR.valK, setio, Bi.g, Bi.f, rng1, revD]), exs_nx ((ex_loop (xs := rngL 0 r) (r1 := [.val (.int r), .val (.int i), .val (.str []), .val (.int 0), .no, .no, .no]) (by simp [callN, L.P, L.fns, runFn, L.G, exs, ex, ev, evs, evi, evc, evo, pkv, idxD, atL, rdv, Op.g, Op.f, addD, subD, mulN, mulD, modD, divD, setv, setTg, iov, outOf, R.of, Cp.f, eqD, shal, eqd, lenD, tru, inD, isiD, CR.val, CR.valio, CR.valK, setio, Bi.g, Bi.f, rng1, revD, sm])).trans e1)]
  exact exs_rt (ex_ret (by simp [ev, rdv]))
theorem idx_inj : ∀ {k : Nat} {w v : List Nat}, w.length = k → v.length = k → (∀ c ∈ w, Lt c) → (∀ c ∈ v, Lt c) → idx w = idx v → w = v
  | 0, w, v, a, b, _, _, _ => by rw [List.length_eq_zero_iff.mp a, List.length_eq_zero_iff.mp b]
  | k + 1, w, v, a, b, hw, hv, h => by
    obtain ⟨w', c, rfl⟩ : ∃ w' c, w = w' ++ [c] := ⟨w.dropLast, w.getLast (by intro z; rw [z] at a; cases a), (List.dropLast_concat_getLast _).symm⟩
    obtain ⟨v', d, rfl⟩ : ∃ v' d, v = v' ++ [d] := ⟨v.dropLast, v.getLast (by intro z; rw [z] at b; cases b), (List.dropLast_concat_getLast _).symm⟩
    rw [idx_snoc, idx_snoc] at h
    have h1 := @dg_le (idx w') c
    have h2 := @dg_le (idx v') d
    unfold stp at h
    have e : idx w' = idx v' := by omega
    have e2 := idx_inj (k := k) (by simpa using a) (by simpa using b) (fun x hx => hw x (by simp [hx])) (fun x hx => hv x (by simp [hx])) e
    subst e2
    have e3 : dg (idx w') c = dg (idx w') d := by omega
    have hc : Lt c := hw c (by simp)
    have hd : Lt d := hv d (by simp)
    have : of c = of d := by unfold dg at e3; split at e3 <;> omega
    rcases hc with rfl | rfl | rfl <;> rcases hd with rfl | rfl | rfl <;> first | rfl | (simp [of] at this)
theorem checkr_ok {n r : Nat} (h : r ≤ 60) : callN P (n + 2) 1 [.val (.int r)] = .ret .non [] := by
  have e := isint_ok (n := n) (i := r)
  have h2 : (r : Int) ≤ 60 := by omega
  rw [call_of (f := ⟨1, 1, b_check_rounds⟩) rfl]
  simp [runFn, b_check_rounds, exs, ex, ev, evs, rdv, e, CR.val, outOf, Cp.f, G, R.of, h2, tru]
/-- word_at -/
theorem wordat_ok {n r : Nat} {i : Int} (h0 : 0 ≤ i) (hi : i < 3 ^ r) (hr : r ≤ 60) : ∃ w : List Nat, w.length = r ∧ (∀ c ∈ w, Lt c) ∧ idx w = i ∧ callN P (n + 3) 9 [.val (.int r), .val (.int i)] = .ret (.str w) [] := by
  obtain ⟨w, a1, a2, a3, a4⟩ := wordfrom_ok (n := n) h0 hi hr
  refine ⟨w, a1, a2, a3, ?_⟩
  have e1 := checkr_ok (n := n) hr
  have e2 := isint_ok (n := n + 1) (i := i)
  have e3 := pow_ok (n := n + 1) (r := r) (by omega)
  rw [call_of (f := ⟨2, 2, b_word_at⟩) rfl]
  simp [runFn, b_word_at, exs, ex, ev, evs, rdv, e1, e2, e3, a4, CR.val, outOf, Cp.f, R.of, h0, hi, tru]
theorem wordat_idx {n : Nat} {w : List Nat} (h : ∀ c ∈ w, Lt c) (hr : w.length ≤ 60) : callN P (n + 3) 9 [.val (.int w.length), .val (.int (idx w))] = .ret (.str w) [] := by
  obtain ⟨v, a1, a2, a3, a4⟩ := wordat_ok (n := n) (r := w.length) (i := idx w) idx_le.1 idx_le.2 hr
  rw [a4, idx_inj a1 rfl a2 h a3]
theorem eqD_int {a b : Int} : eqD (.int a) (.int b) = some (a == b) := by simp [eqD, shal, eqd]
theorem eqD_str {a b : List Nat} : eqD (.str a) (.str b) = some (a == b) := by simp [eqD, shal, eqd]
theorem eqD_bl {a b : Bool} : eqD (.bl a) (.bl b) = some (a == b) := by simp [eqD, shal, eqd]
theorem good_ok {n : Nat} {w : List Nat} (h : ∀ c ∈ w, Lt c) (hr : w.length ≤ 60) : callN P (n + 4) 16 [.val (.str w)] = .ret (.bl true) [] := by
  have e1 := spot_ok (n := n + 2) h (by omega)
  have e2 := indexof_ok (n := n) h hr
  have e3 := wordat_idx (n := n) h hr
  rw [call_of (f := ⟨1, 3, b__law_good⟩) rfl]
  simp [runFn, b__law_good, exs, ex, ev, evs, rdv, pkv, lenD, e1, e2, e3, CR.val, CR.valK, outOf, Cp.f, eqD_int, eqD_str, R.of, tru, setv, isiD]
/-! is_word and _law_is on anything -/
theorem comp_isw2 {C : Calls} {G' : List D} {e : E} {v : Slot} {g : Nat → Bool} (he : ∀ (c : Nat) v, ev C G' e [v, .val (.str [c])] = .ok (.bl (g c)) [v, .val (.str [c])]) : ∀ (w : List Nat) (acc : List D) (v : Slot), acc.length + w.length ≤ LINE →
    compL (compB (.one 1) (evc C G' none) (ev C G' e) [1]) (w.map fun c => .str [c]) acc [v, .no] = .ok (acc ++ w.map fun c => .bl (g c)) [v, .no]
  | [], acc, v, _ => by simp [compL]
  | c :: w, acc, v, h => by
    simp only [List.length_cons] at h
    have ih := comp_isw2 (v := v) he w (acc ++ [.bl (g c)]) v (by simp; omega)
    have t : compB (.one 1) (evc C G' none) (ev C G' e) [1] (.str [c]) [v, .no] = .ok (some (.bl (g c))) [v, .no] := by
      simp [compB, setTg, setv, evc, he, wipeS]
    simp only [List.map_cons, compL, t]
    rw [if_pos (by omega), ih]
    simp
theorem bls_all2 (g : Nat → Bool) (w : List Nat) : blsOf (w.map fun c => D.bl (g c)) = some (w.map g) := by
  induction w with
  | nil => rfl
  | cons c w ih => simp only [List.map_cons, blsOf, ih, Option.map_some]
theorem in_tup (c : Nat) : inD (.str [c]) (.tup [.str [97], .str [45], .str [98]]) = some ([97, 45, 98].contains c) := by
  have e : ∀ k : Nat, eqd (.str [k]) (.str [c]) = (k == c) := fun k => by simp [eqd]
  simp only [inD, shal, List.all_cons, List.all_nil, Bool.and_self, if_true, List.any_cons, List.any_nil, e]
  congr 1
  have e2 : ∀ k : Nat, (k == c) = decide (c = k) := fun k => by
    by_cases h : c = k
    · simp [h]
    · simp [h, Ne.symm h]
  simp [e2]
theorem lawis_str {n : Nat} {w : List Nat} : callN P (n + 1) 17 [.val (.str w)] = .ret (.bl (decide (w.length ≤ 60) && isW w)) [] := by
  rw [call_of (f := ⟨1, 2, b__law_is⟩) rfl]
  refine run_rt (r := [.val (.str w), .no]) rfl ?_ rfl
  show exs (callN P n) G b__law_is [.val (.str w), .no] = _
  unfold b__law_is
  refine exs_rt (ex_ret ?_)
  have h1 : ev (callN P n) G (.isi (.var 0) 2) [.val (.str w), .no] = .ok (.bl true) [.val (.str w), .no] := by simp [callN, L.P, L.fns, runFn, L.G, exs, ex, ev, evs, evi, evc, evo, pkv, idxD, atL, rdv, Op.g, Op.f, addD, subD, mulN, mulD, modD, divD, setv, setTg, iov, outOf, R.of, Cp.f, eqD, shal, eqd, lenD, tru, inD, isiD, CR.val, CR.valio, CR.valK, setio, Bi.g, Bi.f, rng1, revD]
  have h2 : ev (callN P n) G (.cmp .le (.lenv 0) (.int 60)) [.val (.str w), .no] = .ok (.bl (decide ((w.length : Int) ≤ 60))) [.val (.str w), .no] := by simp [callN, L.P, L.fns, runFn, L.G, exs, ex, ev, evs, evi, evc, evo, pkv, idxD, atL, rdv, Op.g, Op.f, addD, subD, mulN, mulD, modD, divD, setv, setTg, iov, outOf, R.of, Cp.f, eqD, shal, eqd, lenD, tru, inD, isiD, CR.val, CR.valio, CR.valK, setio, Bi.g, Bi.f, rng1, revD]
  by_cases hl : w.length ≤ 60
  · have c := comp_isw2 (C := callN P n) (G' := G) (e := .inn (.var 1) (.tup [.str [97], .str [45], .str [98]])) (v := .no) (g := fun c => [97, 45, 98].contains c) (fun c v => by
      have hL : 3 ≤ LINE := by unfold LINE; omega
      simp only [ev, evs, rdv, List.getElem?_cons_succ, List.getElem?_cons_zero, R.bind_ok, List.length_cons, List.length_nil, hL, if_true, in_tup, Option.map_some, R.of_some]) w [] (.val (.str w)) (by unfold LINE; simp; omega)
    have h3 : evi (callN P n) G (.e (.var 0)) [.val (.str w), .no] = .ok (w.map fun c => .str [c]) [.val (.str w), .no] := by simp [callN, L.P, L.fns, runFn, L.G, exs, ex, ev, evs, evi, evc, evo, pkv, idxD, atL, rdv, Op.g, Op.f, addD, subD, mulN, mulD, modD, divD, setv, setTg, iov, outOf, R.of, Cp.f, eqD, shal, eqd, lenD, tru, inD, isiD, CR.val, CR.valio, CR.valK, setio, Bi.g, Bi.f, rng1, revD, itemsD]
    have c2 : ev (callN P n) G (.comp (.inn (.var 1) (.tup [.str [97], .str [45], .str [98]])) (.one 1) (.e (.var 0)) none [1]) [.val (.str w), .no] = .ok (.lst (w.map fun c => .bl ([97, 45, 98].contains c))) [.val (.str w), .no] := by
      rw [ev_comp, compR_of h3 c]
      rfl
    have c3 : Bi.g .all [.lst (w.map fun c => .bl ([97, 45, 98].contains c))] = some (.bl (isW w)) := by
      show (blsOf _).map _ = _
      rw [bls_all]
      simp only [Option.map_some, isW, List.all_map]
      rfl
    have h4 := ev_bi1 c2 c3
    have hd : decide ((w.length : Int) ≤ 60) = true := decide_eq_true (by omega)
    rw [hd] at h2
    rw [ev, h1]
    simp only [R.bind_ok]
    rw [ev, h2]
    simp only [R.bind_ok]
    rw [h4]
    simp [tru, R.of, hl]
  · have hd : decide ((w.length : Int) ≤ 60) = false := by simp; omega
    rw [hd] at h2
    rw [ev, h1]
    simp only [R.bind_ok]
    rw [ev, h2]
    simp [tru, R.of, hl]
/-- what is_word is asked about -/
def Thing (t : D) : Prop := ∃ b, (∀ n, callN P (n + 1) 2 [.val t] = .ret (.bl b) []) ∧ ∀ n, callN P (n + 1) 17 [.val t] = .ret (.bl b) []
theorem thing_str (w : List Nat) : Thing (.str w) := ⟨_, fun n => isword_str, fun n => lawis_str⟩
theorem thing_other {t : D} (h : isiD t 2 = some false) : Thing t := by
  refine ⟨false, fun n => ?_, fun n => ?_⟩
  · rw [call_of (f := ⟨1, 2, b_is_word⟩) rfl]
    simp [runFn, b_is_word, exs, ex, ev, evs, rdv, h, outOf, R.of, tru]
  · rw [call_of (f := ⟨1, 2, b__law_is⟩) rfl]
    simp [runFn, b__law_is, exs, ex, ev, evs, rdv, h, outOf, R.of, tru]
/-! _law_text -/
theorem sign_at (a : Int) : ∃ c, Lt c ∧ idxD (.str [97, 45, 98]) (.int (a % 3)) = some (.str [c]) := by
  rcases (by omega : a % 3 = 0 ∨ a % 3 = 1 ∨ a % 3 = 2) with h | h | h <;> rw [h]
  · exact ⟨97, .inl rfl, rfl⟩
  · exact ⟨45, .inr (.inl rfl), rfl⟩
  · exact ⟨98, .inr (.inr rfl), rfl⟩
theorem comp_text {n : Nat} {v : Slot} : ∀ (xs acc : List D) (a : Int), acc.length + xs.length ≤ LINE →
    ∃ (l : List Nat) (a' : Int), l.length = xs.length ∧ (∀ c ∈ l, Lt c) ∧ compL (compB (.one 2) (evc (callN P (n + 1)) G none) (ev (callN P (n + 1)) G (.idx (.str [97, 45, 98]) (.callio 12 0 [.int 3]))) [2]) xs acc [.io [.int a], v, .no] = .ok (acc ++ l.map fun c => .str [c]) [.io [.int a'], v, .no]
  | [], acc, a, _ => ⟨[], a, rfl, (fun c hc => by cases hc), (by simp [compL])⟩
  | x :: xs, acc, a, h => by
    simp only [List.length_cons] at h
    obtain ⟨c, hc, e1⟩ := sign_at a
    obtain ⟨l, a', h1, h2, h3⟩ := comp_text (n := n) (v := v) xs (acc ++ [.str [c]]) (a / 3) (by simp; omega)
    refine ⟨c :: l, a', (by simp [h1]), (fun y hy => by rcases List.mem_cons.mp hy with e | hy; exact e ▸ hc; exact h2 y hy), ?_⟩
    have tk := take_ok (n := n) (a := a) (l := 3) (by decide) big3
    have t : compB (.one 2) (evc (callN P (n + 1)) G none) (ev (callN P (n + 1)) G (.idx (.str [97, 45, 98]) (.callio 12 0 [.int 3]))) [2] x [.io [.int a], v, .no] = .ok (some (.str [c])) [.io [.int (a / 3)], v, .no] := by
      simp [compB, setTg, setv, evc, ev, evs, iov, tk, CR.valio, setio, e1, R.of, wipeS]
    simp only [compL, t]
    rw [if_pos (by omega), h3]
    simp
theorem strs_of (l : List Nat) : strsOf (l.map fun c => D.str [c]) = some (l.map fun c => [c]) := by
  induction l with
  | nil => rfl
  | cons c l ih => simp only [List.map_cons, strsOf, ih, Option.map_some]
theorem joinL_one : ∀ l : List Nat, joinL [] (l.map fun c => [c]) = l
  | [] => rfl
  | [c] => rfl
  | c :: d :: l => by
    have := joinL_one (d :: l)
    simp only [List.map_cons] at this
    simp only [List.map_cons, joinL, this]
    rfl
theorem sum_ones : ∀ l : List Nat, ((l.map fun c => [c]).map (·.length)).sum = l.length
  | [] => rfl
  | c :: l => by
    have := sum_ones l
    simp only [List.map_cons, List.sum_cons, List.length_cons, List.length_nil, this]
    omega
theorem text_ok {n m : Nat} {a : Int} (hm : m ≤ 100) : ∃ (w : List Nat) (a' : Int), w.length ≤ m ∧ (∀ c ∈ w, Lt c) ∧ callN P (n + 2) 13 [.io [.int a], .val (.int m)] = .ret (.str w) [.int a'] := by
  have bm : ((m : Int) + 1).natAbs < BIG := big_of (k := 8) (by omega) (by decide)
  have tk := take_ok (n := n) (a := a) (l := m + 1) (by omega) bm
  have hr : 0 ≤ a % ((m : Int) + 1) ∧ a % ((m : Int) + 1) < m + 1 := ⟨Int.emod_nonneg _ (by omega), Int.emod_lt_of_pos _ (by omega)⟩
  have sm : small (a % ((m : Int) + 1)) = true := by unfold small; simp; omega
  obtain ⟨l, a', h1, h2, h3⟩ := comp_text (n := n) (v := .val (.int m)) (rngL 0 (a % ((m : Int) + 1))) [] (a / ((m : Int) + 1)) (by rw [rngL_len']; unfold LINE; simp; omega)
  have hl : l.length ≤ m := by rw [h1, rngL_len']; omega
  refine ⟨l, a', hl, h2, ?_⟩
  rw [call_of (f := ⟨2, 3, b__law_text⟩) rfl]
  refine run_rt (r := [.io [.int a'], .val (.int m), .no]) rfl ?_ rfl
  show exs (callN P (n + 1)) G b__law_text [.io [.int a], .val (.int m), .no] = _
  unfold b__law_text
  have e1 : evi (callN P (n + 1)) G (.rng1 (.callio 12 0 [.bin .add (.var 1) (.int 1)])) [.io [.int a], .val (.int m), .no] = .ok (rngL 0 (a % ((m : Int) + 1))) [.io [.int (a / ((m : Int) + 1))], .val (.int m), .no] := by
    simp [evi, ev, evs, rdv, iov, tk, CR.valio, setio, Op.g, Op.f, addD, R.of, rng1, sm]
  have e2 : ev (callN P (n + 1)) G (.comp (.idx (.str [97, 45, 98]) (.callio 12 0 [.int 3])) (.one 2) (.rng1 (.callio 12 0 [.bin .add (.var 1) (.int 1)])) none [2]) [.io [.int a], .val (.int m), .no] = .ok (.lst (l.map fun c => .str [c])) [.io [.int a'], .val (.int m), .no] := by
    rw [ev_comp, compR_of e1 h3]
    simp [backS]
  have e3 : Mt.f .join [] (.lst (l.map fun c => .str [c])) = some (.str l) := by
    have hs : ((l.map fun c => [c]).map (·.length)).sum = l.length := by
      exact sum_ones l
    simp only [Mt.f, strs_of, Option.bind_some, joinL_one]
    rw [if_pos ⟨by unfold LINE; omega, by rw [hs]; unfold LINE; simp; omega⟩]
  exact exs_rt (ex_ret (ev_mt (by simp [ev]) e2 e3))
/-! _law_mixed, _law_cell: some number -/
theorem small_big {a b : Int} (h0 : 0 ≤ a) (h : a < b) (hb : b ≤ 2 ^ 2000) : a.natAbs < BIG := big_of (k := 2000) (by omega) (by decide)
theorem mixed_ok {n : Nat} {a : Int} {k : Nat} (hk : k ≤ 100000) : ∃ i : Int, 0 ≤ i ∧ i < 2147483579 ∧ callN P (n + 1) 10 [.val (.int a), .val (.int k)] = .ret (.int i) [] := by
  have b1 : (a % 2147483647).natAbs < BIG := big_of (k := 40) (by omega) (by decide)
  have b2 : (k : Int).natAbs < BIG := big_of (k := 40) (by omega) (by decide)
  have b3 : (48271 : Nat) < BIG := big_of (k := 40) (by decide) (by decide)
  have b4 : (69621 : Nat) < BIG := big_of (k := 40) (by decide) (by decide)
  generalize hx : (a % 2147483647 * 48271 + k * 69621 + 1048583) % 2147483629 = x
  have b5 : x.natAbs < BIG := big_of (k := 40) (by omega) (by decide)
  generalize hy : x * x % 2147483587 = y
  have b6 : y.natAbs < BIG := big_of (k := 40) (by omega) (by decide)
  have b7 : (y + 2).natAbs < BIG := big_of (k := 40) (by omega) (by decide)
  refine ⟨y * (y + 2) % 2147483579, by omega, by omega, ?_⟩
  have b2' : k < BIG := by simpa using b2
  rw [call_of (f := ⟨2, 3, b__law_mixed⟩) rfl]
  simp [runFn, b__law_mixed, exs, ex, ev, rdv, Op.g, Op.f, mulN, mulD, addD, modD, R.of, setv, outOf, b1, b2, b2', b3, b4, b5, b6, b7, hx, hy]
def bodyC : List S := [.set 3 (.bin .add (.bin .mul (.var 3) (.int 2147483579)) (.call 10 [.var 2, .bin .add (.bin .add (.bin .mul (.int 7) (.var 1)) (.bin .mul (.int 100) (.var 4))) (.bin .mul (.var 4) (.var 4))]))]
theorem loop_cell {n k : Nat} {c : Int} {v : Slot} (hk : k ≤ 100) : ∃ (f : Int) (s : Slot), forL (exs (callN P (n + 1)) G bodyC) (.one 4) (rngL 0 24) [v, .val (.int k), .val (.int c), .val (.int 0), .no] = .nx [v, .val (.int k), .val (.int c), .val (.int f), s] := by
  obtain ⟨r', e1, f, s, e2, _⟩ := forL_inv (b := exs (callN P (n + 1)) G bodyC) (tg := .one 4)
    (fun j st => ∃ (f : Int) (s : Slot), st = [v, .val (.int k), .val (.int c), .val (.int f), s] ∧ 0 ≤ f ∧ f < 2 ^ (32 * j) ∧ NI s)
    (rngL 0 24) 0 [v, .val (.int k), .val (.int c), .val (.int 0), .no] ⟨0, .no, rfl, by decide, by decide, ni_no⟩
    (fun j x st ⟨f, s, e, a1, a2, a3⟩ hx => by
      obtain ⟨rfl, hj⟩ := rngL_get? hx
      rw [Nat.zero_add] at a2
      subst e
      have hj : j < 24 := by omega
      obtain ⟨m, m1, m2, m3⟩ := mixed_ok (n := n) (a := c) (k := 7 * k + 100 * j + j * j) (by
        have : j * j ≤ 24 * 24 := Nat.mul_le_mul (by omega) (by omega)
        omega)
      have ek : ((7 * k + 100 * j + j * j : Nat) : Int) = 7 * (k : Int) + 100 * (j : Int) + (j : Int) * j := by push_cast; rfl
      rw [ek] at m3
      have pj : (2 : Int) ^ (32 * (j + 1)) = 2 ^ (32 * j) * 4294967296 := by
        rw [show 32 * (j + 1) = 32 * j + 32 by omega, Int.pow_add]
        rfl
      have p1 : (1 : Int) ≤ 2 ^ (32 * j) := by
        have : (0 : Int) < 2 ^ (32 * j) := Int.pow_pos (by decide)
        omega
      have b1 : f.natAbs < BIG := by
        refine big_of (k := 32 * j) ?_ (by omega)
        have : ((2 ^ (32 * j) : Nat) : Int) = 2 ^ (32 * j) := by push_cast; rfl
        omega
      have b2 : (2147483579 : Nat) < BIG := big_of (k := 40) (by decide) (by decide)
      have b3 : (7 : Nat) < BIG := big_of (k := 40) (by decide) (by decide)
      have b4 : (100 : Nat) < BIG := big_of (k := 40) (by decide) (by decide)
      have b5 : k < BIG := big_of (k := 40) (by omega) (by decide)
      have b6 : j < BIG := big_of (k := 40) (by omega) (by decide)
      refine ⟨[v, .val (.int k), .val (.int c), .val (.int f), .val (.int j)], [v, .val (.int k), .val (.int c), .val (.int (f * 2147483579 + m)), .val (.int j)], ?_, ?_, ?_⟩
      · show setv 4 _ _ = _
        rw [setv_ni (s := s) rfl a3]
        simp
      · simp [bodyC, exs, ex, ev, evs, rdv, Op.g, Op.f, mulN, mulD, addD, R.of, setv, b1, b2, b3, b4, b5, b6, m3, CR.val]
      · rw [Nat.zero_add]
        exact ⟨_, _, rfl, by omega, by rw [pj]; omega, ni_val⟩)
  exact ⟨f, s, by rw [e1, e2]⟩
theorem cell_ok {n k : Nat} {ns : List Int} (hk : k ≤ 100) : ∃ i : Int, callN P (n + 2) 11 [.val (.lst (ns.map .int)), .val (.int k)] = .ret (.int i) [] := by
  obtain ⟨c, hc⟩ : ∃ c : Int, ex (callN P (n + 1)) G (.cond (.cmp .lt (.var 1) (.lenv 0)) [.set 2 (.idxv 0 (.var 1))] []) [.val (.lst (ns.map .int)), .val (.int k), .val (.int 0), .no, .no] = .nx [.val (.lst (ns.map .int)), .val (.int k), .val (.int c), .no, .no] := by
    by_cases h : (k : Int) < ns.length
    · have hk2 : k < ns.length := by omega
      have ix : idxD (.lst (ns.map .int)) (.int k) = some (.int ns[k]) := by
        simp [idxD, atL, hk2]
      exact ⟨ns[k], by simp [ex, exs, ev, rdv, pkv, lenD, Cp.f, R.of, setv, h, ix]⟩
    · exact ⟨0, by simp [ex, exs, ev, rdv, pkv, lenD, Cp.f, R.of, h]⟩
  have b1 : (10 ^ 60 : Int).natAbs < BIG := big_of (k := 300) (by decide) (by decide)
  have b2 : (10 ^ 60 * 10 ^ 60 : Int).natAbs < BIG := big_of (k := 600) (by decide) (by decide)
  have b3 : (10 ^ 60 * 10 ^ 60 * 10 ^ 60 : Int).natAbs < BIG := big_of (k := 900) (by decide) (by decide)
  have e18 : ev (callN P (n + 1)) G (.bin .pow (.int 10) (.int 18)) = fun r => .ok (.int (10 ^ 18)) r := by
    funext r
    simp [ev, Op.g, Op.f, powD, R.of]
  have e60 : ev (callN P (n + 1)) G (.bin .pow (.int 10) (.int 60)) = fun r => .ok (.int (10 ^ 60)) r := by
    funext r
    simp [ev, Op.g, Op.f, powD, R.of]
  have e60' : ∀ r, ev (callN P (n + 1)) G (.bin .pow (.int 10) (.int 60)) r = .ok (.int (10 ^ 60)) r := fun r => by rw [e60]
  have e18' : ∀ r, ev (callN P (n + 1)) G (.bin .pow (.int 10) (.int 18)) r = .ok (.int (10 ^ 18)) r := fun r => by rw [e18]
  have e240 : ∀ r, ev (callN P (n + 1)) G (.bin .mul (.bin .mul (.bin .mul (.bin .pow (.int 10) (.int 60)) (.bin .pow (.int 10) (.int 60))) (.bin .pow (.int 10) (.int 60))) (.bin .pow (.int 10) (.int 60))) r = .ok (.int (10 ^ 60 * 10 ^ 60 * 10 ^ 60 * 10 ^ 60)) r :=
    fun r => ev_bin (ev_bin (ev_bin (e60' r) (e60' r) (g_mul b1 b1)) (e60' r) (g_mul b2 b1)) (e60' r) (g_mul b3 b1)
  rw [call_of (f := ⟨2, 5, b__law_cell⟩) rfl]
  by_cases h : (10 ^ 18 : Int) ≤ c
  · have p4 : (0 : Int) < 10 ^ 60 * 10 ^ 60 * 10 ^ 60 * 10 ^ 60 := by decide
    refine ⟨(c - 10 ^ 18) % (10 ^ 60 * 10 ^ 60 * 10 ^ 60 * 10 ^ 60), run_rt (r := [.val (.lst (ns.map .int)), .val (.int k), .val (.int c), .no, .no]) rfl ?_ rfl⟩
    show exs (callN P (n + 1)) G b__law_cell [.val (.lst (ns.map .int)), .val (.int k), .no, .no, .no] = _
    unfold b__law_cell
    rw [exs_nx (r1 := [.val (.lst (ns.map .int)), .val (.int k), .val (.int 0), .no, .no]) (by simp [callN, L.P, L.fns, runFn, L.G, exs, ex, ev, evs, evi, evc, evo, pkv, idxD, atL, rdv, Op.g, Op.f, addD, subD, mulN, mulD, modD, divD, setv, setTg, iov, outOf, R.of, Cp.f, eqD, shal, eqd, lenD, tru, inD, isiD, CR.val, CR.valio, CR.valK, setio, Bi.g, Bi.f, rng1, revD]), exs_nx hc]
    refine exs_rt ?_
    have e1 : ev (callN P (n + 1)) G (.cmp .ge (.var 2) (.bin .pow (.int 10) (.int 18))) [.val (.lst (ns.map .int)), .val (.int k), .val (.int c), .no, .no] = .ok (.bl true) [.val (.lst (ns.map .int)), .val (.int k), .val (.int c), .no, .no] := by
      rw [ev, e18]
      simp only [ev, rdv, List.getElem?_cons_succ, List.getElem?_cons_zero, R.bind_ok, Cp.f, Option.map_some, R.of_some]
      rw [decide_eq_true h]
    have e2 : ev (callN P (n + 1)) G (.bin .mod (.bin .sub (.var 2) (.bin .pow (.int 10) (.int 18))) (.bin .mul (.bin .mul (.bin .mul (.bin .pow (.int 10) (.int 60)) (.bin .pow (.int 10) (.int 60))) (.bin .pow (.int 10) (.int 60))) (.bin .pow (.int 10) (.int 60)))) [.val (.lst (ns.map .int)), .val (.int k), .val (.int c), .no, .no] = .ok (.int ((c - 10 ^ 18) % (10 ^ 60 * 10 ^ 60 * 10 ^ 60 * 10 ^ 60))) [.val (.lst (ns.map .int)), .val (.int k), .val (.int c), .no, .no] := by
      exact ev_bin (ev_bin (x := .int c) (r1 := [.val (.lst (ns.map .int)), .val (.int k), .val (.int c), .no, .no]) (by simp [ev, rdv]) (e18' _) rfl) (e240 _) (g_mod p4)
    rw [ex, e1]
    simp only [R.fl_ok]
    exact exs_rt (ex_ret e2)
  · obtain ⟨f, s, e⟩ := loop_cell (n := n) (k := k) (c := c) (v := .val (.lst (ns.map .int))) hk
    refine ⟨f, run_rt (r := [.val (.lst (ns.map .int)), .val (.int k), .val (.int c), .val (.int f), s]) rfl ?_ rfl⟩
    show exs (callN P (n + 1)) G b__law_cell [.val (.lst (ns.map .int)), .val (.int k), .no, .no, .no] = _
    unfold b__law_cell
    have e1 : ev (callN P (n + 1)) G (.cmp .ge (.var 2) (.bin .pow (.int 10) (.int 18))) [.val (.lst (ns.map .int)), .val (.int k), .val (.int c), .no, .no] = .ok (.bl false) [.val (.lst (ns.map .int)), .val (.int k), .val (.int c), .no, .no] := by
      rw [ev, e18]
      simp only [ev, rdv, List.getElem?_cons_succ, List.getElem?_cons_zero, R.bind_ok, Cp.f, Option.map_some, R.of_some]
      rw [decide_eq_false h]
    unfold bodyC at e
    rw [exs_nx (r1 := [.val (.lst (ns.map .int)), .val (.int k), .val (.int 0), .no, .no]) (by simp [callN, L.P, L.fns, runFn, L.G, exs, ex, ev, evs, evi, evc, evo, pkv, idxD, atL, rdv, Op.g, Op.f, addD, subD, mulN, mulD, modD, divD, setv, setTg, iov, outOf, R.of, Cp.f, eqD, shal, eqd, lenD, tru, inD, isiD, CR.val, CR.valio, CR.valK, setio, Bi.g, Bi.f, rng1, revD]), exs_nx hc, exs_nx (r1 := [.val (.lst (ns.map .int)), .val (.int k), .val (.int c), .no, .no]) (by rw [ex, e1]; simp only [R.fl_ok, exs]),
      exs_nx (r1 := [.val (.lst (ns.map .int)), .val (.int k), .val (.int c), .val (.int 0), .no]) (by simp [callN, L.P, L.fns, runFn, L.G, exs, ex, ev, evs, evi, evc, evo, pkv, idxD, atL, rdv, Op.g, Op.f, addD, subD, mulN, mulD, modD, divD, setv, setTg, iov, outOf, R.of, Cp.f, eqD, shal, eqd, lenD, tru, inD, isiD, CR.val, CR.valio, CR.valK, setio, Bi.g, Bi.f, rng1, revD]), exs_nx ((ex_loop (xs := rngL 0 24) (r1 := [.val (.lst (ns.map .int)), .val (.int k), .val (.int c), .val (.int 0), .no]) (by simp [evi, ev, rng1, small, R.of])).trans e)]
    exact exs_rt (ex_ret (by simp [ev, rdv]))
/-! _law_things -/
theorem odd_at (a : Int) : ∃ s : List Nat, s.length ≤ 2 ∧ idxD (.lst [.str [65], .str [66], .str [99], .str [32], .str [], .str [97, 98], .str [10], .str [48], .str [63]]) (.int (a % 9)) = some (.str s) := by
  rcases (by omega : a % 9 = 0 ∨ a % 9 = 1 ∨ a % 9 = 2 ∨ a % 9 = 3 ∨ a % 9 = 4 ∨ a % 9 = 5 ∨ a % 9 = 6 ∨ a % 9 = 7 ∨ a % 9 = 8) with h | h | h | h | h | h | h | h | h <;> rw [h] <;> exact ⟨_, by decide, rfl⟩
theorem cut_len {α : Type} (l : List α) (lo hi : Option Int) : (cut l lo hi).length ≤ l.length := by
  unfold cut
  rw [List.length_take, List.length_drop]
  omega
theorem things_ok {n : Nat} {a : Int} {w : List Nat} (hl : w.length ≤ 100) : ∃ (l : List D) (a' : Int), (∀ t ∈ l, Thing t) ∧ callN P (n + 2) 18 [.io [.int a], .val (.str w)] = .ret (.lst l) [.int a'] := by
  have bm : ((w.length : Int) + 1).natAbs < BIG := big_of (k := 8) (by omega) (by decide)
  have tk := take_ok (n := n) (a := a) (l := w.length + 1) (by omega) bm
  have tk2 := take_ok (n := n) (a := a / ((w.length : Int) + 1)) (l := 9) (by decide) (big_of (k := 8) (by decide) (by decide))
  obtain ⟨s, hs, eo⟩ := odd_at (a / ((w.length : Int) + 1))
  have c1 := cut_len w none (some (a % ((w.length : Int) + 1)))
  have c2 := cut_len w (some (a % ((w.length : Int) + 1))) none
  have c3 := cut_len w (some (a % ((w.length : Int) + 1) + 1)) none
  have l1 : w.length + w.length ≤ LINE := by unfold LINE; omega
  have l2 : (cut w none (some (a % ((w.length : Int) + 1)))).length + s.length ≤ LINE := by unfold LINE; omega
  have l3 : (cut w none (some (a % ((w.length : Int) + 1)))).length + (s.length + (cut w (some (a % ((w.length : Int) + 1))) none).length) ≤ LINE := by unfold LINE; omega
  have l4 : (cut w none (some (a % ((w.length : Int) + 1)))).length + (s.length + (cut w (some (a % ((w.length : Int) + 1) + 1)) none).length) ≤ LINE := by unfold LINE; omega
  have l3' : (cut w none (some (a % ((w.length : Int) + 1)))).length + s.length + (cut w (some (a % ((w.length : Int) + 1))) none).length ≤ LINE := by unfold LINE; omega
  have l4' : (cut w none (some (a % ((w.length : Int) + 1)))).length + s.length + (cut w (some (a % ((w.length : Int) + 1) + 1)) none).length ≤ LINE := by unfold LINE; omega
  have l5 : w.length * 61 ≤ LINE := by unfold LINE; omega
  have l6 : (13 : Nat) ≤ LINE := by unfold LINE; omega
  have l7 : (9 : Nat) ≤ LINE := by unfold LINE; omega
  have l8 : (7 : Nat) ≤ LINE := by unfold LINE; omega
  have l9 : (6 : Nat) ≤ LINE := by unfold LINE; omega
  have l10 : (1 : Nat) ≤ LINE := by unfold LINE; omega
  have l11 : (60 : Nat) ≤ LINE := by unfold LINE; omega
  have l12 : (61 : Nat) ≤ LINE := by unfold LINE; omega
  have sm1 : small 60 = true := by decide
  have sm2 : small 61 = true := by decide
  rw [call_of (f := ⟨2, 5, b__law_things⟩) rfl]
  simp only [runFn, b__law_things, exs, ex, ev, evs, evo, rdv, pkv, lenD, iov, CR.valio, setio, Op.g, Op.f, addD, mulN, mulD, R.of, setv, Cp.f, eqD_str, sliD, Bi.g, Bi.listG, List.length_cons, List.length_nil, if_true, List.replicate, List.append_eq, List.cons_append, List.nil_append, List.getElem?_cons_succ, List.getElem?_cons_zero, R.bind_ok, Option.isSome_some, Option.bind_some, Option.map_some, R.fl_ok, F.then_nx, F.then_rt, List.map_cons, List.map_nil, List.set_cons_zero, List.set_cons_succ, tk, tk2, eo, Nat.zero_add, Nat.reduceAdd, Nat.reduceSub]
  simp [lenD, eqD_str, tk, tk2, eo, l1, l2, l3, l4, l3', l4', l5, l6, l7, l8, l9, l10, l11, l12, sm1, sm2, outOf]
  exact ⟨thing_str _, thing_str _, thing_str _, thing_str _, thing_other rfl, thing_other rfl, thing_other rfl, thing_other rfl, thing_other rfl, thing_other rfl, thing_str _, thing_str _, thing_str _⟩
/-! the law -/
def bT : List S := [.set 9 (.call 2 [.var 8]), .cond (.or (.not (.isi (.var 9) 1)) (.or (.cmp .ne (.var 9) (.call 17 [.var 8])) (.cmp .ne (.callk 2 [.var 8] [0]) (.var 9)))) [.ret (.bl false)] []]
theorem loop_things {l : List D} (hl : ∀ t ∈ l, Thing t) {v0 s1 s2 s3 s4 s5 s6 s7 s8 s9 : Slot} (n8 : NI s8) (n9 : NI s9) :
    ∃ s8' s9', NI s8' ∧ NI s9' ∧ forL (exs (callN P 7) G bT) (.one 8) l [v0, s1, s2, s3, s4, s5, s6, s7, s8, s9] = .nx [v0, s1, s2, s3, s4, s5, s6, s7, s8', s9'] := by
  obtain ⟨r', e1, s8', s9', e2, m8, m9⟩ := forL_inv (b := exs (callN P 7) G bT) (tg := .one 8)
    (fun j st => ∃ s8 s9, st = [v0, s1, s2, s3, s4, s5, s6, s7, s8, s9] ∧ NI s8 ∧ NI s9) l 0 _ ⟨s8, s9, rfl, n8, n9⟩
    (fun j x st ⟨s8, s9, e, a8, a9⟩ hx => by
      subst e
      obtain ⟨b, b1, b2⟩ := hl x (List.mem_of_getElem? hx)
      have b1 := b1 6
      have b2 := b2 6
      refine ⟨[v0, s1, s2, s3, s4, s5, s6, s7, .val x, s9], [v0, s1, s2, s3, s4, s5, s6, s7, .val x, .val (.bl b)], ?_, ?_, ⟨_, _, rfl, ni_val, ni_val⟩⟩
      · show setv 8 _ _ = _
        rw [setv_ni (s := s8) rfl a8]
        rfl
      · unfold bT
        rw [exs_nx (ex_set (d := .bl b) (r1 := [v0, s1, s2, s3, s4, s5, s6, s7, .val x, s9]) (r2 := [v0, s1, s2, s3, s4, s5, s6, s7, .val x, .val (.bl b)]) (by simp [ev, evs, rdv, b1, CR.val]) (by rw [setv_ni (s := s9) rfl a9]; rfl))]
        simp [exs, ex, ev, evs, rdv, isiD, R.of, tru, Cp.f, eqD_bl, b1, b2, CR.val, CR.valK])
  exact ⟨s8', s9', m8, m9, by rw [e1, e2]⟩
def bK : List S := [.set 7 (.callio 13 3 [.idx (.lst [.int 4, .int 20, .int 60]) (.var 4)]), .cond (.not (.call 16 [.var 7])) [.ret (.bl false)] [], .loop (.one 8) (.e (.callio 18 3 [.var 7])) bT]
theorem step_k {m : Nat} (hm : m ≤ 60) {k : Int} (hk : idxD (.lst [.int 4, .int 20, .int 60]) (.int k) = some (.int m)) {a : Int} {v0 s1 s2 s5 s6 s7 s8 s9 : Slot} (n7 : NI s7) (n8 : NI s8) (n9 : NI s9) :
    ∃ a' s7' s8' s9', NI s7' ∧ NI s8' ∧ NI s9' ∧ exs (callN P 7) G bK [v0, s1, s2, .own [.int a], .val (.int k), s5, s6, s7, s8, s9] = .nx [v0, s1, s2, .own [.int a'], .val (.int k), s5, s6, s7', s8', s9'] := by
  obtain ⟨w, a1, h1, h2, h3⟩ := text_ok (n := 5) (m := m) (a := a) (by omega)
  have h4 := good_ok (n := 3) h2 (by omega)
  obtain ⟨l, a2, h5, h6⟩ := things_ok (n := 5) (a := a1) (w := w) (by omega)
  obtain ⟨s8', s9', m8, m9, e⟩ := loop_things h5 (v0 := v0) (s1 := s1) (s2 := s2) (s3 := .own [.int a2]) (s4 := .val (.int k)) (s5 := s5) (s6 := s6) (s7 := .val (.str w)) n8 n9
  refine ⟨a2, .val (.str w), s8', s9', ni_val, m8, m9, ?_⟩
  have hL : 3 ≤ LINE := by unfold LINE; omega
  unfold bK
  rw [exs_nx (ex_set (d := .str w) (r1 := [v0, s1, s2, .own [.int a1], .val (.int k), s5, s6, s7, s8, s9]) (r2 := [v0, s1, s2, .own [.int a1], .val (.int k), s5, s6, .val (.str w), s8, s9]) (by simp [ev, evs, iov, rdv, hL, hk, R.of, h3, CR.valio, setio]) (by rw [setv_ni (s := s7) rfl n7]; rfl)),
    exs_nx (r1 := [v0, s1, s2, .own [.int a1], .val (.int k), s5, s6, .val (.str w), s8, s9]) (by simp [ex, exs, ev, evs, rdv, h4, CR.val]),
    exs_nx ((ex_loop (xs := l) (r1 := [v0, s1, s2, .own [.int a2], .val (.int k), s5, s6, .val (.str w), s8, s9]) (by simp [evi, ev, evs, iov, rdv, h6, CR.valio, setio, itemsD, R.of])).trans e)]
  simp [exs]
theorem loop_k {a : Int} {v0 s1 s2 s4 s5 s6 s7 s8 s9 : Slot} (n4 : NI s4) (n7 : NI s7) (n8 : NI s8) (n9 : NI s9) :
    ∃ a' s4' s7' s8' s9', NI s4' ∧ NI s7' ∧ NI s8' ∧ NI s9' ∧ forL (exs (callN P 7) G bK) (.one 4) (rngL 0 3) [v0, s1, s2, .own [.int a], s4, s5, s6, s7, s8, s9] = .nx [v0, s1, s2, .own [.int a'], s4', s5, s6, s7', s8', s9'] := by
  obtain ⟨r', e1, a', s4', s7', s8', s9', e2, m4, m7, m8, m9⟩ := forL_inv (b := exs (callN P 7) G bK) (tg := .one 4)
    (fun j st => ∃ a s4 s7 s8 s9, st = [v0, s1, s2, .own [.int a], s4, s5, s6, s7, s8, s9] ∧ NI s4 ∧ NI s7 ∧ NI s8 ∧ NI s9) (rngL 0 3) 0 _ ⟨a, s4, s7, s8, s9, rfl, n4, n7, n8, n9⟩
    (fun j x st ⟨a, s4, s7, s8, s9, e, a4, a7, a8, a9⟩ hx => by
      subst e
      obtain ⟨rfl, hj⟩ := rngL_get? hx
      obtain ⟨m, hm, hk⟩ : ∃ m : Nat, m ≤ 60 ∧ idxD (.lst [.int 4, .int 20, .int 60]) (.int (0 + j)) = some (.int m) := by
        rcases (by omega : j = 0 ∨ j = 1 ∨ j = 2) with rfl | rfl | rfl
        · exact ⟨4, by decide, rfl⟩
        · exact ⟨20, by decide, rfl⟩
        · exact ⟨60, by decide, rfl⟩
      obtain ⟨a', s7', s8', s9', m7, m8, m9, e3⟩ := step_k hm hk (a := a) (v0 := v0) (s1 := s1) (s2 := s2) (s5 := s5) (s6 := s6) a7 a8 a9
      refine ⟨_, _, ?_, e3, ⟨a', _, s7', s8', s9', rfl, ni_val, m7, m8, m9⟩⟩
      show setv 4 _ _ = _
      rw [setv_ni (s := s4) rfl a4]
      rfl)
  exact ⟨a', s4', s7', s8', s9', m4, m7, m8, m9, by rw [e1, e2]⟩
def bS : List S := [.cond (.or (.cmp .ne (.bi .len [.call 9 [.var 2, .var 6]]) (.var 2)) (.not (.call 16 [.call 9 [.var 2, .var 6]]))) [.ret (.bl false)] []]
theorem step_s {d : Nat} (hd : d ≤ 60) {i : Int} (h0 : 0 ≤ i) (hi : i < 3 ^ d) {v0 s1 s3 s4 s5 s7 s8 s9 : Slot} : exs (callN P 7) G bS [v0, s1, .val (.int d), s3, s4, s5, .val (.int i), s7, s8, s9] = .nx [v0, s1, .val (.int d), s3, s4, s5, .val (.int i), s7, s8, s9] := by
  obtain ⟨w, h1, h2, h3, h4⟩ := wordat_ok (n := 4) h0 hi hd
  have h5 := good_ok (n := 3) h2 (by omega)
  simp [bS, exs, ex, ev, evs, rdv, h4, h5, CR.val, Bi.g, Bi.f, lenD, R.of, Cp.f, eqD_int, h1, tru]
theorem loop_s {d : Nat} (hd : d ≤ 60) {v0 s1 s3 s4 s5 s6 s7 s8 s9 : Slot} (n6 : NI s6) (xs : List D) (hx : ∀ x ∈ xs, ∃ i : Int, x = .int i ∧ 0 ≤ i ∧ i < 3 ^ d) :
    ∃ s6', NI s6' ∧ forL (exs (callN P 7) G bS) (.one 6) xs [v0, s1, .val (.int d), s3, s4, s5, s6, s7, s8, s9] = .nx [v0, s1, .val (.int d), s3, s4, s5, s6', s7, s8, s9] := by
  obtain ⟨r', e1, s6', e2, m6⟩ := forL_inv (b := exs (callN P 7) G bS) (tg := .one 6)
    (fun j st => ∃ s6, st = [v0, s1, .val (.int d), s3, s4, s5, s6, s7, s8, s9] ∧ NI s6) xs 0 _ ⟨s6, rfl, n6⟩
    (fun j x st ⟨s6, e, a6⟩ hj => by
      subst e
      obtain ⟨i, rfl, h0, hi⟩ := hx x (List.mem_of_getElem? hj)
      refine ⟨_, _, ?_, step_s hd h0 hi, ⟨_, rfl, ni_val⟩⟩
      show setv 6 _ _ = _
      rw [setv_ni (s := s6) rfl a6]
      rfl)
  exact ⟨s6', m6, by rw [e1, e2]⟩
def bR : List S := [.own 3 (.lst [.call 11 [.var 0, .var 1]]), .loop (.one 4) (.rng1 (.int 3)) bK, .set 2 (.callio 12 3 [.int 61]), .set 5 (.bin .sub (.call 14 [.var 2]) (.int 1)), .loop (.one 6) (.e (.lst [.int 0, .var 5, .bin .div (.var 5) (.int 2), .callio 12 3 [.bin .add (.var 5) (.int 1)], .callio 12 3 [.bin .add (.var 5) (.int 1)]])) bS]
theorem ex_own {C : Calls} {G : List D} {i : Nat} {e : E} {r r1 r2 : St} {l : List D} (h : ev C G e r = .ok (.lst l) r1) (h2 : setv i (.own l) r1 = some r2) : ex C G (.own i e) r = .nx r2 := by simp only [ex, h, R.fl_ok, h2]
theorem step_r {ns : List Int} {k : Nat} (hk : k ≤ 100) {s2 s3 s4 s5 s6 s7 s8 s9 : Slot} (n2 : NI s2) (n3 : NI s3) (n4 : NI s4) (n5 : NI s5) (n6 : NI s6) (n7 : NI s7) (n8 : NI s8) (n9 : NI s9) :
    ∃ s2' s3' s4' s5' s6' s7' s8' s9', NI s2' ∧ NI s3' ∧ NI s4' ∧ NI s5' ∧ NI s6' ∧ NI s7' ∧ NI s8' ∧ NI s9' ∧ exs (callN P 7) G bR [.val (.lst (ns.map .int)), .val (.int k), s2, s3, s4, s5, s6, s7, s8, s9] = .nx [.val (.lst (ns.map .int)), .val (.int k), s2', s3', s4', s5', s6', s7', s8', s9'] := by
  obtain ⟨c, hc⟩ := cell_ok (n := 5) (ns := ns) hk
  obtain ⟨a, s4', s7', s8', s9', m4, m7, m8, m9, e⟩ := loop_k (a := c) (v0 := .val (.lst (ns.map .int))) (s1 := .val (.int k)) (s2 := s2) (s5 := s5) (s6 := s6) n4 n7 n8 n9
  have tk := take_ok (n := 6) (a := a) (l := 61) (by decide) (big_of (k := 8) (by decide) (by decide))
  obtain ⟨d, hd, hd2⟩ : ∃ d : Nat, (d : Int) = a % 61 ∧ d ≤ 60 := ⟨(a % 61).toNat, by omega, by omega⟩
  rw [← hd] at tk
  have pw := pow_ok2 (n := 6) (r := d) (by omega)
  have pp : (0 : Int) < 3 ^ d := Int.pow_pos (by decide)
  have bp : ((3 : Int) ^ d).natAbs < BIG := (pow3_big (by omega)).2
  have b2 : (2 : Nat) < BIG := big_of (k := 8) (by decide) (by decide)
  have tk2 := fun x : Int => take_ok (n := 6) (a := x) (l := 3 ^ d) pp bp
  have hL : (1 : Nat) ≤ LINE := by unfold LINE; omega
  have hL5 : (5 : Nat) ≤ LINE := by unfold LINE; omega
  obtain ⟨s6', m6, e6⟩ := loop_s hd2 (v0 := .val (.lst (ns.map .int))) (s1 := .val (.int k)) (s3 := .own [.int (a / 61 / 3 ^ d / 3 ^ d)]) (s4 := s4') (s5 := .val (.int (3 ^ d - 1))) (s7 := s7') (s8 := s8') (s9 := s9') n6 [.int 0, .int (3 ^ d - 1), .int ((3 ^ d - 1) / 2), .int (a / 61 % 3 ^ d), .int (a / 61 / 3 ^ d % 3 ^ d)] (fun x hx => by
    have r1 := Int.emod_nonneg (a / 61) (by omega : (3 : Int) ^ d ≠ 0)
    have r2 := Int.emod_lt_of_pos (a / 61) pp
    have r3 := Int.emod_nonneg (a / 61 / 3 ^ d) (by omega : (3 : Int) ^ d ≠ 0)
    have r4 := Int.emod_lt_of_pos (a / 61 / 3 ^ d) pp
    simp only [List.mem_cons, List.not_mem_nil, or_false] at hx
    rcases hx with rfl | rfl | rfl | rfl | rfl <;> exact ⟨_, rfl, by omega, by omega⟩)
  refine ⟨.val (.int d), .own [.int (a / 61 / 3 ^ d / 3 ^ d)], s4', .val (.int (3 ^ d - 1)), s6', s7', s8', s9', ni_val, ni_own, m4, ni_val, m6, m7, m8, m9, ?_⟩
  unfold bR
  rw [exs_nx (ex_own (l := [.int c]) (r1 := [.val (.lst (ns.map .int)), .val (.int k), s2, s3, s4, s5, s6, s7, s8, s9]) (r2 := [.val (.lst (ns.map .int)), .val (.int k), s2, .own [.int c], s4, s5, s6, s7, s8, s9]) (by simp [ev, evs, rdv, hc, CR.val, hL]) (by rw [setv_ni (s := s3) rfl n3]; rfl)),
    exs_nx ((ex_loop (xs := rngL 0 3) (r1 := [.val (.lst (ns.map .int)), .val (.int k), s2, .own [.int c], s4, s5, s6, s7, s8, s9]) (by simp [evi, ev, rng1, small, R.of])).trans e),
    exs_nx (ex_set (d := .int d) (r1 := [.val (.lst (ns.map .int)), .val (.int k), s2, .own [.int (a / 61)], s4', s5, s6, s7', s8', s9']) (r2 := [.val (.lst (ns.map .int)), .val (.int k), .val (.int d), .own [.int (a / 61)], s4', s5, s6, s7', s8', s9']) (by simp [ev, evs, iov, tk, CR.valio, setio]) (by rw [setv_ni (s := s2) rfl n2]; rfl)),
    exs_nx (ex_set (d := .int (3 ^ d - 1)) (r1 := [.val (.lst (ns.map .int)), .val (.int k), .val (.int d), .own [.int (a / 61)], s4', s5, s6, s7', s8', s9']) (r2 := [.val (.lst (ns.map .int)), .val (.int k), .val (.int d), .own [.int (a / 61)], s4', .val (.int (3 ^ d - 1)), s6, s7', s8', s9']) (by simp [ev, evs, rdv, pw, CR.val, Op.g, Op.f, subD, R.of]) (by rw [setv_ni (s := s5) rfl n5]; rfl)),
    exs_nx ((ex_loop (xs := [.int 0, .int (3 ^ d - 1), .int ((3 ^ d - 1) / 2), .int (a / 61 % 3 ^ d), .int (a / 61 / 3 ^ d % 3 ^ d)]) (r1 := [.val (.lst (ns.map .int)), .val (.int k), .val (.int d), .own [.int (a / 61 / 3 ^ d / 3 ^ d)], s4', .val (.int (3 ^ d - 1)), s6, s7', s8', s9']) (by
      simp [evi, ev, evs, iov, rdv, tk2, CR.valio, setio, itemsD, R.of, Op.g, Op.f, divD, addD, b2, hL5])).trans e6)]
  simp [exs]
def bM : List S := [.cond (.or (.cmp .ne (.call 15 [.call 9 [.var 2, .var 6]]) (.var 6)) (.cmp .ne (.bi .len [.call 9 [.var 2, .var 6]]) (.var 2))) [.ret (.bl false)] []]
theorem step_m {d : Nat} (hd : d ≤ 60) {i : Int} (h0 : 0 ≤ i) (hi : i < 3 ^ d) {v0 s1 s3 s4 s5 s7 s8 s9 : Slot} : exs (callN P 7) G bM [v0, s1, .val (.int d), s3, s4, s5, .val (.int i), s7, s8, s9] = .nx [v0, s1, .val (.int d), s3, s4, s5, .val (.int i), s7, s8, s9] := by
  obtain ⟨w, h1, h2, h3, h4⟩ := wordat_ok (n := 4) h0 hi hd
  have h5 := spot_ok (n := 6) h2 (by omega)
  simp [bM, exs, ex, ev, evs, rdv, h4, h5, CR.val, Bi.g, Bi.f, lenD, R.of, Cp.f, eqD_int, h1, h3, tru]
theorem loop_m {d : Nat} (hd : d ≤ 60) {v0 s1 s3 s4 s5 s6 s7 s8 s9 : Slot} (n6 : NI s6) :
    ∃ s6', NI s6' ∧ forL (exs (callN P 7) G bM) (.one 6) (rngL 0 (3 ^ d)) [v0, s1, .val (.int d), s3, s4, s5, s6, s7, s8, s9] = .nx [v0, s1, .val (.int d), s3, s4, s5, s6', s7, s8, s9] := by
  obtain ⟨r', e1, s6', e2, m6⟩ := forL_inv (b := exs (callN P 7) G bM) (tg := .one 6)
    (fun j st => ∃ s6, st = [v0, s1, .val (.int d), s3, s4, s5, s6, s7, s8, s9] ∧ NI s6) (rngL 0 (3 ^ d)) 0 _ ⟨s6, rfl, n6⟩
    (fun j x st ⟨s6, e, a6⟩ hj => by
      subst e
      obtain ⟨rfl, hj⟩ := rngL_get? hj
      refine ⟨_, _, ?_, step_m hd (i := 0 + j) (by omega) (by omega), ⟨_, rfl, ni_val⟩⟩
      show setv 6 _ _ = _
      rw [setv_ni (s := s6) rfl a6]
      rfl)
  exact ⟨s6', m6, by rw [e1, e2]⟩
def bL : List S := [.loop (.one 6) (.rng1 (.call 14 [.var 2])) bM]
theorem loop_l {v0 s1 s2 s3 s4 s5 s6 s7 s8 s9 : Slot} (n2 : NI s2) (n6 : NI s6) :
    ∃ s2' s6', NI s2' ∧ NI s6' ∧ forL (exs (callN P 7) G bL) (.one 2) (rngL 0 5) [v0, s1, s2, s3, s4, s5, s6, s7, s8, s9] = .nx [v0, s1, s2', s3, s4, s5, s6', s7, s8, s9] := by
  obtain ⟨r', e1, s2', s6', e2, m2, m6⟩ := forL_inv (b := exs (callN P 7) G bL) (tg := .one 2)
    (fun j st => ∃ s2 s6, st = [v0, s1, s2, s3, s4, s5, s6, s7, s8, s9] ∧ NI s2 ∧ NI s6) (rngL 0 5) 0 _ ⟨s2, s6, rfl, n2, n6⟩
    (fun j x st ⟨s2, s6, e, a2, a6⟩ hj => by
      subst e
      obtain ⟨rfl, hj⟩ := rngL_get? hj
      have hj : j ≤ 4 := by omega
      obtain ⟨s6', m6, e6⟩ := loop_m (d := j) (by omega) (v0 := v0) (s1 := s1) (s3 := s3) (s4 := s4) (s5 := s5) (s7 := s7) (s8 := s8) (s9 := s9) a6
      have pw := pow_ok2 (n := 6) (r := j) (by omega)
      have sm : small (3 ^ j) = true := by
        rcases (by omega : j = 0 ∨ j = 1 ∨ j = 2 ∨ j = 3 ∨ j = 4) with rfl | rfl | rfl | rfl | rfl <;> decide
      refine ⟨[v0, s1, .val (.int j), s3, s4, s5, s6, s7, s8, s9], _, ?_, ?_, ⟨.val (.int j), s6', rfl, ni_val, m6⟩⟩
      · show setv 2 _ _ = _
        rw [setv_ni (s := s2) rfl a2]
        simp
      · unfold bL
        rw [exs_nx ((ex_loop (xs := rngL 0 (3 ^ j)) (r1 := [v0, s1, .val (.int j), s3, s4, s5, s6, s7, s8, s9]) (by simp [evi, ev, evs, rdv, pw, CR.val, rng1, sm, R.of])).trans e6)]
        simp [exs])
  exact ⟨s2', s6', m2, m6, by rw [e1, e2]⟩
theorem loop_r {ns : List Int} {m : Nat} (hm : m ≤ 5) : ∃ s1 s2 s3 s4 s5 s6 s7 s8 s9, NI s2 ∧ NI s6 ∧ NI s7 ∧ forL (exs (callN P 7) G bR) (.one 1) (rngL 0 m) [.val (.lst (ns.map .int)), .no, .no, .no, .no, .no, .no, .no, .no, .no] = .nx [.val (.lst (ns.map .int)), s1, s2, s3, s4, s5, s6, s7, s8, s9] := by
  obtain ⟨r', e1, s1, s2, s3, s4, s5, s6, s7, s8, s9, e2, m1, m2, m3, m4, m5, m6, m7, m8, m9⟩ := forL_inv (b := exs (callN P 7) G bR) (tg := .one 1)
    (fun j st => ∃ s1 s2 s3 s4 s5 s6 s7 s8 s9, st = [.val (.lst (ns.map .int)), s1, s2, s3, s4, s5, s6, s7, s8, s9] ∧ NI s1 ∧ NI s2 ∧ NI s3 ∧ NI s4 ∧ NI s5 ∧ NI s6 ∧ NI s7 ∧ NI s8 ∧ NI s9) (rngL 0 m) 0 _ ⟨_, _, _, _, _, _, _, _, _, rfl, ni_no, ni_no, ni_no, ni_no, ni_no, ni_no, ni_no, ni_no, ni_no⟩
    (fun j x st ⟨s1, s2, s3, s4, s5, s6, s7, s8, s9, e, a1, a2, a3, a4, a5, a6, a7, a8, a9⟩ hj => by
      subst e
      obtain ⟨rfl, hj⟩ := rngL_get? hj
      obtain ⟨t2, t3, t4, t5, t6, t7, t8, t9, m2, m3, m4, m5, m6, m7, m8, m9, e⟩ := step_r (ns := ns) (k := j) (by omega) a2 a3 a4 a5 a6 a7 a8 a9
      refine ⟨_, _, ?_, e, ⟨_, _, _, _, _, _, _, _, _, rfl, ni_val, m2, m3, m4, m5, m6, m7, m8, m9⟩⟩
      show setv 1 _ _ = _
      rw [setv_ni (s := s1) rfl a1]
      simp)
  exact ⟨s1, s2, s3, s4, s5, s6, s7, s8, s9, m2, m6, m7, by rw [e1, e2]⟩
theorem eqD_3 {a b c : Int} : eqD (.lst [.int a, .int b, .int c]) (.lst [.int a, .int b, .int c]) = some true := by simp [eqD, shal, eqd, eqds]
theorem m_rep (c : Nat) : Op.g .mul (.str [c]) (.int 60) = some (.str (rep [c] 60)) := by
  show (if small 60 = true ∧ [c].length * (60 : Int).toNat ≤ LINE then some (D.str (rep [c] (60 : Int).toNat)) else none) = _
  rw [if_pos ⟨by decide, by simp [LINE]⟩]
  rfl
theorem lt_rep {c : Nat} (h : Lt c) : ∀ x ∈ rep [c] 60, Lt x := fun x hx => by
  unfold rep at hx
  obtain ⟨l, h1, h2⟩ := List.mem_flatten.mp hx
  rw [(List.mem_replicate.mp h1).2] at h2
  rw [List.mem_singleton.mp h2]
  exact h
theorem len_rep (c : Nat) : (rep [c] 60).length = 60 := by simp [rep]
theorem law_true' (ns : List Int) : ∃ o, callN P 8 19 [.val (.lst (ns.map .int))] = .ret (.bl true) o := by
  obtain ⟨m, hm, hm2⟩ : ∃ m : Nat, m ≤ 5 ∧ (if 1 > (if (5 : Int) < ns.length then 5 else (ns.length : Int)) then 1 else (if (5 : Int) < ns.length then 5 else (ns.length : Int))) = (m : Int) :=
    ⟨(if 1 > (if (5 : Int) < ns.length then 5 else (ns.length : Int)) then 1 else (if (5 : Int) < ns.length then 5 else (ns.length : Int))).toNat, by split <;> (try split) <;> omega, by split <;> (try split) <;> omega⟩
  obtain ⟨s1, s2, s3, s4, s5, s6, s7, s8, s9, n2, n6, n7, e1⟩ := loop_r (ns := ns) hm
  obtain ⟨t2, t6, _, _, e2⟩ := loop_l (v0 := .val (.lst (ns.map .int))) (s1 := s1) (s3 := s3) (s4 := s4) (s5 := s5) (s7 := s7) (s8 := s8) (s9 := s9) n2 n6
  have lb : ∀ c ∈ [98, 97], Lt c := fun c hc => by simp at hc; unfold Lt; omega
  have lb2 : ∀ c ∈ [98, 45, 98], Lt c := fun c hc => by simp at hc; unfold Lt; omega
  have i1 : callN P 7 8 [.val (.str [98, 97])] = .ret (.int 6) [] := by
    rw [indexof_ok (n := 4) lb (by decide), show idx [98, 97] = 6 by decide]
  have i2 : callN P 7 8 [.val (.str [98, 45, 98])] = .ret (.int 21) [] := by
    rw [indexof_ok (n := 4) lb2 (by decide), show idx [98, 45, 98] = 21 by decide]
  have i3 : callN P 7 8 [.val (.str (rep [45] 60))] = .ret (.int (3 ^ 60 / 2)) [] := by
    rw [indexof_ok (n := 4) (lt_rep (.inr (.inl rfl))) (by rw [len_rep]; decide), show idx (rep [45] 60) = 3 ^ 60 / 2 by decide +kernel]
  have i4 : callN P 7 8 [.val (.str [])] = .ret (.int 0) [] := indexof_ok (n := 4) (w := []) (fun c hc => by cases hc) (by decide)
  have w1 : callN P 7 9 [.val (.int 3), .val (.int 21)] = .ret (.str [98, 45, 98]) [] := by
    have := wordat_idx (n := 4) lb2 (by decide)
    rw [show idx [98, 45, 98] = 21 by decide] at this
    exact this
  have w2 : callN P 7 9 [.val (.int 2), .val (.int 6)] = .ret (.str [98, 97]) [] := by
    have := wordat_idx (n := 4) lb (by decide)
    rw [show idx [98, 97] = 6 by decide] at this
    exact this
  have w3 : callN P 7 9 [.val (.int 60), .val (.int (3 ^ 60 - 1))] = .ret (.str (rep [98] 60)) [] := by
    have := wordat_idx (n := 4) (lt_rep (c := 98) (.inr (.inr rfl))) (by rw [len_rep]; decide)
    rw [show idx (rep [98] 60) = 3 ^ 60 - 1 by decide +kernel, len_rep] at this
    exact this
  have w4 : callN P 7 9 [.val (.int 0), .val (.int 0)] = .ret (.str []) [] := wordat_idx (n := 4) (w := []) (fun c hc => by cases hc) (by decide)
  have p60 : callN P 7 14 [.val (.int 60)] = .ret (.int (3 ^ 60)) [] := pow_ok2 (n := 6) (r := 60) (by decide)
  have iw : callN P 7 2 [.val (.str [])] = .ret (.bl true) [] := isword_str (n := 6) (w := [])
  have d60 : Op.g .div (.int (3 ^ 60)) (.int 2) = some (.int (3 ^ 60 / 2)) := g_div (by decide) (big_of (k := 8) (by decide) (by decide))
  have hL : (3 : Nat) ≤ LINE := by unfold LINE; omega
  have hL0 : (0 : Nat) < LINE := by unfold LINE; omega
  have hL1 : (1 : Nat) < LINE := by unfold LINE; omega
  have hL2 : (2 : Nat) < LINE := by unfold LINE; omega
  have sm : small m = true := by unfold small; simp; omega
  let z : St := [.val (.lst (ns.map .int)), s1, t2, s3, s4, s5, t6, s7, s8, s9]
  have c0 : evi (callN P 7) G (.e (.lst [.str [98, 97], .str [98, 45, 98], .bin .mul (.str [45]) (.int 60)])) z = .ok [.str [98, 97], .str [98, 45, 98], .str (rep [45] 60)] z := by
    simp [evi, ev, evs, m_rep, R.of, hL, itemsD]
  have c1 : compL (compB (.one 7) (evc (callN P 7) G none) (ev (callN P 7) G (.call 8 [.var 7])) [7]) [.str [98, 97], .str [98, 45, 98], .str (rep [45] 60)] [] (wipeS [7] z) = .ok [.int 6, .int 21, .int (3 ^ 60 / 2)] (wipeS [7] z) := by
    simp [compL, compB, setTg, setv, evc, ev, evs, rdv, i1, i2, i3, CR.val, wipeS, z, hL0, hL1, hL2]
  have c2 : ev (callN P 7) G (.comp (.call 8 [.var 7]) (.one 7) (.e (.lst [.str [98, 97], .str [98, 45, 98], .bin .mul (.str [45]) (.int 60)])) none [7]) z = .ok (.lst [.int 6, .int 21, .int (3 ^ 60 / 2)]) z := by
    rw [ev_comp, compR_of c0 c1]
    rfl
  have c3 : ev (callN P 7) G (.lst [.int 6, .int 21, .bin .div (.call 14 [.int 60]) (.int 2)]) z = .ok (.lst [.int 6, .int 21, .int (3 ^ 60 / 2)]) z := by
    have : ev (callN P 7) G (.bin .div (.call 14 [.int 60]) (.int 2)) z = .ok (.int (3 ^ 60 / 2)) z := ev_bin (r1 := z) (r2 := z) (x := .int (3 ^ 60)) (y := .int 2) (by simp only [ev, evs, R.bind_ok, List.map_cons, List.map_nil, p60, CR.val]) (by simp only [ev]) d60
    exact ev_lst (evs_ok ev_int (evs_ok ev_int (evs_ok this evs_nil))) hL
  have f1 : ex (callN P 7) G (.cond (.cmp .ne (.comp (.call 8 [.var 7]) (.one 7) (.e (.lst [.str [98, 97], .str [98, 45, 98], .bin .mul (.str [45]) (.int 60)])) none [7]) (.lst [.int 6, .int 21, .bin .div (.call 14 [.int 60]) (.int 2)])) [.ret (.bl false)] []) z = .nx z := by
    have : ev (callN P 7) G (.cmp .ne (.comp (.call 8 [.var 7]) (.one 7) (.e (.lst [.str [98, 97], .str [98, 45, 98], .bin .mul (.str [45]) (.int 60)])) none [7]) (.lst [.int 6, .int 21, .bin .div (.call 14 [.int 60]) (.int 2)])) z = .ok (.bl false) z := by
      rw [ev, c2]
      simp only [R.bind_ok, c3, Cp.f, eqD_3, Option.map_some, R.of_some, Bool.not_true]
    rw [ex, this]
    simp only [R.fl_ok, exs]
  have q3 : ∀ r, ev (callN P 7) G (.call 9 [.int 60, .bin .sub (.call 14 [.int 60]) (.int 1)]) r = .ok (.str (rep [98] 60)) r := fun r => by
    have : ev (callN P 7) G (.bin .sub (.call 14 [.int 60]) (.int 1)) r = .ok (.int (3 ^ 60 - 1)) r := ev_bin (r1 := r) (r2 := r) (x := .int (3 ^ 60)) (y := .int 1) (by simp only [ev, evs, R.bind_ok, List.map_cons, List.map_nil, p60, CR.val]) (by simp only [ev]) rfl
    exact ev_call (evs_ok ev_int (evs_ok this evs_nil)) w3
  have q4 : ∀ r, ev (callN P 7) G (.bin .mul (.str [98]) (.int 60)) r = .ok (.str (rep [98] 60)) r := fun r => ev_bin (r1 := r) (r2 := r) (x := .str [98]) (y := .int 60) (by simp only [ev]) (by simp only [ev]) (m_rep 98)
  have q5 : ∀ r, ev (callN P 7) G (.cmp .ne (.call 9 [.int 60, .bin .sub (.call 14 [.int 60]) (.int 1)]) (.bin .mul (.str [98]) (.int 60))) r = .ok (.bl false) r := fun r => by
    rw [ev, q3]
    simp only [R.bind_ok, q4, Cp.f, eqD_str, Option.map_some, R.of_some, beq_self_eq_true, Bool.not_true]
  have f2 : ex (callN P 7) G (.cond (.or (.cmp .ne (.call 9 [.int 3, .int 21]) (.str [98, 45, 98])) (.or (.cmp .ne (.call 9 [.int 2, .int 6]) (.str [98, 97])) (.cmp .ne (.call 9 [.int 60, .bin .sub (.call 14 [.int 60]) (.int 1)]) (.bin .mul (.str [98]) (.int 60))))) [.ret (.bl false)] []) z = .nx z := by
    have a1 : ev (callN P 7) G (.cmp .ne (.call 9 [.int 3, .int 21]) (.str [98, 45, 98])) z = .ok (.bl false) z := by simp [ev, evs, w1, CR.val, Cp.f, eqD_str, R.of]
    have a2 : ev (callN P 7) G (.cmp .ne (.call 9 [.int 2, .int 6]) (.str [98, 97])) z = .ok (.bl false) z := by simp [ev, evs, w2, CR.val, Cp.f, eqD_str, R.of]
    rw [ex, ev, a1]
    simp only [R.bind_ok]
    rw [ev, a2]
    simp only [R.bind_ok, q5, tru, Option.map_some, R.of_some, R.fl_ok, exs]
  refine ⟨[], ?_⟩
  rw [call_of (f := ⟨1, 10, b_law⟩) rfl]
  refine run_rt (r := z) rfl ?_ rfl
  show exs (callN P 7) G b_law [.val (.lst (ns.map .int)), .no, .no, .no, .no, .no, .no, .no, .no, .no] = _
  unfold b_law
  unfold bR bK bT bS at e1
  unfold bL bM at e2
  rw [exs_nx ((ex_loop (xs := rngL 0 m) (r1 := [.val (.lst (ns.map .int)), .no, .no, .no, .no, .no, .no, .no, .no, .no]) (by
      have x1 : ev (callN P 7) G (.bi .max2 [.bi .min2 [.lenv 0, .int 5], .int 1]) [.val (.lst (ns.map .int)), .no, .no, .no, .no, .no, .no, .no, .no, .no] = .ok (.int m) [.val (.lst (ns.map .int)), .no, .no, .no, .no, .no, .no, .no, .no, .no] := by
        simp only [ev, evs, pkv, List.getElem?_cons_zero, Option.bind_some, lenD, List.length_map, R.of_some, R.bind_ok, Bi.g, Bi.f, hm2]
      simp [evi, x1, rng1, sm, R.of])).trans e1),
    exs_nx ((ex_loop (xs := rngL 0 5) (r1 := [.val (.lst (ns.map .int)), s1, s2, s3, s4, s5, s6, s7, s8, s9]) (by simp [evi, ev, rng1, small, R.of])).trans e2)]
  rw [exs_nx (r1 := z) f1, exs_nx (r1 := z) f2]
  refine exs_rt (ex_ret ?_)
  simp [ev, evs, i4, w4, iw, CR.val, Cp.f, eqD_int, eqD_str, R.of, tru]
end L
end Z

namespace Z
namespace L
open PySem PySem.Spec PyProof.Rows L2
def top (i : Nat) : Stmt := PySem.Challenge.pw_lossdepth_k01_words_and_indexes.main.body.getD i (.Pass ⟨0, 0, 0, 0⟩)
def dd (n : Str) (i : Nat) : He.DefD := ⟨(n, none), n, n, defArgs (top i), defBody (top i), defScope (top i), [], []⟩
def ds : List DefS := [⟨"is_integer", top 7, ["value"], 1, b_is_integer⟩] ++ [⟨"check_rounds", top 8, ["rounds"], 1, b_check_rounds⟩] ++ [⟨"is_word", top 9, ["value", "letter"], 1, b_is_word⟩] ++ [⟨"check_word", top 10, ["word"], 1, b_check_word⟩] ++ [⟨"power", top 11, ["rounds", "found", "turn"], 1, b_power⟩] ++ [⟨"letters_at", top 12, ["index"], 1, b_letters_at⟩] ++ [⟨"index_from", top 13, ["word", "index", "letter"], 1, b_index_from⟩] ++ [⟨"word_from", top 14, ["rounds", "index", "word", "done", "turn", "part", "letter"], 2, b_word_from⟩] ++ [⟨"index_of", top 15, ["word"], 1, b_index_of⟩] ++ [⟨"word_at", top 16, ["rounds", "index"], 2, b_word_at⟩] ++ [⟨"_law_mixed", top 18, ["_law_cell_here", "_law_k", "_law_mix"], 2, b__law_mixed⟩] ++ [⟨"_law_cell", top 19, ["_law_script", "_law_k", "_law_cell_here", "_law_found", "_law_j"], 2, b__law_cell⟩] ++ [⟨"_law_take", top 20, ["_law_own", "_law_length", "_law_digit"], 2, b__law_take⟩] ++ [⟨"_law_text", top 21, ["_law_own", "_law_most", "_law_k"], 2, b__law_text⟩] ++ [⟨"_law_power", top 22, ["_law_length", "_law_found", "_law_k"], 1, b__law_power⟩] ++ [⟨"_law_spot", top 23, ["_law_text_here", "_law_found", "_law_sign", "_law_offset"], 1, b__law_spot⟩] ++ [⟨"_law_good", top 24, ["_law_text_here", "_law_spot_here", "_law_found"], 1, b__law_good⟩] ++ [⟨"_law_is", top 25, ["_law_thing", "_law_sign"], 1, b__law_is⟩] ++ [⟨"_law_things", top 26, ["_law_own", "_law_text_here", "_law_at", "_law_odd", "_law_some"], 2, b__law_things⟩] ++ [⟨"law", top 27, ["_law_script", "_law_turn", "_law_length", "_law_own", "_law_k", "_law_last", "_law_spot_here", "_law_text_here", "_law_thing", "_law_found"], 1, b_law⟩]
def T : Tb := ⟨["LETTERS", "MOST_ROUNDS"], [("is_integer", 1), ("check_rounds", 1), ("is_word", 1), ("check_word", 1), ("power", 1), ("letters_at", 1), ("index_from", 1), ("word_from", 2), ("index_of", 1), ("word_at", 2), ("_law_mixed", 2), ("_law_cell", 2), ("_law_take", 2), ("_law_text", 2), ("_law_power", 1), ("_law_spot", 1), ("_law_good", 1), ("_law_is", 1), ("_law_things", 2), ("law", 1)], [(2, ["value"], [0]), (8, ["word"], [0]), (9, ["index", "rounds"], [1, 0])], ["all", "bool", "int", "isinstance", "len", "list", "max", "min", "range", "str"]⟩
def fn : List He.DefD := ([dd "is_integer" 7, dd "check_rounds" 8, dd "is_word" 9, dd "check_word" 10, dd "power" 11, dd "letters_at" 12, dd "index_from" 13, dd "word_from" 14, dd "index_of" 15, dd "word_at" 16, dd "_law_mixed" 18, dd "_law_cell" 19, dd "_law_take" 20, dd "_law_text" 21, dd "_law_power" 22, dd "_law_spot" 23, dd "_law_good" 24, dd "_law_is" 25, dd "_law_things" 26, dd "law" 27] : List He.DefD)
def fa : List He.Fa := ([.glo "is_integer", .glo "check_rounds", .glo "is_word", .glo "check_word", .glo "power", .glo "letters_at", .glo "index_from", .glo "word_from", .glo "index_of", .glo "word_at", .glo "_law_mixed", .glo "_law_cell", .glo "_law_take", .glo "_law_text", .glo "_law_power", .glo "_law_spot", .glo "_law_good", .glo "_law_is", .glo "_law_things", .glo "law", .str "LETTERS" "a-b", .int "MOST_ROUNDS" 60, .free "all", .free "bool", .free "int", .free "isinstance", .free "len", .free "list", .free "max", .free "min"] : List He.Fa) ++ ([.free "range", .free "str"] : List He.Fa)
end L
end Z
namespace Z
namespace L
theorem law_true (ns : List Int) (h : ns.length ≤ 63) : ∃ o, callN (progOf ds G) 8 19 [.val (.lst (ns.map .int))] = .ret (.bl true) o := law_true' ns
end L
end Z
namespace Z
namespace L
open PySem PySem.Spec PyProof.Rows L2
abbrev R : PySem.W.OpenRow := PySem.W.OpenLaw.row PySem.Challenge.rw_lossdepth_k01_words_and_indexes
abbrev hk : PySem.W.Hook := He.hookD 4 fa fn
def ob (s : PySem.W.SharedT) : He.AlD := He.obsDG 4 fa fn (HandSHeadRun.getT s)
theorem ob_eq (s : PySem.W.SharedT) : ob s = hk.obs s.abs := He.obsDG_eq (HandSHeadRun.getT_eq s)
def loose : List Str := (["LossError", "InvalidWord", "InvalidNumber", "LETTERS", "MOST_ROUNDS", "is_integer", "check_rounds", "is_word", "check_word", "power", "letters_at", "index_from", "word_from", "index_of", "word_at", "_law_mixed", "_law_cell", "_law_take", "_law_text", "_law_power", "_law_spot", "_law_good", "_law_is", "_law_things"] : List Str)
theorem run (w : World) : HandSHeadRun.RunEq R (PySem.W.view R.prog [27]) hk ob 4000 loose w := by
  intro os
  kernel_rfl
theorem ds_ok : ds.all (DefS.ok T) = true := by kernel_rfl
theorem df_0 {K : PySem.W.Frag} {h : Heap} {mg : Str → Option Value} (X : K.In h) (G : h.Ns mainGlobals mg) (c : He.SaysD fa fn K) : ∃ fa fd, FunD K "is_integer" "is_integer" (defArgs (top 7)) (defBody (top 7)) (defScope (top 7)) [] [] fa fd ∧ mg "is_integer" = some (.ref fa) ∧ Binds K fd ["value"] [] ∧ (∀ nms ks, (0, nms, ks) ∈ T.kb → ks.length = 1 ∧ KBinds K fd ["value"] nms (gK nms.length ks .none) (gK nms.length ks .non)) := by
  obtain ⟨fd, F⟩ := c.def_ 0 (d := dd "is_integer" 7) rfl
  have b : Binds K fd ["value"] [] := FunD.bindsN F fun _ _ _ _ _ _ us hl => match us, hl with | [_], _ => rfl
  refine ⟨_, fd, F, He.glo_ok X G (c.fact 0 (f := .glo "is_integer") rfl), b, fun nms ks hm => ?_⟩
  simp only [T, List.mem_cons, Prod.mk.injEq, List.not_mem_nil, or_false] at hm
  exact absurd hm (by simp)
theorem df_1 {K : PySem.W.Frag} {h : Heap} {mg : Str → Option Value} (X : K.In h) (G : h.Ns mainGlobals mg) (c : He.SaysD fa fn K) : ∃ fa fd, FunD K "check_rounds" "check_rounds" (defArgs (top 8)) (defBody (top 8)) (defScope (top 8)) [] [] fa fd ∧ mg "check_rounds" = some (.ref fa) ∧ Binds K fd ["rounds"] [] ∧ (∀ nms ks, (1, nms, ks) ∈ T.kb → ks.length = 1 ∧ KBinds K fd ["rounds"] nms (gK nms.length ks .none) (gK nms.length ks .non)) := by
  obtain ⟨fd, F⟩ := c.def_ 1 (d := dd "check_rounds" 8) rfl
  have b : Binds K fd ["rounds"] [] := FunD.bindsN F fun _ _ _ _ _ _ us hl => match us, hl with | [_], _ => rfl
  refine ⟨_, fd, F, He.glo_ok X G (c.fact 1 (f := .glo "check_rounds") rfl), b, fun nms ks hm => ?_⟩
  simp only [T, List.mem_cons, Prod.mk.injEq, List.not_mem_nil, or_false] at hm
  exact absurd hm (by simp)
theorem df_2 {K : PySem.W.Frag} {h : Heap} {mg : Str → Option Value} (X : K.In h) (G : h.Ns mainGlobals mg) (c : He.SaysD fa fn K) : ∃ fa fd, FunD K "is_word" "is_word" (defArgs (top 9)) (defBody (top 9)) (defScope (top 9)) [] [] fa fd ∧ mg "is_word" = some (.ref fa) ∧ Binds K fd ["value"] [] ∧ (∀ nms ks, (2, nms, ks) ∈ T.kb → ks.length = 1 ∧ KBinds K fd ["value"] nms (gK nms.length ks .none) (gK nms.length ks .non)) := by
  obtain ⟨fd, F⟩ := c.def_ 2 (d := dd "is_word" 9) rfl
  have b : Binds K fd ["value"] [] := FunD.bindsN F fun _ _ _ _ _ _ us hl => match us, hl with | [_], _ => rfl
  refine ⟨_, fd, F, He.glo_ok X G (c.fact 2 (f := .glo "is_word") rfl), b, fun nms ks hm => ?_⟩
  simp only [T, List.mem_cons, Prod.mk.injEq, List.not_mem_nil, or_false] at hm
  rcases hm with ⟨z, rfl, rfl⟩ | ⟨z, rfl, rfl⟩ | ⟨z, rfl, rfl⟩
  · exact ⟨rfl, kb_of (nms := ["value"]) (ks := [0]) F (by decide) fun _ _ _ _ _ _ ws hl => match ws, hl with | [_], _ => rfl⟩
  · exact absurd z (by decide)
  · exact absurd z (by decide)
theorem df_3 {K : PySem.W.Frag} {h : Heap} {mg : Str → Option Value} (X : K.In h) (G : h.Ns mainGlobals mg) (c : He.SaysD fa fn K) : ∃ fa fd, FunD K "check_word" "check_word" (defArgs (top 10)) (defBody (top 10)) (defScope (top 10)) [] [] fa fd ∧ mg "check_word" = some (.ref fa) ∧ Binds K fd ["word"] [] ∧ (∀ nms ks, (3, nms, ks) ∈ T.kb → ks.length = 1 ∧ KBinds K fd ["word"] nms (gK nms.length ks .none) (gK nms.length ks .non)) := by
  obtain ⟨fd, F⟩ := c.def_ 3 (d := dd "check_word" 10) rfl
  have b : Binds K fd ["word"] [] := FunD.bindsN F fun _ _ _ _ _ _ us hl => match us, hl with | [_], _ => rfl
  refine ⟨_, fd, F, He.glo_ok X G (c.fact 3 (f := .glo "check_word") rfl), b, fun nms ks hm => ?_⟩
  simp only [T, List.mem_cons, Prod.mk.injEq, List.not_mem_nil, or_false] at hm
  exact absurd hm (by simp)
theorem df_4 {K : PySem.W.Frag} {h : Heap} {mg : Str → Option Value} (X : K.In h) (G : h.Ns mainGlobals mg) (c : He.SaysD fa fn K) : ∃ fa fd, FunD K "power" "power" (defArgs (top 11)) (defBody (top 11)) (defScope (top 11)) [] [] fa fd ∧ mg "power" = some (.ref fa) ∧ Binds K fd ["rounds"] [] ∧ (∀ nms ks, (4, nms, ks) ∈ T.kb → ks.length = 1 ∧ KBinds K fd ["rounds"] nms (gK nms.length ks .none) (gK nms.length ks .non)) := by
  obtain ⟨fd, F⟩ := c.def_ 4 (d := dd "power" 11) rfl
  have b : Binds K fd ["rounds"] [] := FunD.bindsN F fun _ _ _ _ _ _ us hl => match us, hl with | [_], _ => rfl
  refine ⟨_, fd, F, He.glo_ok X G (c.fact 4 (f := .glo "power") rfl), b, fun nms ks hm => ?_⟩
  simp only [T, List.mem_cons, Prod.mk.injEq, List.not_mem_nil, or_false] at hm
  exact absurd hm (by simp)
theorem df_5 {K : PySem.W.Frag} {h : Heap} {mg : Str → Option Value} (X : K.In h) (G : h.Ns mainGlobals mg) (c : He.SaysD fa fn K) : ∃ fa fd, FunD K "letters_at" "letters_at" (defArgs (top 12)) (defBody (top 12)) (defScope (top 12)) [] [] fa fd ∧ mg "letters_at" = some (.ref fa) ∧ Binds K fd ["index"] [] ∧ (∀ nms ks, (5, nms, ks) ∈ T.kb → ks.length = 1 ∧ KBinds K fd ["index"] nms (gK nms.length ks .none) (gK nms.length ks .non)) := by
  obtain ⟨fd, F⟩ := c.def_ 5 (d := dd "letters_at" 12) rfl
  have b : Binds K fd ["index"] [] := FunD.bindsN F fun _ _ _ _ _ _ us hl => match us, hl with | [_], _ => rfl
  refine ⟨_, fd, F, He.glo_ok X G (c.fact 5 (f := .glo "letters_at") rfl), b, fun nms ks hm => ?_⟩
  simp only [T, List.mem_cons, Prod.mk.injEq, List.not_mem_nil, or_false] at hm
  exact absurd hm (by simp)
theorem df_6 {K : PySem.W.Frag} {h : Heap} {mg : Str → Option Value} (X : K.In h) (G : h.Ns mainGlobals mg) (c : He.SaysD fa fn K) : ∃ fa fd, FunD K "index_from" "index_from" (defArgs (top 13)) (defBody (top 13)) (defScope (top 13)) [] [] fa fd ∧ mg "index_from" = some (.ref fa) ∧ Binds K fd ["word"] [] ∧ (∀ nms ks, (6, nms, ks) ∈ T.kb → ks.length = 1 ∧ KBinds K fd ["word"] nms (gK nms.length ks .none) (gK nms.length ks .non)) := by
  obtain ⟨fd, F⟩ := c.def_ 6 (d := dd "index_from" 13) rfl
  have b : Binds K fd ["word"] [] := FunD.bindsN F fun _ _ _ _ _ _ us hl => match us, hl with | [_], _ => rfl
  refine ⟨_, fd, F, He.glo_ok X G (c.fact 6 (f := .glo "index_from") rfl), b, fun nms ks hm => ?_⟩
  simp only [T, List.mem_cons, Prod.mk.injEq, List.not_mem_nil, or_false] at hm
  exact absurd hm (by simp)
theorem df_7 {K : PySem.W.Frag} {h : Heap} {mg : Str → Option Value} (X : K.In h) (G : h.Ns mainGlobals mg) (c : He.SaysD fa fn K) : ∃ fa fd, FunD K "word_from" "word_from" (defArgs (top 14)) (defBody (top 14)) (defScope (top 14)) [] [] fa fd ∧ mg "word_from" = some (.ref fa) ∧ Binds K fd ["rounds", "index"] [] ∧ (∀ nms ks, (7, nms, ks) ∈ T.kb → ks.length = 2 ∧ KBinds K fd ["rounds", "index"] nms (gK nms.length ks .none) (gK nms.length ks .non)) := by
  obtain ⟨fd, F⟩ := c.def_ 7 (d := dd "word_from" 14) rfl
  have b : Binds K fd ["rounds", "index"] [] := FunD.bindsN F fun _ _ _ _ _ _ us hl => match us, hl with | [_, _], _ => rfl
  refine ⟨_, fd, F, He.glo_ok X G (c.fact 7 (f := .glo "word_from") rfl), b, fun nms ks hm => ?_⟩
  simp only [T, List.mem_cons, Prod.mk.injEq, List.not_mem_nil, or_false] at hm
  exact absurd hm (by simp)
theorem df_8 {K : PySem.W.Frag} {h : Heap} {mg : Str → Option Value} (X : K.In h) (G : h.Ns mainGlobals mg) (c : He.SaysD fa fn K) : ∃ fa fd, FunD K "index_of" "index_of" (defArgs (top 15)) (defBody (top 15)) (defScope (top 15)) [] [] fa fd ∧ mg "index_of" = some (.ref fa) ∧ Binds K fd ["word"] [] ∧ (∀ nms ks, (8, nms, ks) ∈ T.kb → ks.length = 1 ∧ KBinds K fd ["word"] nms (gK nms.length ks .none) (gK nms.length ks .non)) := by
  obtain ⟨fd, F⟩ := c.def_ 8 (d := dd "index_of" 15) rfl
  have b : Binds K fd ["word"] [] := FunD.bindsN F fun _ _ _ _ _ _ us hl => match us, hl with | [_], _ => rfl
  refine ⟨_, fd, F, He.glo_ok X G (c.fact 8 (f := .glo "index_of") rfl), b, fun nms ks hm => ?_⟩
  simp only [T, List.mem_cons, Prod.mk.injEq, List.not_mem_nil, or_false] at hm
  rcases hm with ⟨z, rfl, rfl⟩ | ⟨z, rfl, rfl⟩ | ⟨z, rfl, rfl⟩
  · exact absurd z (by decide)
  · exact ⟨rfl, kb_of (nms := ["word"]) (ks := [0]) F (by decide) fun _ _ _ _ _ _ ws hl => match ws, hl with | [_], _ => rfl⟩
  · exact absurd z (by decide)
theorem df_9 {K : PySem.W.Frag} {h : Heap} {mg : Str → Option Value} (X : K.In h) (G : h.Ns mainGlobals mg) (c : He.SaysD fa fn K) : ∃ fa fd, FunD K "word_at" "word_at" (defArgs (top 16)) (defBody (top 16)) (defScope (top 16)) [] [] fa fd ∧ mg "word_at" = some (.ref fa) ∧ Binds K fd ["rounds", "index"] [] ∧ (∀ nms ks, (9, nms, ks) ∈ T.kb → ks.length = 2 ∧ KBinds K fd ["rounds", "index"] nms (gK nms.length ks .none) (gK nms.length ks .non)) := by
  obtain ⟨fd, F⟩ := c.def_ 9 (d := dd "word_at" 16) rfl
  have b : Binds K fd ["rounds", "index"] [] := FunD.bindsN F fun _ _ _ _ _ _ us hl => match us, hl with | [_, _], _ => rfl
  refine ⟨_, fd, F, He.glo_ok X G (c.fact 9 (f := .glo "word_at") rfl), b, fun nms ks hm => ?_⟩
  simp only [T, List.mem_cons, Prod.mk.injEq, List.not_mem_nil, or_false] at hm
  rcases hm with ⟨z, rfl, rfl⟩ | ⟨z, rfl, rfl⟩ | ⟨z, rfl, rfl⟩
  · exact absurd z (by decide)
  · exact absurd z (by decide)
  · exact ⟨rfl, kb_of (nms := ["index", "rounds"]) (ks := [1, 0]) F (by decide) fun _ _ _ _ _ _ ws hl => match ws, hl with | [_, _], _ => rfl⟩
theorem df_10 {K : PySem.W.Frag} {h : Heap} {mg : Str → Option Value} (X : K.In h) (G : h.Ns mainGlobals mg) (c : He.SaysD fa fn K) : ∃ fa fd, FunD K "_law_mixed" "_law_mixed" (defArgs (top 18)) (defBody (top 18)) (defScope (top 18)) [] [] fa fd ∧ mg "_law_mixed" = some (.ref fa) ∧ Binds K fd ["_law_cell_here", "_law_k"] [] ∧ (∀ nms ks, (10, nms, ks) ∈ T.kb → ks.length = 2 ∧ KBinds K fd ["_law_cell_here", "_law_k"] nms (gK nms.length ks .none) (gK nms.length ks .non)) := by
  obtain ⟨fd, F⟩ := c.def_ 10 (d := dd "_law_mixed" 18) rfl
  have b : Binds K fd ["_law_cell_here", "_law_k"] [] := FunD.bindsN F fun _ _ _ _ _ _ us hl => match us, hl with | [_, _], _ => rfl
  refine ⟨_, fd, F, He.glo_ok X G (c.fact 10 (f := .glo "_law_mixed") rfl), b, fun nms ks hm => ?_⟩
  simp only [T, List.mem_cons, Prod.mk.injEq, List.not_mem_nil, or_false] at hm
  exact absurd hm (by simp)
theorem df_11 {K : PySem.W.Frag} {h : Heap} {mg : Str → Option Value} (X : K.In h) (G : h.Ns mainGlobals mg) (c : He.SaysD fa fn K) : ∃ fa fd, FunD K "_law_cell" "_law_cell" (defArgs (top 19)) (defBody (top 19)) (defScope (top 19)) [] [] fa fd ∧ mg "_law_cell" = some (.ref fa) ∧ Binds K fd ["_law_script", "_law_k"] [] ∧ (∀ nms ks, (11, nms, ks) ∈ T.kb → ks.length = 2 ∧ KBinds K fd ["_law_script", "_law_k"] nms (gK nms.length ks .none) (gK nms.length ks .non)) := by
  obtain ⟨fd, F⟩ := c.def_ 11 (d := dd "_law_cell" 19) rfl
  have b : Binds K fd ["_law_script", "_law_k"] [] := FunD.bindsN F fun _ _ _ _ _ _ us hl => match us, hl with | [_, _], _ => rfl
  refine ⟨_, fd, F, He.glo_ok X G (c.fact 11 (f := .glo "_law_cell") rfl), b, fun nms ks hm => ?_⟩
  simp only [T, List.mem_cons, Prod.mk.injEq, List.not_mem_nil, or_false] at hm
  exact absurd hm (by simp)
theorem df_12 {K : PySem.W.Frag} {h : Heap} {mg : Str → Option Value} (X : K.In h) (G : h.Ns mainGlobals mg) (c : He.SaysD fa fn K) : ∃ fa fd, FunD K "_law_take" "_law_take" (defArgs (top 20)) (defBody (top 20)) (defScope (top 20)) [] [] fa fd ∧ mg "_law_take" = some (.ref fa) ∧ Binds K fd ["_law_own", "_law_length"] [] ∧ (∀ nms ks, (12, nms, ks) ∈ T.kb → ks.length = 2 ∧ KBinds K fd ["_law_own", "_law_length"] nms (gK nms.length ks .none) (gK nms.length ks .non)) := by
  obtain ⟨fd, F⟩ := c.def_ 12 (d := dd "_law_take" 20) rfl
  have b : Binds K fd ["_law_own", "_law_length"] [] := FunD.bindsN F fun _ _ _ _ _ _ us hl => match us, hl with | [_, _], _ => rfl
  refine ⟨_, fd, F, He.glo_ok X G (c.fact 12 (f := .glo "_law_take") rfl), b, fun nms ks hm => ?_⟩
  simp only [T, List.mem_cons, Prod.mk.injEq, List.not_mem_nil, or_false] at hm
  exact absurd hm (by simp)
theorem df_13 {K : PySem.W.Frag} {h : Heap} {mg : Str → Option Value} (X : K.In h) (G : h.Ns mainGlobals mg) (c : He.SaysD fa fn K) : ∃ fa fd, FunD K "_law_text" "_law_text" (defArgs (top 21)) (defBody (top 21)) (defScope (top 21)) [] [] fa fd ∧ mg "_law_text" = some (.ref fa) ∧ Binds K fd ["_law_own", "_law_most"] [] ∧ (∀ nms ks, (13, nms, ks) ∈ T.kb → ks.length = 2 ∧ KBinds K fd ["_law_own", "_law_most"] nms (gK nms.length ks .none) (gK nms.length ks .non)) := by
  obtain ⟨fd, F⟩ := c.def_ 13 (d := dd "_law_text" 21) rfl
  have b : Binds K fd ["_law_own", "_law_most"] [] := FunD.bindsN F fun _ _ _ _ _ _ us hl => match us, hl with | [_, _], _ => rfl
  refine ⟨_, fd, F, He.glo_ok X G (c.fact 13 (f := .glo "_law_text") rfl), b, fun nms ks hm => ?_⟩
  simp only [T, List.mem_cons, Prod.mk.injEq, List.not_mem_nil, or_false] at hm
  exact absurd hm (by simp)
theorem df_14 {K : PySem.W.Frag} {h : Heap} {mg : Str → Option Value} (X : K.In h) (G : h.Ns mainGlobals mg) (c : He.SaysD fa fn K) : ∃ fa fd, FunD K "_law_power" "_law_power" (defArgs (top 22)) (defBody (top 22)) (defScope (top 22)) [] [] fa fd ∧ mg "_law_power" = some (.ref fa) ∧ Binds K fd ["_law_length"] [] ∧ (∀ nms ks, (14, nms, ks) ∈ T.kb → ks.length = 1 ∧ KBinds K fd ["_law_length"] nms (gK nms.length ks .none) (gK nms.length ks .non)) := by
  obtain ⟨fd, F⟩ := c.def_ 14 (d := dd "_law_power" 22) rfl
  have b : Binds K fd ["_law_length"] [] := FunD.bindsN F fun _ _ _ _ _ _ us hl => match us, hl with | [_], _ => rfl
  refine ⟨_, fd, F, He.glo_ok X G (c.fact 14 (f := .glo "_law_power") rfl), b, fun nms ks hm => ?_⟩
  simp only [T, List.mem_cons, Prod.mk.injEq, List.not_mem_nil, or_false] at hm
  exact absurd hm (by simp)
theorem df_15 {K : PySem.W.Frag} {h : Heap} {mg : Str → Option Value} (X : K.In h) (G : h.Ns mainGlobals mg) (c : He.SaysD fa fn K) : ∃ fa fd, FunD K "_law_spot" "_law_spot" (defArgs (top 23)) (defBody (top 23)) (defScope (top 23)) [] [] fa fd ∧ mg "_law_spot" = some (.ref fa) ∧ Binds K fd ["_law_text_here"] [] ∧ (∀ nms ks, (15, nms, ks) ∈ T.kb → ks.length = 1 ∧ KBinds K fd ["_law_text_here"] nms (gK nms.length ks .none) (gK nms.length ks .non)) := by
  obtain ⟨fd, F⟩ := c.def_ 15 (d := dd "_law_spot" 23) rfl
  have b : Binds K fd ["_law_text_here"] [] := FunD.bindsN F fun _ _ _ _ _ _ us hl => match us, hl with | [_], _ => rfl
  refine ⟨_, fd, F, He.glo_ok X G (c.fact 15 (f := .glo "_law_spot") rfl), b, fun nms ks hm => ?_⟩
  simp only [T, List.mem_cons, Prod.mk.injEq, List.not_mem_nil, or_false] at hm
  exact absurd hm (by simp)
theorem df_16 {K : PySem.W.Frag} {h : Heap} {mg : Str → Option Value} (X : K.In h) (G : h.Ns mainGlobals mg) (c : He.SaysD fa fn K) : ∃ fa fd, FunD K "_law_good" "_law_good" (defArgs (top 24)) (defBody (top 24)) (defScope (top 24)) [] [] fa fd ∧ mg "_law_good" = some (.ref fa) ∧ Binds K fd ["_law_text_here"] [] ∧ (∀ nms ks, (16, nms, ks) ∈ T.kb → ks.length = 1 ∧ KBinds K fd ["_law_text_here"] nms (gK nms.length ks .none) (gK nms.length ks .non)) := by
  obtain ⟨fd, F⟩ := c.def_ 16 (d := dd "_law_good" 24) rfl
  have b : Binds K fd ["_law_text_here"] [] := FunD.bindsN F fun _ _ _ _ _ _ us hl => match us, hl with | [_], _ => rfl
  refine ⟨_, fd, F, He.glo_ok X G (c.fact 16 (f := .glo "_law_good") rfl), b, fun nms ks hm => ?_⟩
  simp only [T, List.mem_cons, Prod.mk.injEq, List.not_mem_nil, or_false] at hm
  exact absurd hm (by simp)
theorem df_17 {K : PySem.W.Frag} {h : Heap} {mg : Str → Option Value} (X : K.In h) (G : h.Ns mainGlobals mg) (c : He.SaysD fa fn K) : ∃ fa fd, FunD K "_law_is" "_law_is" (defArgs (top 25)) (defBody (top 25)) (defScope (top 25)) [] [] fa fd ∧ mg "_law_is" = some (.ref fa) ∧ Binds K fd ["_law_thing"] [] ∧ (∀ nms ks, (17, nms, ks) ∈ T.kb → ks.length = 1 ∧ KBinds K fd ["_law_thing"] nms (gK nms.length ks .none) (gK nms.length ks .non)) := by
  obtain ⟨fd, F⟩ := c.def_ 17 (d := dd "_law_is" 25) rfl
  have b : Binds K fd ["_law_thing"] [] := FunD.bindsN F fun _ _ _ _ _ _ us hl => match us, hl with | [_], _ => rfl
  refine ⟨_, fd, F, He.glo_ok X G (c.fact 17 (f := .glo "_law_is") rfl), b, fun nms ks hm => ?_⟩
  simp only [T, List.mem_cons, Prod.mk.injEq, List.not_mem_nil, or_false] at hm
  exact absurd hm (by simp)
theorem df_18 {K : PySem.W.Frag} {h : Heap} {mg : Str → Option Value} (X : K.In h) (G : h.Ns mainGlobals mg) (c : He.SaysD fa fn K) : ∃ fa fd, FunD K "_law_things" "_law_things" (defArgs (top 26)) (defBody (top 26)) (defScope (top 26)) [] [] fa fd ∧ mg "_law_things" = some (.ref fa) ∧ Binds K fd ["_law_own", "_law_text_here"] [] ∧ (∀ nms ks, (18, nms, ks) ∈ T.kb → ks.length = 2 ∧ KBinds K fd ["_law_own", "_law_text_here"] nms (gK nms.length ks .none) (gK nms.length ks .non)) := by
  obtain ⟨fd, F⟩ := c.def_ 18 (d := dd "_law_things" 26) rfl
  have b : Binds K fd ["_law_own", "_law_text_here"] [] := FunD.bindsN F fun _ _ _ _ _ _ us hl => match us, hl with | [_, _], _ => rfl
  refine ⟨_, fd, F, He.glo_ok X G (c.fact 18 (f := .glo "_law_things") rfl), b, fun nms ks hm => ?_⟩
  simp only [T, List.mem_cons, Prod.mk.injEq, List.not_mem_nil, or_false] at hm
  exact absurd hm (by simp)
theorem df_19 {K : PySem.W.Frag} {h : Heap} {mg : Str → Option Value} (X : K.In h) (G : h.Ns mainGlobals mg) (c : He.SaysD fa fn K) : ∃ fa fd, FunD K "law" "law" (defArgs (top 27)) (defBody (top 27)) (defScope (top 27)) [] [] fa fd ∧ mg "law" = some (.ref fa) ∧ Binds K fd ["_law_script"] [] ∧ (∀ nms ks, (19, nms, ks) ∈ T.kb → ks.length = 1 ∧ KBinds K fd ["_law_script"] nms (gK nms.length ks .none) (gK nms.length ks .non)) := by
  obtain ⟨fd, F⟩ := c.def_ 19 (d := dd "law" 27) rfl
  have b : Binds K fd ["_law_script"] [] := FunD.bindsN F fun _ _ _ _ _ _ us hl => match us, hl with | [_], _ => rfl
  refine ⟨_, fd, F, He.glo_ok X G (c.fact 19 (f := .glo "law") rfl), b, fun nms ks hm => ?_⟩
  simp only [T, List.mem_cons, Prod.mk.injEq, List.not_mem_nil, or_false] at hm
  exact absurd hm (by simp)
theorem facts {K : PySem.W.Frag} {h : Heap} {mg : Str → Option Value} (X : K.In h) (G : h.Ns mainGlobals mg) (c : He.SaysD fa fn K) : AllOk K mg T ds L.G := by
  refine ⟨rfl, ds_ok, fun g x z => ?_, fun x z => ?_, fun f d hd => ?_⟩
  · match g, z with
    | 0, z =>
      cases Option.some.inj z
      obtain ⟨t, e⟩ := He.str_ok X G (c.fact 20 (f := .str "LETTERS" "a-b") rfl)
      exact ⟨.str [97, 45, 98], .str "a-b", _, rfl, e, ⟨t, rfl⟩, fun F => Rep.str_iff.mpr ⟨by with_unfolding_all rfl, by decide, by decide⟩⟩
    | 1, z =>
      cases Option.some.inj z
      obtain ⟨t, e⟩ := He.int_ok X G (c.fact 21 (f := .int "MOST_ROUNDS" 60) rfl)
      exact ⟨.int 60, .int 60, _, rfl, e, ⟨t, rfl⟩, fun F => Rep.int_iff.mpr rfl⟩
    | _ + 2, z => exact absurd z (by simp [T])
  · simp only [T, List.mem_cons, List.not_mem_nil, or_false] at z
    rcases z with rfl | rfl | rfl | rfl | rfl | rfl | rfl | rfl | rfl | rfl
    · exact He.free_ok X G (c.fact 22 (f := .free "all") rfl)
    · exact He.free_ok X G (c.fact 23 (f := .free "bool") rfl)
    · exact He.free_ok X G (c.fact 24 (f := .free "int") rfl)
    · exact He.free_ok X G (c.fact 25 (f := .free "isinstance") rfl)
    · exact He.free_ok X G (c.fact 26 (f := .free "len") rfl)
    · exact He.free_ok X G (c.fact 27 (f := .free "list") rfl)
    · exact He.free_ok X G (c.fact 28 (f := .free "max") rfl)
    · exact He.free_ok X G (c.fact 29 (f := .free "min") rfl)
    · exact He.free_ok X G (c.fact 30 (f := .free "range") rfl)
    · exact He.free_ok X G (c.fact 31 (f := .free "str") rfl)
  · match f, hd with
    | 0, hd =>
      cases Option.some.inj hd
      exact df_0 X G c
    | 1, hd =>
      cases Option.some.inj hd
      exact df_1 X G c
    | 2, hd =>
      cases Option.some.inj hd
      exact df_2 X G c
    | 3, hd =>
      cases Option.some.inj hd
      exact df_3 X G c
    | 4, hd =>
      cases Option.some.inj hd
      exact df_4 X G c
    | 5, hd =>
      cases Option.some.inj hd
      exact df_5 X G c
    | 6, hd =>
      cases Option.some.inj hd
      exact df_6 X G c
    | 7, hd =>
      cases Option.some.inj hd
      exact df_7 X G c
    | 8, hd =>
      cases Option.some.inj hd
      exact df_8 X G c
    | 9, hd =>
      cases Option.some.inj hd
      exact df_9 X G c
    | 10, hd =>
      cases Option.some.inj hd
      exact df_10 X G c
    | 11, hd =>
      cases Option.some.inj hd
      exact df_11 X G c
    | 12, hd =>
      cases Option.some.inj hd
      exact df_12 X G c
    | 13, hd =>
      cases Option.some.inj hd
      exact df_13 X G c
    | 14, hd =>
      cases Option.some.inj hd
      exact df_14 X G c
    | 15, hd =>
      cases Option.some.inj hd
      exact df_15 X G c
    | 16, hd =>
      cases Option.some.inj hd
      exact df_16 X G c
    | 17, hd =>
      cases Option.some.inj hd
      exact df_17 X G c
    | 18, hd =>
      cases Option.some.inj hd
      exact df_18 X G c
    | 19, hd =>
      cases Option.some.inj hd
      exact df_19 X G c
    | _ + 20, hd => exact absurd hd (by simp [ds])
end L
end Z
open PySem PySem.W PySem.Calls PyProof.Rows
theorem PySem.Challenge.cw_lossdepth_k01_words_and_indexes_holds : PySem.Challenge.rw_lossdepth_k01_words_and_indexes.Holds := by
  w_on; o_law
  refine HandSHeadRun.head_any (r := OpenLaw.row PySem.Challenge.rw_lossdepth_k01_words_and_indexes) (q := view (OpenLaw.row PySem.Challenge.rw_lossdepth_k01_words_and_indexes).prog [27]) (H := Z.L.hk) (ob := Z.L.ob) (M := 4000) (loose := Z.L.loose) (d := HandSHeadRun.topDef (OpenLaw.row PySem.Challenge.rw_lossdepth_k01_words_and_indexes).prog 27) (kwd := []) Z.L.ob_eq
    (by kernel_rfl) (fun s => by kernel_rfl) Z.L.run (by kernel_rfl) (by kernel_rfl) (by kernel_rfl) (by rfl) (by first | assumption | decide +kernel) (by decide +kernel) ⟨rfl, rfl, rfl, rfl, rfl, by decide +kernel⟩ ?hw ?hc
  case hw => w_witness2
  case hc =>
    refine Z.walk_ofW (l := PySem.Challenge.rw_lossdepth_k01_words_and_indexes) (n := 63) (k := 8) (x := "_law_script") rfl (by decide) (by kernel_rfl) ⟨rfl, by decide, by decide⟩ ?F
    intro w mg fa h Y G hmg0
    obtain ⟨K, KX, c⟩ := Y
    have hmg : mg ("law" : PySem.Str) = some (.ref fa) := by
      have e : (HandSHeadRun.topDef (OpenLaw.row PySem.Challenge.rw_lossdepth_k01_words_and_indexes).prog 27).name = ("law" : PySem.Str) := by kernel_rfl
      rw [← e]
      exact hmg0
    have A := Z.L.facts KX G c
    obtain ⟨fd, F⟩ := c.def_ 19 (d := Z.L.dd "law" 27) rfl
    have e := hmg.symm.trans (He.glo_ok KX G (c.fact 19 (f := .glo "law") rfl))
    cases e
    have b := L2.FunD.bindsA (ps := ["_law_script"]) F fun _ _ _ _ _ _ us hl => match us, hl with | [_], _ => rfl
    refine ⟨K, fd, Z.SpOf K (fun _ => 0) 1 (Z.callN (Z.progOf Z.L.ds Z.L.G) 8 19), KX, fun s v => b s [v] rfl, fun H a ns hl _ hS => Z.law_sp hS (Z.L.law_true ns hl), fun base _ _ => ?_⟩
    have ef : Z.callN (Z.progOf Z.L.ds Z.L.G) 8 19 = Z.runFn (Z.callN (Z.progOf Z.L.ds Z.L.G) 7) Z.L.G (Z.DefS.fn (Z.L.ds.getD 19 default)) := by
      funext as
      rfl
    rw [ef]
    exact Z.def_ok (d := Z.L.ds.getD 19 default) F (by kernel_rfl) (Z.all_ok A 7)

