import PyProof.Rows.All
import Wide.All
import OpenK.AllK
import Wide.FinOn
import HandS.ForMost
import HandS.Comp
import HandS.Text
import HandS.Iter
import HandS.Dict
import HandS.Ends
import HandS.TupAny
import HandS.TupMul
import HandS.Conv
import HandS.Style
import HandS.IsInst
import HandS.More
import PyProof.ListStr
import HandS.Walk
import HandS.Zip
import KE.GoesMore
import KE.GoesEnum
import HandS.SetFor
import HandS.Strs
import KE.KDictCopyH
import KE.SortData
import PySem.Challenge.RW_reelsplice_k50_tapes_written_and_read
set_option Elab.async false
set_option linter.all false
set_option maxRecDepth 100000
set_option maxHeartbeats 4000000
/-! K1: the small language of values, its meaning, and how it stands for what the layer tracks. -/
namespace RS
open PySem PySem.Spec L2

/-- a value: data by themselves, things that change by their number -/
inductive D where
  | non | bl (b : Bool) | int (i : Int) | str (s : Str) | tup (ds : List D) | ref (n : Nat)
deriving Inhabited
/-- a thing that changes; scr: the script, read alone; dlk: a dict while it is walked -/
inductive O where
  | lst (ds : List D) | scr (ds : List D) | dct (kvs : List (D × D)) | dlk (kvs : List (D × D))
  | ins (c : Nat) (fs : List (Str × D))
deriving Inhabited
abbrev Hs := List O
/-- what a run gives: a value, an error (its class, what it holds), or nothing that is told -/
inductive R (α : Type) where
  | ok (a : α) (S : Hs) | ex (c : Nat) (x : Option D) (S : Hs) | no
def R.bind {α β : Type} (r : R α) (f : α → Hs → R β) : R β := match r with
  | .ok a S => f a S
  | .ex c x S => .ex c x S
  | .no => .no
@[simp] theorem R.bind_ok {α β : Type} (a : α) (S : Hs) (f : α → Hs → R β) : (R.ok a S).bind f = f a S := rfl
@[simp] theorem R.bind_ex {α β : Type} (c x S) (f : α → Hs → R β) : (R.ex c x S : R α).bind f = .ex c x S := rfl
@[simp] theorem R.bind_no {α β : Type} (f : α → Hs → R β) : (R.no : R α).bind f = .no := rfl

theorem R.bind_assoc {α β γ : Type} (r : R α) (f : α → Hs → R β) (g : β → Hs → R γ) : (r.bind f).bind g = r.bind fun a S => (f a S).bind g := by cases r <;> rfl

inductive Bop | add | sub | mul | fdv | mod | pow
deriving DecidableEq
inductive Cop | lt | le | gt | ge | eq | ne | mem | nmem
deriving DecidableEq
inductive Bi | len | int | list | tuple | sum | all | any | min | max | sorted | sortedSet | lenSet | repr | dict | split
deriving DecidableEq
inductive Ty | int | bool | str | tuple | list | dict | cls (n : Nat)
deriving DecidableEq
inductive Mt | append | insert | pop | extend | join | split | get | items | values | index | find | count | clear | setdefault | update | upper
deriving DecidableEq
/-- expressions, lists of them (nil, cons), targets, walks -/
inductive E where
  | var (i : Nat) | non | bl (b : Bool) | int (i : Int) | str (s : Str) | glb (g : Nat)
  | nil | cons (a b : E) | tup (es : E) | lst (es : E) | dic (es : E)
  | bin (o : Bop) (a b : E) | neg (a : E) | nt (a : E)
  | cmp (o : Cop) (a b : E) | isN (a : E) | nsN (a : E) | chn (o p : Cop) (a b c : E)
  | and (a b : E) | or (a b : E) | ife (c a b : E)
  | cal (f : Nat) (es : E) | bi (f : Bi) (es : E) | isi (ts : List Ty) (a : E) | mth (m : Mt) (o es : E)
  | ix (a i : E) | sl (a lo hi : E) | rvs (a : E)
  | lc (vs : List Nat) (e tg it c : E) | dc (vs : List Nat) (k v tg it c : E)
  | lrg (es : E) | rng (es : E) | enm (es : E) | zip (st : Bool) (es : E)
deriving Inhabited, DecidableEq
def cnt : E → Nat
  | .cons _ b => cnt b + 1
  | _ => 0
/-- statements, blocks of them (nil, cons) -/
inductive C where
  | nil | cons (a b : C) | asg (tg e : E) | aug (i : Nat) (o : Bop) (e : E) | exp (e : E) | ret (e : E) | retN | pas
  | ife (c : E) (a b : C) | for_ (tg it : E) (b : C) | whl (c : E) (b : C) | brk | cnt
deriving Inhabited, DecidableEq
abbrev Rho := List (Option D)
inductive Fl where
  | nx (ρ : Rho) | rt (d : D) | bk (ρ : Rho) | ct (ρ : Rho)

/-! ### what things are -/
def lim (n : Nat) {α : Type} (r : R α) : R α := if n ≤ sizeLine then r else .no
def newO (o : O) (S : Hs) : R D := .ok (.ref S.length) (S ++ [o])
def asI : D → Option Int
  | .int i => some i
  | _ => none
/-- a list's or tuple's items -/
def seqOf (S : Hs) : D → Option (List D)
  | .tup ds => some ds
  | .ref n => match S[n]? with
    | some (.lst ds) => some ds
    | some (.scr ds) => some ds
    | _ => none
  | _ => none
def mapO {α β : Type} (f : α → Option β) : List α → Option (List β)
  | [] => some []
  | a :: as => match f a, mapO f as with
    | some b, some bs => some (b :: bs)
    | _, _ => none
/-- the data that a value is, lists within it laid open, n deep -/
def pdat (S : Hs) : Nat → D → Option PyData
  | 0, _ => none
  | _ + 1, .non => some .none
  | _ + 1, .bl b => some (.bool b)
  | _ + 1, .int i => some (.int i)
  | _ + 1, .str s => some (.str s)
  | n + 1, .tup ds => (mapO (pdat S n) ds).map .tuple
  | n + 1, .ref a => match S[a]? with
    | some (.lst ds) => (mapO (pdat S n) ds).map .list
    | some (.scr ds) => (mapO (pdat S n) ds).map .list
    | _ => none

mutual
def D.beq : D → D → Bool
  | .non, .non => true
  | .bl a, .bl b => a == b
  | .int a, .int b => decide (a = b)
  | .str a, .str b => decide (a = b)
  | .tup a, .tup b => D.beqs a b
  | .ref a, .ref b => decide (a = b)
  | _, _ => false
def D.beqs : List D → List D → Bool
  | [], [] => true
  | a :: as, b :: bs => D.beq a b && D.beqs as bs
  | _, _ => false
end
mutual
theorem D.beq_self : ∀ a : D, D.beq a a = true
  | .non => by simp [D.beq]
  | .bl b => by simp [D.beq]
  | .int i => by simp [D.beq]
  | .str x => by simp [D.beq]
  | .tup ds => by simp only [D.beq]; exact D.beqs_self ds
  | .ref n => by simp [D.beq]
theorem D.beqs_self : ∀ a : List D, D.beqs a a = true
  | [] => by simp [D.beqs]
  | a :: as => by simp only [D.beqs]; rw [D.beq_self a, D.beqs_self as]; rfl
end
mutual
theorem D.of_beq : ∀ a b : D, D.beq a b = true → a = b
  | .non, b, h => by cases b <;> simp [D.beq] at h <;> rfl
  | .bl x, b, h => by cases b <;> simp [D.beq] at h; rw [h]
  | .int x, b, h => by cases b <;> simp [D.beq] at h; rw [h]
  | .str x, b, h => by cases b <;> simp [D.beq] at h; rw [h]
  | .tup x, b, h => by
    cases b with
    | tup y => simp only [D.beq] at h; rw [D.of_beqs x y h]
    | _ => simp [D.beq] at h
  | .ref x, b, h => by cases b <;> simp [D.beq] at h; rw [h]
theorem D.of_beqs : ∀ a b : List D, D.beqs a b = true → a = b
  | [], [], _ => rfl
  | [], _ :: _, h => by simp [D.beqs] at h
  | _ :: _, [], h => by simp [D.beqs] at h
  | a :: as, b :: bs, h => by
    simp only [D.beqs, Bool.and_eq_true] at h
    rw [D.of_beq a b h.1, D.of_beqs as bs h.2]
end
instance : DecidableEq D := fun a b => if h : D.beq a b = true then .isTrue (D.of_beq a b h) else .isFalse fun e => h (e ▸ D.beq_self a)

/-! ### walks -/
/-- what is walked: the items, and the lists that must stay as they are meanwhile -/
structure Src where
  gs : List (Nat × List D)
  its : List D
def heldAt (S : Hs) (g : Nat × List D) : Bool := match S[g.1]? with
  | some (.lst ds) => decide (ds = g.2)
  | some (.scr ds) => decide (ds = g.2)
  | _ => false
def held (S : Hs) (gs : List (Nat × List D)) : Bool := gs.all (heldAt S)
def signs (x : Str) : List D := x.cps.toList.map fun c => .str ⟨#[c]⟩
def srcOf (S : Hs) : D → Option Src
  | .tup ds => some ⟨[], ds⟩
  | .str x => some ⟨[], signs x⟩
  | .ref n => match S[n]? with
    | some (.lst ds) => some ⟨[(n, ds)], ds⟩
    | some (.scr ds) => some ⟨[(n, ds)], ds⟩
    | _ => none
  | _ => none
def numbered : Nat → List D → List D
  | _, [] => []
  | i, d :: ds => .tup [.int i, d] :: numbered (i + 1) ds
def pairsUp : List D → List D → List D
  | x :: xs, y :: ys => .tup [x, y] :: pairsUp xs ys
  | _, _ => []
def rangeD (lo : Int) (n : Nat) : List D := (List.range n).map fun (i : Nat) => .int (lo + i)
def rangeC (lo c : Int) (n : Nat) : List D := (List.range n).map fun (i : Nat) => .int (lo + i * c)
def big62 (i : Int) : Bool := decide (-(2 ^ 62) ≤ i) && decide (i < 2 ^ 62)
/-! ### operators -/
def mulOk (i j : Int) : Bool := (decide (-(2 ^ 64) < i) && decide (i < 2 ^ 64)) || (decide (-(2 ^ 64) < j) && decide (j < 2 ^ 64))
def rep {α : Type} (n : Nat) (xs : List α) : List α := (List.replicate n xs).flatten
def binD (S : Hs) : Bop → D → D → R D
  | .add, .int i, .int j => .ok (.int (i + j)) S
  | .add, .str x, .str y => lim (x.length + y.length) (.ok (.str (x ++ y)) S)
  | .add, .tup xs, .tup ys => lim (xs.length + ys.length) (.ok (.tup (xs ++ ys)) S)
  | .add, .ref a, .ref b => match S[a]?, S[b]? with
    | some (.lst xs), some (.lst ys) => lim (xs.length + ys.length) (newO (.lst (xs ++ ys)) S)
    | _, _ => .no
  | .sub, .int i, .int j => .ok (.int (i - j)) S
  | .mul, .int i, .int j => if mulOk i j then .ok (.int (i * j)) S else .no
  | .mul, .tup xs, .int k => if xs ≠ [] ∧ 2 ≤ k ∧ k ≤ 1000 ∧ xs.length ≤ 1000 then .ok (.tup (rep k.toNat xs)) S else .no
  | .mul, .ref a, .int k => match S[a]? with
    | some (.lst xs) => if -(2 ^ 63) ≤ k ∧ k < 2 ^ 63 ∧ xs.length * k.toNat ≤ sizeLine then newO (.lst (rep k.toNat xs)) S else .no
    | _ => .no
  | .fdv, .int i, .int j => if j ≠ 0 ∧ j.natAbs < 1073741824 then .ok (.int (i.fdiv j)) S else .no
  | .mod, .int i, .int j => if j ≠ 0 then .ok (.int (i.fmod j)) S else .no
  | .pow, .int i, .int j => if 0 ≤ j ∧ j ≤ 1000000 ∧ i.natAbs < 2 ^ 64 then .ok (.int (i ^ j.toNat)) S else .no
  | _, _, _ => .no
/-- x op= y -/
def augD (S : Hs) : Bop → D → D → R D
  | .add, .int i, .int j => .ok (.int (i + j)) S
  | .sub, .int i, .int j => .ok (.int (i - j)) S
  | _, _, _ => .no
def shp (S : Hs) (d : D) : Option PyData := match pdat S 66 d with
  | some p => if SeqAt.shaped p = true then some p else none
  | none => none
def flatD : D → Bool
  | .tup _ => false
  | .ref _ => false
  | _ => true
def eqF : D → D → Bool
  | .non, .non => true
  | .bl a, .bl b => a == b
  | .int a, .int b => a == b
  | .bl a, .int b => (if a then 1 else 0) == b
  | .int a, .bl b => a == (if b then 1 else 0)
  | .str a, .str b => a == b
  | _, _ => false
/-- x == y -/
def eqD (S : Hs) : D → D → Option Bool
  | .int i, .int j => some (decide (i = j))
  | .str x, .str y => some (decide (x = y))
  | x, y => match shp S x, shp S y with
    | some p, some q => some (PyData.eqv p q)
    | _, _ => none
def memD (S : Hs) (neg : Bool) (x : D) : D → R D
  | .str z => match x with
    | .str y => .ok (.bl (neg != !(Builtin.Str.occurrences z y 0 z.length 1).isEmpty)) S
    | _ => .no
  | y => match seqOf S y with
    | some ds => if flatD x && ds.all flatD then .ok (.bl (neg != ds.any fun z => eqF z x)) S else .no
    | none => .no
def cmpD (S : Hs) : Cop → D → D → R D
  | .lt, .int i, .int j => .ok (.bl (decide (i < j))) S
  | .le, .int i, .int j => .ok (.bl (decide (i ≤ j))) S
  | .gt, .int i, .int j => .ok (.bl (decide (j < i))) S
  | .ge, .int i, .int j => .ok (.bl (decide (j ≤ i))) S
  | .eq, x, y => match eqD S x y with
    | some b => .ok (.bl b) S
    | none => .no
  | .ne, x, y => match eqD S x y with
    | some b => .ok (.bl (!b)) S
    | none => .no
  | .mem, x, y => memD S false x y
  | .nmem, x, y => memD S true x y
  | _, _, _ => .no

/-! ### built-in functions, methods, subscripts -/
def tyIs (S : Hs) (d : D) : Ty → Option Bool
  | .int => some (match d with | .int _ => true | .bl _ => true | _ => false)
  | .bool => some (match d with | .bl _ => true | _ => false)
  | .str => some (match d with | .str _ => true | _ => false)
  | .tuple => some (match d with | .tup _ => true | _ => false)
  | .list => match d with
    | .ref n => match S[n]? with
      | some (.lst _) => some true
      | some (.scr _) => some true
      | some _ => some false
      | none => none
    | _ => some false
  | .dict => match d with
    | .ref n => match S[n]? with
      | some (.dct _) => some true
      | some (.dlk _) => some true
      | some _ => some false
      | none => none
    | _ => some false
  | .cls c => match d with
    | .ref n => match S[n]? with
      | some (.ins c' _) => some (decide (c = c'))
      | some _ => some false
      | none => none
    | _ => some false
def tysAre (S : Hs) (d : D) : List Ty → Option Bool
  | [] => some false
  | t :: ts => match tyIs S d t, tysAre S d ts with
    | some a, some b => some (a || b)
    | _, _ => none
def intsOf : List D → Option (List Int) := mapO asI
def asB : D → Option Bool
  | .bl b => some b
  | _ => none
def boolsOf : List D → Option (List Bool) := mapO asB
def asS : D → Option Str
  | .str x => some x
  | _ => none
def strsOf : List D → Option (List Str) := mapO asS
def maxL : List Int → Option Int
  | [] => none
  | x :: xs => some (xs.foldl (fun a b => if b > a then b else a) x)
def minL : List Int → Option Int
  | [] => none
  | x :: xs => some (xs.foldl (fun a b => if b < a then b else a) x)
def lenOf (S : Hs) : D → Option Nat
  | .str x => if x.length ≤ sizeLine then some x.length else none
  | d => (seqOf S d).map List.length
def insS {α : Type} (lt : α → α → Bool) (x : α) : List α → List α
  | [] => [x]
  | y :: ys => if lt x y then x :: y :: ys else if lt y x then y :: insS lt x ys else y :: ys
/-- in order, each once -/
def sortS {α : Type} (lt : α → α → Bool) : List α → List α
  | [] => []
  | x :: xs => insS lt x (sortS lt xs)
def sortI (l : List Int) : List Int := sortS (fun a b => decide (a < b)) l
def sortC (l : List Nat) : List Nat := sortS (fun a b => decide (a < b)) l
def sortX (l : List Str) : List Str := sortS (fun a b => decide (a.cps.toList < b.cps.toList)) l
/-- sorted(set(..)) -/
def setD (S : Hs) : D → Option (List D)
  | .str x => if x.length + 1 < 4096 then some ((sortC x.cps.toList).map fun c => .str ⟨#[c]⟩) else none
  | .ref n => match seqOf S (.ref n) with
    | some ds => if ds.length + 1 < 4096 then (match intsOf ds with
      | some is => some ((sortI is).map .int)
      | none => match strsOf ds with
        | some xs => some ((sortX xs).map .str)
        | none => none) else none
    | none => none
  | _ => none
def biF (S : Hs) : Bi → List D → R D
  | .sortedSet, [d] => match setD S d with
    | some ds => newO (.lst ds) S
    | none => .no
  | .split, [.str x, .str y] => if (y.length == 0) = false ∧ x.length + 2 ≤ sizeLine then newO (.lst ((Txt.split x y).map .str)) S else .no
  | .len, [d] => match lenOf S d with
    | some n => .ok (.int n) S
    | none => .no
  | .int, [.int i] => .ok (.int i) S
  | .int, [.bl b] => .ok (.int (if b then 1 else 0)) S
  | .list, [.str x] => lim x.length (newO (.lst (signs x)) S)
  | .list, [d] => match seqOf S d with
    | some ds => newO (.lst ds) S
    | none => .no
  | .tuple, [d] => match seqOf S d with
    | some ds => .ok (.tup ds) S
    | none => .no
  | .sum, [.ref a] => match (seqOf S (.ref a)).bind intsOf with
    | some ns => .ok (.int ns.sum) S
    | none => .no
  | .all, [.ref a] => match (seqOf S (.ref a)).bind boolsOf with
    | some bs => .ok (.bl (bs.all id)) S
    | none => .no
  | .any, [.ref a] => match (seqOf S (.ref a)).bind boolsOf with
    | some bs => .ok (.bl (bs.any id)) S
    | none => .no
  | .max, [.ref a] => match ((seqOf S (.ref a)).bind intsOf).bind maxL with
    | some n => .ok (.int n) S
    | none => .no
  | .min, [.ref a] => match ((seqOf S (.ref a)).bind intsOf).bind minL with
    | some n => .ok (.int n) S
    | none => .no
  | .max, [.int i, .int j] => .ok (.int (if j > i then j else i)) S
  | .min, [.int i, .int j] => .ok (.int (if j < i then j else i)) S
  | _, _ => .no
def lstAt (S : Hs) (n : Nat) : Option (List D) := match S[n]? with
  | some (.lst ds) => some ds
  | _ => none
def mtF (S : Hs) : Mt → D → List D → R D
  | .append, .ref a, [x] => match lstAt S a with
    | some xs => if xs.length < sizeLine then .ok .non (S.set a (.lst (xs ++ [x]))) else .no
    | none => .no
  | .extend, .ref a, [.ref b] => match lstAt S a, lstAt S b with
    | some xs, some ys => lim (xs.length + ys.length) (.ok .non (S.set a (.lst (xs ++ ys))))
    | _, _ => .no
  | .insert, .ref a, [.int i, x] => match lstAt S a with
    | some xs => if xs.length < sizeLine ∧ 0 ≤ i ∧ i < 2 ^ 63 then .ok .non (S.set a (.lst (xs.take i.toNat ++ [x] ++ xs.drop i.toNat))) else .no
    | none => .no
  | .pop, .ref a, [] => match lstAt S a with
    | some xs => match xs[xs.length - 1]? with
      | some y => .ok y (S.set a (.lst xs.dropLast))
      | none => .no
    | none => .no
  | .pop, .ref a, [.int i] => if -(2 ^ 63) ≤ i ∧ i < 2 ^ 63 then match lstAt S a with
    | some xs => match ixN xs.length i with
      | some k => match xs[k]? with
        | some y => .ok y (S.set a (.lst (xs.eraseIdx k)))
        | none => .no
      | none => .no
    | none => .no
    else .no
  | .join, .str x, [d] => match (seqOf S d).bind strsOf with
    | some ys => if (ys.map (·.length)).sum + ys.length * x.length ≤ 16777216 then .ok (.str (Txt.join x ys)) S else .no
    | none => .no
  | _, _, _ => .no

/-- the kind that a method wants -/
def mtK (S : Hs) : Mt → D → Bool
  | .join, .str _ => true
  | .append, .ref n => (lstAt S n).isSome
  | .insert, .ref n => (lstAt S n).isSome
  | .extend, .ref n => (lstAt S n).isSome
  | .pop, .ref n => (lstAt S n).isSome
  | _, _ => false
def ixS (S : Hs) (d : D) (i : Int) : R D := match seqOf S d with
  | some ds => match atI ds i with
    | some x => .ok x S
    | none => .no
  | none => .no
def ixD (S : Hs) : D → D → R D
  | .str x, .int i => if x.length ≤ sizeLine then match atI x.cps.toList i with
      | some c => .ok (.str ⟨#[c]⟩) S
      | none => .no
    else .no
  | d, .int i => ixS S d i
  | _, _ => .no
def cutD {α : Type} (xs : List α) (lo hi : Option Int) : List α := (xs.drop (HT.sIx xs.length 0 lo)).take (HT.sIx xs.length xs.length hi - HT.sIx xs.length 0 lo)
def slD (S : Hs) (d : D) (lo hi : Option Int) : R D := match d with
  | .str x => if x.length ≤ sizeLine then .ok (.str ⟨(cutD x.cps.toList lo hi).toArray⟩) S else .no
  | .tup ds => .ok (.tup (cutD ds lo hi)) S
  | d => match seqOf S d with
    | some ds => newO (.lst (cutD ds lo hi)) S
    | none => .no
def rvD (S : Hs) (d : D) : R D := match d with
  | .ref n => match seqOf S (.ref n) with
    | some ds => newO (.lst ds.reverse) S
    | none => .no
  | _ => .no
/-- by the truth that a value is -/
def tst {α : Type} (x : D) (a b : R α) : R α := match x with
  | .bl true => a
  | .bl false => b
  | _ => .no
@[simp] theorem tst_t {α : Type} (a b : R α) : tst (.bl true) a b = a := rfl
@[simp] theorem tst_f {α : Type} (a b : R α) : tst (.bl false) a b = b := rfl
theorem tst_bl {α : Type} (c : Bool) (a b : R α) : tst (.bl c) a b = if c = true then a else b := by cases c <;> rfl
def isN : D → Bool
  | .non => true
  | _ => false
def setIx (S : Hs) : D → D → D → R Unit
  | .ref a, .int k, d => match lstAt S a with
    | some xs => match ixN xs.length k with
      | some j => .ok () (S.set a (.lst (xs.set j d)))
      | none => .no
    | none => .no
  | _, _, _ => .no
def wipeR (ρ : Rho) : List Nat → Rho
  | [] => ρ
  | v :: vs => (wipeR ρ vs).set v none
def lcGo (gs : List (Nat × List D)) (turn : D → Hs → R (Option D)) : List D → Hs → R (List D)
  | [], S => if held S gs then .ok [] S else .no
  | d :: ds, S => if held S gs then (turn d S).bind fun o S1 => (lcGo gs turn ds S1).bind fun r S2 => .ok (match o with | some x => x :: r | none => r) S2 else .no
/-- range(..) -/
def rgD (S : Hs) : List D → R Src
  | [.int j] => if big62 j then .ok ⟨[], rangeD 0 j.toNat⟩ S else .no
  | [.int i, .int j] => if big62 i && big62 j then .ok ⟨[], rangeD i (j - i).toNat⟩ S else .no
  | [.int i, .int j, .int c] => if big62 i && big62 j && decide (c = -1) then .ok ⟨[], rangeC i (-1) (i - j).toNat⟩ S else .no
  | _ => .no
/-- list(range(..)) -/
def lrD (S : Hs) : List D → R D
  | [.int j] => if big62 j = true ∧ j.toNat ≤ 2 ^ 24 then newO (.lst (rangeD 0 j.toNat)) S else .no
  | [.int i, .int j] => if big62 i = true ∧ big62 j = true ∧ (j - i).toNat ≤ 2 ^ 24 then newO (.lst (rangeD i (j - i).toNat)) S else .no
  | _ => .no
/-- enumerate(..) -/
def enD (S : Hs) : List D → R Src
  | [x] => match srcOf S x with
    | some s => .ok ⟨s.gs, numbered 0 s.its⟩ S
    | none => .no
  | _ => .no
def ofO {α : Type} (S : Hs) : Option α → R α
  | some a => .ok a S
  | none => .no
def zpD_ (st : Bool) (x y : Src) : Option Src := if st && x.its.length != y.its.length then none else some ⟨x.gs ++ y.gs, pairsUp x.its y.its⟩
/-- zip(..) -/
def zpD (st : Bool) (S : Hs) : List D → R Src
  | [.tup xs, .tup ys] => ofO S (zpD_ st ⟨[], xs⟩ ⟨[], ys⟩)
  | [.ref a, .ref b] => match srcOf S (.ref a), srcOf S (.ref b) with
    | some s, some t => ofO S (zpD_ st s t)
    | _, _ => .no
  | _ => .no

section
variable (Φ : Nat → List D → Hs → R D) (G : Nat → D)
mutual
def den : E → Rho → Hs → R D
  | .var i, ρ, S => match ρ[i]? with
    | some (some d) => .ok d S
    | _ => .no
  | .non, _, S => .ok .non S
  | .bl b, _, S => .ok (.bl b) S
  | .int i, _, S => .ok (.int i) S
  | .str x, _, S => .ok (.str x) S
  | .glb g, _, S => .ok (G g) S
  | .tup es, ρ, S => (denL es ρ S).bind fun ds S1 => lim ds.length (.ok (.tup ds) S1)
  | .lst es, ρ, S => (denL es ρ S).bind fun ds S1 => lim ds.length (newO (.lst ds) S1)
  | .bin o a b, ρ, S => (den a ρ S).bind fun x S1 => (den b ρ S1).bind fun y S2 => binD S2 o x y
  | .neg a, ρ, S => (den a ρ S).bind fun x S1 => match x with
    | .int i => .ok (.int (-i)) S1
    | _ => .no
  | .nt a, ρ, S => (den a ρ S).bind fun x S1 => match x with
    | .bl b => .ok (.bl (!b)) S1
    | _ => .no
  | .cmp o a b, ρ, S => (den a ρ S).bind fun x S1 => (den b ρ S1).bind fun y S2 => cmpD S2 o x y
  | .isN a, ρ, S => (den a ρ S).bind fun x S1 => .ok (.bl (isN x)) S1
  | .nsN a, ρ, S => (den a ρ S).bind fun x S1 => .ok (.bl (!isN x)) S1
  | .chn o p a b c, ρ, S => (den a ρ S).bind fun x S1 => (den b ρ S1).bind fun y S2 => (cmpD S2 o x y).bind fun k S3 => tst k ((den c ρ S3).bind fun z S4 => cmpD S4 p y z) (.ok (.bl false) S3)
  | .and a b, ρ, S => (den a ρ S).bind fun x S1 => tst x (den b ρ S1) (.ok (.bl false) S1)
  | .or a b, ρ, S => (den a ρ S).bind fun x S1 => tst x (.ok (.bl true) S1) (den b ρ S1)
  | .ife c a b, ρ, S => (den c ρ S).bind fun x S1 => tst x (den a ρ S1) (den b ρ S1)
  | .cal f es, ρ, S => (denL es ρ S).bind fun ds S1 => Φ f ds S1
  | .bi f es, ρ, S => (denL es ρ S).bind fun ds S1 => biF S1 f ds
  | .isi ts a, ρ, S => (den a ρ S).bind fun x S1 => match tysAre S1 x ts with
    | some b => .ok (.bl b) S1
    | none => .no
  | .mth m o es, ρ, S => (den o ρ S).bind fun x S1 => if mtK S1 m x = true then (denL es ρ S1).bind fun ds S2 => mtF S2 m x ds else .no
  | .ix a i, ρ, S => (den a ρ S).bind fun x S1 => (den i ρ S1).bind fun y S2 => ixD S2 x y
  | .sl a lo hi, ρ, S => (den a ρ S).bind fun x S1 => (denO lo ρ S1).bind fun l S2 => (denO hi ρ S2).bind fun h S3 => slD S3 x l h
  | .rvs a, ρ, S => (den a ρ S).bind fun x S1 => rvD S1 x
  | .lrg es, ρ, S => (denL es ρ S).bind fun ds S1 => lrD S1 ds
  | .lc vs e tg it c, ρ, S => (denI it ρ S).bind fun src S1 => (lcGo src.gs (fun d S' => (denG tg d (wipeR ρ vs) S').bind fun ρ' S2 => (den c ρ' S2).bind fun k S3 => tst k ((den e ρ' S3).bind fun x S4 => .ok (some x) S4) (.ok none S3)) src.its S1).bind fun r S2 => lim src.its.length (newO (.lst r) S2)
  | _, _, _ => .no
/-- arguments, displayed items -/
def denL : E → Rho → Hs → R (List D)
  | .nil, _, S => .ok [] S
  | .cons a b, ρ, S => (den a ρ S).bind fun x S1 => (denL b ρ S1).bind fun xs S2 => .ok (x :: xs) S2
  | _, _, _ => .no
/-- a slice's end: left out (nil), or an int -/
def denO : E → Rho → Hs → R (Option Int)
  | .nil, _, S => .ok none S
  | .cons a _, ρ, S => (den a ρ S).bind fun x S1 => match x with
    | .int i => .ok (some i) S1
    | _ => .no
  | _, _, _ => .no
/-- what is walked -/
def denI : E → Rho → Hs → R Src
  | .rng es, ρ, S => (denL es ρ S).bind fun ds S1 => rgD S1 ds
  | .enm es, ρ, S => (denL es ρ S).bind fun ds S1 => enD S1 ds
  | .zip st es, ρ, S => (denL es ρ S).bind fun ds S1 => zpD st S1 ds
  | .cons a _, ρ, S => (den a ρ S).bind fun x S1 => ofO S1 (srcOf S1 x)
  | _, _, _ => .no
/-- a target takes a value -/
def denG : E → D → Rho → Hs → R Rho
  | .var i, d, ρ, S => if i < ρ.length then .ok (ρ.set i (some d)) S else .no
  | .tup es, d, ρ, S => match d with
    | .tup ds => if ds.length = cnt es then denGs es ds ρ S else .no
    | _ => .no
  | .ix a i, d, ρ, S => (den a ρ S).bind fun x S1 => (den i ρ S1).bind fun y S2 => (setIx S2 x y d).bind fun _ S3 => .ok ρ S3
  | _, _, _, _ => .no
def denGs : E → List D → Rho → Hs → R Rho
  | .nil, [], ρ, S => .ok ρ S
  | .cons a b, d :: ds, ρ, S => (denG a d ρ S).bind fun ρ1 S1 => denGs b ds ρ1 S1
  | _, _, _, _ => .no
end
end
def forGo (gs : List (Nat × List D)) (turn : D → Rho → Hs → R Fl) : List D → Rho → Hs → R Fl
  | [], ρ, S => if held S gs then .ok (.nx ρ) S else .no
  | d :: ds, ρ, S => if held S gs then (turn d ρ S).bind fun f S1 => match f with
      | .nx ρ1 => forGo gs turn ds ρ1 S1
      | .ct ρ1 => forGo gs turn ds ρ1 S1
      | .bk ρ1 => .ok (.nx ρ1) S1
      | .rt x => .ok (.rt x) S1
    else .no
def whlGo (cond : Rho → Hs → R D) (turn : Rho → Hs → R Fl) : Nat → Rho → Hs → R Fl
  | 0, _, _ => .no
  | n + 1, ρ, S => (cond ρ S).bind fun k S1 => tst k ((turn ρ S1).bind fun f S2 => match f with
      | .nx ρ1 => whlGo cond turn n ρ1 S2
      | .ct ρ1 => whlGo cond turn n ρ1 S2
      | .bk ρ1 => .ok (.nx ρ1) S2
      | .rt x => .ok (.rt x) S2) (.ok (.nx ρ) S1)
section
variable (Φ : Nat → List D → Hs → R D) (G : Nat → D) (W : Nat)
/-- statements -/
def exec : C → Rho → Hs → R Fl
  | .nil, ρ, S => .ok (.nx ρ) S
  | .cons a b, ρ, S => (exec a ρ S).bind fun f S1 => match f with
    | .nx ρ1 => exec b ρ1 S1
    | f => .ok f S1
  | .asg tg e, ρ, S => (den Φ G e ρ S).bind fun d S1 => (denG Φ G tg d ρ S1).bind fun ρ1 S2 => .ok (.nx ρ1) S2
  | .aug i o e, ρ, S => match ρ[i]? with
    | some (some x) => (den Φ G e ρ S).bind fun y S1 => (augD S1 o x y).bind fun z S2 => .ok (.nx (ρ.set i (some z))) S2
    | _ => .no
  | .exp e, ρ, S => (den Φ G e ρ S).bind fun _ S1 => .ok (.nx ρ) S1
  | .ret e, ρ, S => (den Φ G e ρ S).bind fun d S1 => .ok (.rt d) S1
  | .retN, _, S => .ok (.rt .non) S
  | .pas, ρ, S => .ok (.nx ρ) S
  | .ife c a b, ρ, S => (den Φ G c ρ S).bind fun x S1 => tst x (exec a ρ S1) (exec b ρ S1)
  | .for_ tg it b, ρ, S => (denI Φ G it ρ S).bind fun src S1 => forGo src.gs (fun d ρ' S' => (denG Φ G tg d ρ' S').bind fun ρ1 S2 => exec b ρ1 S2) src.its ρ S1
  | .whl c b, ρ, S => whlGo (den Φ G c) (exec b) W ρ S
  | .brk, ρ, S => .ok (.bk ρ) S
  | .cnt, ρ, S => .ok (.ct ρ) S
end
/-- a def: how many parameters, how many names, the body -/
structure Fn where
  np : Nat
  nn : Nat
  body : C
deriving DecidableEq
def runF (Φ : Nat → List D → Hs → R D) (G : Nat → D) (W : Nat) (f : Fn) (ds : List D) (S : Hs) : R D :=
  if ds.length = f.np then (exec Φ G W f.body (ds.map some ++ List.replicate (f.nn - ds.length) none) S).bind fun r S1 => match r with
    | .nx _ => .ok .non S1
    | .rt d => .ok d S1
    | _ => .no
  else .no
/-- the defs of a text, n calls deep -/
def run (fs : List Fn) (G : Nat → D) (W : Nat) : Nat → Nat → List D → Hs → R D
  | 0, _, _, _ => .no
  | n + 1, i, ds, S => match fs[i]? with
    | some f => runF (run fs G W n) G W f ds S
    | none => .no
end RS

namespace RS
open PySem PySem.Spec L2

/-! ### how values stand for what the layer tracks -/
def KTup (K : PySem.W.Frag) (a : Addr) (xs : List V) : Prop :=
  ∃ (o : Obj) (its : Array Value) (n : Nat), K.lookup a = some o ∧ o.cls = .type "tuple" ∧ o.data = .seq its n ∧ its.size ≤ sizeLine ∧ Vals xs its.toList
def TupAt (K : PySem.W.Frag) (H : Hp) (a : Addr) (xs : List V) : Prop := H a = some (.tup xs) ∨ KTup K a xs
theorem TupAt.sq {K : PySem.W.Frag} {H : Hp} {a : Addr} {xs : List V} (h : TupAt K H a xs) : SqT K H a xs := h.elim (fun e => .inl (.inl e)) .inr
mutual
def Rep (K : PySem.W.Frag) (m : List Addr) (H : Hp) : D → V → Prop
  | .non, v => v = .non
  | .bl b, v => v = .bl b
  | .int i, v => v = .int i
  | .str x, v => v = .str x
  | .tup ds, v => ∃ a xs, v = .ref a ∧ TupAt K H a xs ∧ Reps K m H ds xs
  | .ref n, v => ∃ a, m[n]? = some a ∧ v = .ref a
def Reps (K : PySem.W.Frag) (m : List Addr) (H : Hp) : List D → List V → Prop
  | [], xs => xs = []
  | d :: ds, xs => ∃ x r, xs = x :: r ∧ Rep K m H d x ∧ Reps K m H ds r
end
/-- the heap grows: what is numbered keeps its number, what is not numbered stays -/
structure Ext (m m' : List Addr) (H H' : Hp) : Prop where
  pre : ∃ ms, m' = m ++ ms ∧ ∀ a ∈ ms, H a = none
  fr : ∀ a o, a ∉ m → H a = some o → H' a = some o
  tup : ∀ a xs, H a = some (.tup xs) → H' a = some (.tup xs)
  al : ∀ a, H' a = none → H a = none
theorem Ext.refl (m : List Addr) (H : Hp) : Ext m m H H := ⟨⟨[], by simp, fun _ h => by cases h⟩, fun _ _ _ e => e, fun _ _ e => e, fun _ e => e⟩
theorem Ext.ix {m m' : List Addr} {H H' : Hp} (e : Ext m m' H H') {n : Nat} {a : Addr} (h : m[n]? = some a) : m'[n]? = some a := by
  obtain ⟨ms, rfl, _⟩ := e.pre
  rw [List.getElem?_append_left (List.getElem?_eq_some_iff.mp h).1]
  exact h
theorem Ext.trans {m m1 m2 : List Addr} {H H1 H2 : Hp} (a : Ext m m1 H H1) (b : Ext m1 m2 H1 H2) : Ext m m2 H H2 := by
  obtain ⟨ms, rfl, h1⟩ := a.pre
  obtain ⟨ns, rfl, h2⟩ := b.pre
  refine ⟨⟨ms ++ ns, by simp, fun c hc => ?_⟩, fun c o hc e => ?_, fun c xs e => b.tup c xs (a.tup c xs e), fun c e => a.al c (b.al c e)⟩
  · rcases List.mem_append.mp hc with hc | hc
    · exact h1 c hc
    · exact a.al c (h2 c hc)
  · refine b.fr c o (fun hm => ?_) (a.fr c o hc e)
    rcases List.mem_append.mp hm with hm | hm
    · exact hc hm
    · rw [h1 c hm] at e; cases e
theorem TupAt.ext {K : PySem.W.Frag} {m m' : List Addr} {H H' : Hp} {a : Addr} {xs : List V} (e : Ext m m' H H') (h : TupAt K H a xs) : TupAt K H' a xs := h.elim (fun q => .inl (e.tup _ _ q)) .inr
/-- what a value leans on: the numbers, the tuples -/
structure Ext0 (m m' : List Addr) (H H' : Hp) : Prop where
  ix : ∀ {n : Nat} {a : Addr}, m[n]? = some a → m'[n]? = some a
  tup : ∀ a xs, H a = some (.tup xs) → H' a = some (.tup xs)
theorem Ext.e0 {m m' : List Addr} {H H' : Hp} (e : Ext m m' H H') : Ext0 m m' H H' := ⟨e.ix, e.tup⟩
mutual
theorem Rep.ext0 {K : PySem.W.Frag} {m m' : List Addr} {H H' : Hp} (e : Ext0 m m' H H') : ∀ (d : D) {v : V}, Rep K m H d v → Rep K m' H' d v
  | .non, v, h => by simp only [Rep] at h ⊢; exact h
  | .bl b, v, h => by simp only [Rep] at h ⊢; exact h
  | .int i, v, h => by simp only [Rep] at h ⊢; exact h
  | .str x, v, h => by simp only [Rep] at h ⊢; exact h
  | .tup ds, v, h => by
    simp only [Rep] at h ⊢
    obtain ⟨a, xs, rfl, t, r⟩ := h
    exact ⟨a, xs, rfl, t.elim (fun q => .inl (e.tup _ _ q)) .inr, Reps.ext0 e ds r⟩
  | .ref n, v, h => by
    simp only [Rep] at h ⊢
    obtain ⟨a, q, rfl⟩ := h
    exact ⟨a, e.ix q, rfl⟩
theorem Reps.ext0 {K : PySem.W.Frag} {m m' : List Addr} {H H' : Hp} (e : Ext0 m m' H H') : ∀ (ds : List D) {vs : List V}, Reps K m H ds vs → Reps K m' H' ds vs
  | [], vs, h => by simp only [Reps] at h ⊢; exact h
  | d :: ds, vs, h => by
    simp only [Reps] at h ⊢
    obtain ⟨x, r, rfl, h1, h2⟩ := h
    exact ⟨x, r, rfl, Rep.ext0 e d h1, Reps.ext0 e ds h2⟩
end
theorem Rep.ext {K : PySem.W.Frag} {m m' : List Addr} {H H' : Hp} (e : Ext m m' H H') (d : D) {v : V} (h : Rep K m H d v) : Rep K m' H' d v := Rep.ext0 e.e0 d h
theorem Reps.ext {K : PySem.W.Frag} {m m' : List Addr} {H H' : Hp} (e : Ext m m' H H') (ds : List D) {vs : List V} (h : Reps K m H ds vs) : Reps K m' H' ds vs := Reps.ext0 e.e0 ds h
section
variable {K : PySem.W.Frag} {m m' : List Addr} {H H' : Hp}
theorem Rep.non_ {v : V} : Rep K m H .non v ↔ v = .non := by simp only [Rep]
theorem Rep.bl_ {b : Bool} {v : V} : Rep K m H (.bl b) v ↔ v = .bl b := by simp only [Rep]
theorem Rep.int_ {i : Int} {v : V} : Rep K m H (.int i) v ↔ v = .int i := by simp only [Rep]
theorem Rep.str_ {x : Str} {v : V} : Rep K m H (.str x) v ↔ v = .str x := by simp only [Rep]
theorem Rep.tup_ {ds : List D} {v : V} : Rep K m H (.tup ds) v ↔ ∃ a xs, v = .ref a ∧ TupAt K H a xs ∧ Reps K m H ds xs := by simp only [Rep]
theorem Rep.ref_ {n : Nat} {v : V} : Rep K m H (.ref n) v ↔ ∃ a, m[n]? = some a ∧ v = .ref a := by simp only [Rep]
theorem Reps.nil_ {xs : List V} : Reps K m H [] xs ↔ xs = [] := by simp only [Reps]
theorem Reps.cons_ {d : D} {ds : List D} {xs : List V} : Reps K m H (d :: ds) xs ↔ ∃ x r, xs = x :: r ∧ Rep K m H d x ∧ Reps K m H ds r := by simp only [Reps]
theorem Reps.len : ∀ {ds : List D} {xs : List V}, Reps K m H ds xs → ds.length = xs.length
  | [], _, h => by rw [Reps.nil_] at h; rw [h]; rfl
  | d :: ds, _, h => by
    rw [Reps.cons_] at h
    obtain ⟨x, r, rfl, _, h2⟩ := h
    simp [Reps.len h2]
theorem Reps.get : ∀ {ds : List D} {xs : List V} {i : Nat} {d : D}, Reps K m H ds xs → ds[i]? = some d → ∃ x, xs[i]? = some x ∧ Rep K m H d x
  | [], _, i, _, _, e => by simp at e
  | d :: ds, _, i, d', h, e => by
    rw [Reps.cons_] at h
    obtain ⟨x, r, rfl, h1, h2⟩ := h
    cases i with
    | zero => simp at e; subst e; exact ⟨x, by simp, h1⟩
    | succ i =>
      obtain ⟨y, q1, q2⟩ := Reps.get (i := i) h2 (by simpa using e)
      exact ⟨y, by simpa using q1, q2⟩
theorem Reps.append : ∀ {ds es : List D} {xs ys : List V}, Reps K m H ds xs → Reps K m H es ys → Reps K m H (ds ++ es) (xs ++ ys)
  | [], _, _, _, h, h' => by rw [Reps.nil_] at h; subst h; simpa using h'
  | d :: ds, es, _, ys, h, h' => by
    rw [Reps.cons_] at h
    obtain ⟨x, r, rfl, h1, h2⟩ := h
    show Reps K m H (d :: (ds ++ es)) (x :: (r ++ ys))
    rw [Reps.cons_]
    exact ⟨x, _, rfl, h1, Reps.append h2 h'⟩
theorem Reps.one {d : D} {x : V} (h : Rep K m H d x) : Reps K m H [d] [x] := by
  rw [Reps.cons_]
  exact ⟨x, [], rfl, h, by rw [Reps.nil_]⟩
theorem Reps.drop : ∀ (n : Nat) {ds : List D} {xs : List V}, Reps K m H ds xs → Reps K m H (ds.drop n) (xs.drop n)
  | 0, _, _, h => by simpa using h
  | n + 1, [], _, h => by rw [Reps.nil_] at h; subst h; simp [Reps.nil_]
  | n + 1, d :: ds, _, h => by
    rw [Reps.cons_] at h
    obtain ⟨x, r, rfl, h1, h2⟩ := h
    simpa using Reps.drop n h2
theorem Reps.take : ∀ (n : Nat) {ds : List D} {xs : List V}, Reps K m H ds xs → Reps K m H (ds.take n) (xs.take n)
  | 0, _, _, h => by simp [Reps.nil_]
  | n + 1, [], _, h => by rw [Reps.nil_] at h; subst h; simp [Reps.nil_]
  | n + 1, d :: ds, _, h => by
    rw [Reps.cons_] at h
    obtain ⟨x, r, rfl, h1, h2⟩ := h
    simp only [List.take_succ_cons]
    rw [Reps.cons_]
    exact ⟨x, _, rfl, h1, Reps.take n h2⟩
theorem Reps.set {d : D} {x : V} (hd : Rep K m H d x) : ∀ (i : Nat) {ds : List D} {xs : List V}, Reps K m H ds xs → Reps K m H (ds.set i d) (xs.set i x)
  | _, [], _, h => by rw [Reps.nil_] at h; subst h; simp [Reps.nil_]
  | 0, e :: ds, _, h => by
    rw [Reps.cons_] at h
    obtain ⟨y, r, rfl, h1, h2⟩ := h
    simp only [List.set_cons_zero]
    rw [Reps.cons_]
    exact ⟨x, _, rfl, hd, h2⟩
  | i + 1, e :: ds, _, h => by
    rw [Reps.cons_] at h
    obtain ⟨y, r, rfl, h1, h2⟩ := h
    simp only [List.set_cons_succ]
    rw [Reps.cons_]
    exact ⟨y, _, rfl, h1, Reps.set hd i h2⟩
theorem Reps.erase : ∀ (i : Nat) {ds : List D} {xs : List V}, Reps K m H ds xs → Reps K m H (ds.eraseIdx i) (xs.eraseIdx i)
  | _, [], _, h => by rw [Reps.nil_] at h; subst h; simp [Reps.nil_]
  | 0, e :: ds, _, h => by
    rw [Reps.cons_] at h
    obtain ⟨y, r, rfl, h1, h2⟩ := h
    simpa using h2
  | i + 1, e :: ds, _, h => by
    rw [Reps.cons_] at h
    obtain ⟨y, r, rfl, h1, h2⟩ := h
    simp only [List.eraseIdx_cons_succ]
    rw [Reps.cons_]
    exact ⟨y, _, rfl, h1, Reps.erase i h2⟩
theorem Reps.reverse : ∀ {ds : List D} {xs : List V}, Reps K m H ds xs → Reps K m H ds.reverse xs.reverse
  | [], _, h => by rw [Reps.nil_] at h; subst h; simp [Reps.nil_]
  | d :: ds, _, h => by
    rw [Reps.cons_] at h
    obtain ⟨x, r, rfl, h1, h2⟩ := h
    simp only [List.reverse_cons]
    exact Reps.append (Reps.reverse h2) (Reps.one h1)
theorem Reps.dropLast {ds : List D} {xs : List V} (h : Reps K m H ds xs) : Reps K m H ds.dropLast xs.dropLast := by
  rw [List.dropLast_eq_take, List.dropLast_eq_take, h.len]
  exact Reps.take _ h
theorem Reps.rep : ∀ (n : Nat) {ds : List D} {xs : List V}, Reps K m H ds xs → Reps K m H (rep n ds) (RS.rep n xs)
  | 0, _, _, h => by simp [RS.rep, Reps.nil_]
  | n + 1, ds, xs, h => by
    have ih := Reps.rep n h
    simp only [RS.rep, List.replicate_succ, List.flatten_cons] at ih ⊢
    exact Reps.append h ih
end

/-! ### how things stand -/
def RepO (K : PySem.W.Frag) (m : List Addr) (H : Hp) : O → Addr → Prop
  | .lst ds, a => ∃ xs, H a = some (.lst xs) ∧ Reps K m H ds xs
  | .scr ds, a => ∃ o xs, H a = some (.frz o (.lst xs)) ∧ Reps K m H ds xs
  | .dct _, _ => False
  | .dlk _, _ => False
  | .ins _ _, _ => False
structure RepS (K : PySem.W.Frag) (m : List Addr) (H : Hp) (S : Hs) : Prop where
  len : m.length = S.length
  inj : m.Nodup
  obj : ∀ (n : Nat) (o : O) (a : Addr), S[n]? = some o → m[n]? = some a → RepO K m H o a
section
variable {K : PySem.W.Frag} {m m' : List Addr} {H H' : Hp} {S : Hs}
theorem RepO.ext0 {o : O} {a : Addr} (e : Ext0 m m' H H') (ha : H' a = H a) (h : RepO K m H o a) : RepO K m' H' o a := by
  cases o with
  | lst ds =>
    obtain ⟨xs, h1, h2⟩ := h
    exact ⟨xs, ha.trans h1, Reps.ext0 e ds h2⟩
  | scr ds =>
    obtain ⟨o, xs, h1, h2⟩ := h
    exact ⟨o, xs, ha.trans h1, Reps.ext0 e ds h2⟩
  | dct _ => exact h.elim
  | dlk _ => exact h.elim
  | ins _ _ => exact h.elim
theorem RepO.ext {o : O} {a : Addr} (e : Ext m m' H H') (ha : H' a = H a) (h : RepO K m H o a) : RepO K m' H' o a := RepO.ext0 e.e0 ha h
theorem RepO.some {o : O} {a : Addr} (h : RepO K m H o a) : ∃ u, H a = some u ∧ ∀ xs, u ≠ .tup xs := by
  cases o with
  | lst ds => obtain ⟨xs, h1, _⟩ := h; exact ⟨_, h1, fun _ z => nomatch z⟩
  | scr ds => obtain ⟨o, xs, h1, _⟩ := h; exact ⟨_, h1, fun _ z => nomatch z⟩
  | dct _ => exact h.elim
  | dlk _ => exact h.elim
  | ins _ _ => exact h.elim
theorem RepS.mem (rs : RepS K m H S) {a : Addr} (h : a ∈ m) : ∃ u, H a = some u ∧ ∀ xs, u ≠ .tup xs := by
  obtain ⟨n, hn, e⟩ := List.mem_iff_getElem.mp h
  have h1 : m[n]? = some a := by rw [List.getElem?_eq_getElem hn, e]
  have h2 : n < S.length := by rw [← rs.len]; exact hn
  exact (rs.obj n _ a (List.getElem?_eq_getElem h2) h1).some
theorem RepS.free (rs : RepS K m H S) {p : Addr} (h : H p = none) : p ∉ m := fun hm => by
  obtain ⟨u, e, _⟩ := rs.mem hm
  rw [h] at e; cases e
/-- a new thing that is not numbered -/
theorem Ext.tupNew (rs : RepS K m H S) {p : Addr} {o : HO} (h : H p = none) : Ext m m H (upd H p o) := by
  refine ⟨⟨[], by simp, fun _ h => by cases h⟩, fun a u _ e => ?_, fun a xs e => ?_, fun a e => ?_⟩
  · rw [upd_ne (ne_of_none e h)]; exact e
  · rw [upd_ne (ne_of_none e h)]; exact e
  · by_cases q : a = p
    · rw [q, h]
    · rw [upd_ne q] at e; exact e
theorem RepS.tupNew (rs : RepS K m H S) {p : Addr} {o : HO} (h : H p = none) : RepS K m (upd H p o) S := by
  refine ⟨rs.len, rs.inj, fun n u a e1 e2 => ?_⟩
  refine (rs.obj n u a e1 e2).ext (Ext.tupNew rs h) (upd_ne fun q => ?_)
  exact rs.free h (q ▸ List.mem_of_getElem? e2)
/-- a new thing, numbered -/
theorem Ext.new (rs : RepS K m H S) {p : Addr} {o : HO} (h : H p = none) : Ext m (m ++ [p]) H (upd H p o) := by
  have e := Ext.tupNew (o := o) rs h
  exact ⟨⟨[p], rfl, fun a ha => by simp at ha; rw [ha]; exact h⟩, e.fr, e.tup, e.al⟩
theorem RepS.new (rs : RepS K m H S) {p : Addr} {u : O} {o : HO} (h : H p = none) (hr : RepO K (m ++ [p]) (upd H p o) u p) : RepS K (m ++ [p]) (upd H p o) (S ++ [u]) := by
  refine ⟨by simp [rs.len], ?_, fun n v a e1 e2 => ?_⟩
  · rw [List.nodup_append]
    exact ⟨rs.inj, by simp, fun a ha b hb => by simp at hb; rw [hb]; exact fun q => rs.free h (q ▸ ha)⟩
  · by_cases hn : n < S.length
    · rw [List.getElem?_append_left hn] at e1
      rw [List.getElem?_append_left (by rw [rs.len]; exact hn)] at e2
      exact (rs.obj n v a e1 e2).ext (Ext.new rs h) (upd_ne fun q => rs.free h (q ▸ List.mem_of_getElem? e2))
    · have hn2 : n = S.length := by
        have := (List.getElem?_eq_some_iff.mp e1).1
        simp at this
        omega
      subst hn2
      rw [List.getElem?_append_right (Nat.le_refl _)] at e1
      rw [List.getElem?_append_right (by rw [rs.len]; exact Nat.le_refl _)] at e2
      simp [rs.len] at e1 e2
      rw [← e1, ← e2]
      exact hr
theorem RepS.newList (rs : RepS K m H S) {p : Addr} {ds : List D} {xs : List V} (h : H p = none) (hr : Reps K m H ds xs) : RepS K (m ++ [p]) (upd H p (.lst xs)) (S ++ [.lst ds]) :=
  rs.new h ⟨xs, upd_same, Reps.ext (Ext.new rs h) ds hr⟩
/-- a numbered thing changes -/
theorem Ext.set (rs : RepS K m H S) {n : Nat} {a : Addr} {o : HO} (h : m[n]? = some a) : Ext m m H (upd H a o) := by
  have hm := List.mem_of_getElem? h
  obtain ⟨u, e, nt⟩ := rs.mem hm
  refine ⟨⟨[], by simp, fun _ h => by cases h⟩, fun b v hb e' => ?_, fun b xs e' => ?_, fun b e' => ?_⟩
  · rw [upd_ne fun q => hb (by rw [q]; exact hm)]; exact e'
  · rw [upd_ne fun q => by rw [q, e] at e'; exact nt xs (Option.some.inj e')]; exact e'
  · by_cases q : b = a
    · rw [q, upd_same] at e'; cases e'
    · rw [upd_ne q] at e'; exact e'
theorem RepS.set (rs : RepS K m H S) {n : Nat} {a : Addr} {u : O} {o : HO} (h : m[n]? = some a) (hr : RepO K m (upd H a o) u a) : RepS K m (upd H a o) (S.set n u) := by
  refine ⟨by simp [rs.len], rs.inj, fun k v b e1 e2 => ?_⟩
  by_cases hk : k = n
  · subst hk
    have hl : k < S.length := by rw [← rs.len]; exact (List.getElem?_eq_some_iff.mp h).1
    rw [List.getElem?_set_self hl] at e1
    rw [h] at e2
    rw [← Option.some.inj e1, ← Option.some.inj e2]
    exact hr
  · rw [List.getElem?_set_ne (Ne.symm hk)] at e1
    refine (rs.obj k v b e1 e2).ext (Ext.set rs h) (upd_ne fun q => hk ?_)
    subst q
    obtain ⟨l1, q1⟩ := List.getElem?_eq_some_iff.mp e2
    obtain ⟨l2, q2⟩ := List.getElem?_eq_some_iff.mp h
    exact (List.getElem_inj rs.inj).mp (q1.trans q2.symm)
theorem RepS.setList (rs : RepS K m H S) {n : Nat} {a : Addr} {ds : List D} {xs : List V} (h : m[n]? = some a) (hr : Reps K m H ds xs) : RepS K m (upd H a (.lst xs)) (S.set n (.lst ds)) :=
  rs.set h ⟨xs, upd_same, Reps.ext (Ext.set rs h) ds hr⟩
end

/-! ### slots -/
def EnvR (K : PySem.W.Frag) (m : List Addr) (H : Hp) (ρ : Rho) (σ : St) : Prop :=
  ρ.length = σ.length ∧ ∀ (i : Nat) (d : D), ρ[i]? = some (some d) → ∃ v, σ[i]? = some (some v) ∧ Rep K m H d v
section
variable {K : PySem.W.Frag} {m m' : List Addr} {H H' : Hp} {ρ : Rho} {σ : St}
theorem EnvR.ext (e : Ext m m' H H') (h : EnvR K m H ρ σ) : EnvR K m' H' ρ σ := ⟨h.1, fun i d q => by
  obtain ⟨v, h1, h2⟩ := h.2 i d q
  exact ⟨v, h1, Rep.ext e d h2⟩⟩
theorem EnvR.ext0 (e : Ext0 m m' H H') (h : EnvR K m H ρ σ) : EnvR K m' H' ρ σ := ⟨h.1, fun i d q => by
  obtain ⟨v, h1, h2⟩ := h.2 i d q
  exact ⟨v, h1, Rep.ext0 e d h2⟩⟩
theorem EnvR.set {i : Nat} {d : D} {v : V} (h : EnvR K m H ρ σ) (r : Rep K m H d v) : EnvR K m H (ρ.set i (some d)) (σ.set i (some v)) := by
  refine ⟨by simp [h.1], fun j e q => ?_⟩
  by_cases hj : j = i
  · subst hj
    have hl : j < ρ.length := by
      have := (List.getElem?_eq_some_iff.mp q).1
      simpa using this
    rw [List.getElem?_set_self hl] at q
    rw [← Option.some.inj (Option.some.inj q)]
    exact ⟨v, by rw [List.getElem?_set_self (by rw [← h.1]; exact hl)], r⟩
  · rw [List.getElem?_set_ne (Ne.symm hj)] at q
    rw [List.getElem?_set_ne (Ne.symm hj)]
    exact h.2 j e q
theorem EnvR.wipe (h : EnvR K m H ρ σ) : ∀ vs : List Nat, EnvR K m H (wipeR ρ vs) (L2.wipe σ vs)
  | [] => h
  | v :: vs => by
    have ih := EnvR.wipe h vs
    refine ⟨by simp [wipeR, L2.wipe, ih.1], fun j e q => ?_⟩
    simp only [wipeR] at q
    simp only [L2.wipe]
    by_cases hj : v = j
    · subst hj
      by_cases hl : v < (wipeR ρ vs).length
      · rw [List.getElem?_set_self hl] at q; cases q
      · rw [List.getElem?_eq_none (by simpa using hl)] at q; cases q
    · rw [List.getElem?_set_ne hj] at q
      rw [List.getElem?_set_ne hj]
      exact ih.2 j e q
end

/-! ### what is wanted behind a run -/
def Post {α β : Type} (K : PySem.W.Frag) (m : List Addr) (H : Hp) (rel : List Addr → Hp → α → β → Prop) (r : R α) (Q : β → Hp → Prop) : Prop := match r with
  | .ok a S => ∀ b m' H', Ext m m' H H' → RepS K m' H' S → rel m' H' a b → Q b H'
  | _ => False
/-- a reading by the meaning -/
def tG {α β : Type} (K : PySem.W.Frag) (rel : List Addr → Hp → α → β → Prop) (f : Rho → Hs → R α) (σ : St) (H : Hp) (Q : β → Hp → Prop) : Prop :=
  ∃ ρ S m, EnvR K m H ρ σ ∧ RepS K m H S ∧ Post K m H rel (f ρ S) Q
abbrev tD (K : PySem.W.Frag) (f : Rho → Hs → R D) : TE := tG K (Rep K) f
abbrev tDL (K : PySem.W.Frag) (f : Rho → Hs → R (List D)) : TA := tG K (Reps K) f
/-- a test: the value is a truth -/
def PostT (K : PySem.W.Frag) (m : List Addr) (H : Hp) (r : R D) (Q : Bool → Hp → Prop) : Prop := match r with
  | .ok d S => ∃ b, d = .bl b ∧ ∀ m' H', Ext m m' H H' → RepS K m' H' S → Q b H'
  | _ => False
def tDT (K : PySem.W.Frag) (f : Rho → Hs → R D) : TT := fun σ H Q => ∃ ρ S m, EnvR K m H ρ σ ∧ RepS K m H S ∧ PostT K m H (f ρ S) Q
section
variable {K : PySem.W.Frag} {m m' : List Addr} {H H' : Hp} {ρ : Rho} {σ : St} {S : Hs} {α β γ δ : Type}
theorem Post.ext {rel : List Addr → Hp → α → β → Prop} {r : R α} {Q : β → Hp → Prop} (e : Ext m m' H H') (h : Post K m H rel r Q) : Post K m' H' rel r Q := by
  cases r with
  | ok a S => exact fun b m2 H2 e2 rs rl => h b m2 H2 (e.trans e2) rs rl
  | ex => exact h
  | no => exact h
theorem Post.bind {rel : List Addr → Hp → α → β → Prop} {relF : List Addr → Hp → γ → δ → Prop} {r : R γ} {g : γ → Hs → R α} {Q : β → Hp → Prop} (h : Post K m H rel (r.bind g) Q) {Q' : δ → Hp → Prop}
    (k : ∀ m1 H1 S1 a b, Ext m m1 H H1 → RepS K m1 H1 S1 → relF m1 H1 a b → Post K m1 H1 rel (g a S1) Q → Q' b H1) : Post K m H relF r Q' := by
  cases r with
  | ok a S => exact fun b m1 H1 e1 rs1 rl => k m1 H1 S a b e1 rs1 rl (Post.ext e1 h)
  | ex => exact h
  | no => exact h
/-- .. what is wanted is said of an earlier place -/
theorem Post.bindB {m0 : List Addr} {H0 : Hp} {rel : List Addr → Hp → α → β → Prop} {relF : List Addr → Hp → γ → δ → Prop} {r : R γ} {g : γ → Hs → R α} {Q : β → Hp → Prop} (h : Post K m0 H0 rel (r.bind g) Q) {Q' : δ → Hp → Prop}
    (k : ∀ m1 H1 S1 a b, Ext m m1 H H1 → RepS K m1 H1 S1 → relF m1 H1 a b → Post K m0 H0 rel (g a S1) Q → Q' b H1) : Post K m H relF r Q' := by
  cases r with
  | ok a S => exact fun b m1 H1 e1 rs1 rl => k m1 H1 S a b e1 rs1 rl h
  | ex => exact h
  | no => exact h
/-- THE STEP: a part is run, the rest is told -/
theorem tG_step {rel : List Addr → Hp → α → β → Prop} {relF : List Addr → Hp → γ → δ → Prop} {f : Rho → Hs → R γ} {g : γ → Hs → R α} {Q : β → Hp → Prop} {Q' : δ → Hp → Prop} (env : EnvR K m H ρ σ) (rs : RepS K m H S)
    (h : Post K m H rel ((f ρ S).bind g) Q)
    (k : ∀ m1 H1 S1 a b, Ext m m1 H H1 → EnvR K m1 H1 ρ σ → RepS K m1 H1 S1 → relF m1 H1 a b → Post K m1 H1 rel (g a S1) Q → Q' b H1) : tG K relF f σ H Q' :=
  ⟨ρ, S, m, env, rs, h.bind fun m1 H1 S1 a b e rs1 rl p => k m1 H1 S1 a b e (env.ext e) rs1 rl p⟩
end
/-- a test is run, the rest is told by its answer -/
theorem tT_step {K : PySem.W.Frag} {m : List Addr} {H : Hp} {ρ : Rho} {σ : St} {S : Hs} {α β : Type} {rel : List Addr → Hp → α → β → Prop} {f : Rho → Hs → R D} {A B : Hs → R α} {Q : β → Hp → Prop} {Q' : Bool → Hp → Prop} (env : EnvR K m H ρ σ) (rs : RepS K m H S)
    (h : Post K m H rel ((f ρ S).bind fun x S1 => tst x (A S1) (B S1)) Q)
    (k : ∀ m1 H1 S1 b, Ext m m1 H H1 → EnvR K m1 H1 ρ σ → RepS K m1 H1 S1 → Post K m1 H1 rel (if b = true then A S1 else B S1) Q → Q' b H1) : tDT K f σ H Q' := by
  refine ⟨ρ, S, m, env, rs, ?_⟩
  cases e : f ρ S with
  | ok d S1 =>
    rw [e] at h
    simp only [R.bind_ok] at h
    cases d with
    | bl b =>
      rw [tst_bl] at h
      exact ⟨b, rfl, fun m1 H1 e1 rs1 => k m1 H1 S1 b e1 (env.ext e1) rs1 (Post.ext e1 h)⟩
    | _ => exact h.elim
  | ex => rw [e] at h; exact h
  | no => rw [e] at h; exact h
theorem tT_stepB {K : PySem.W.Frag} {m m0 : List Addr} {H H0 : Hp} {ρ : Rho} {σ : St} {S : Hs} {α β : Type} {rel : List Addr → Hp → α → β → Prop} {f : Rho → Hs → R D} {A B : Hs → R α} {Q : β → Hp → Prop} {Q' : Bool → Hp → Prop} (env : EnvR K m H ρ σ) (rs : RepS K m H S)
    (h : Post K m0 H0 rel ((f ρ S).bind fun x S1 => tst x (A S1) (B S1)) Q)
    (k : ∀ m1 H1 S1 b, Ext m m1 H H1 → EnvR K m1 H1 ρ σ → RepS K m1 H1 S1 → Post K m0 H0 rel (if b = true then A S1 else B S1) Q → Q' b H1) : tDT K f σ H Q' := by
  refine ⟨ρ, S, m, env, rs, ?_⟩
  cases e : f ρ S with
  | ok d S1 =>
    rw [e] at h
    simp only [R.bind_ok] at h
    cases d with
    | bl b =>
      rw [tst_bl] at h
      exact ⟨b, rfl, fun m1 H1 e1 rs1 => k m1 H1 S1 b e1 (env.ext e1) rs1 h⟩
    | _ => exact h.elim
  | ex => rw [e] at h; exact h
  | no => rw [e] at h; exact h
/-- a test for itself -/
theorem PostT.bind {K : PySem.W.Frag} {m : List Addr} {H : Hp} {γ δ : Type} {relF : List Addr → Hp → γ → δ → Prop} {r : R γ} {g : γ → Hs → R D} {Q : Bool → Hp → Prop} (h : PostT K m H (r.bind g) Q) {Q' : δ → Hp → Prop}
    (k : ∀ m1 H1 S1 a b, Ext m m1 H H1 → RepS K m1 H1 S1 → relF m1 H1 a b → PostT K m1 H1 (g a S1) Q → Q' b H1) : Post K m H relF r Q' := by
  cases r with
  | ok a S =>
    intro b m1 H1 e1 rs1 rl
    refine k m1 H1 S a b e1 rs1 rl ?_
    simp only [R.bind_ok] at h
    revert h
    cases g a S with
    | ok d S2 => exact fun ⟨b, e, q⟩ => ⟨b, e, fun m2 H2 e2 rs2 => q m2 H2 (e1.trans e2) rs2⟩
    | ex => exact fun h => h
    | no => exact fun h => h
  | ex => exact h
  | no => exact h
theorem tT_stepT {K : PySem.W.Frag} {m : List Addr} {H : Hp} {ρ : Rho} {σ : St} {S : Hs} {f : Rho → Hs → R D} {A B : Hs → R D} {Q : Bool → Hp → Prop} {Q' : Bool → Hp → Prop} (env : EnvR K m H ρ σ) (rs : RepS K m H S)
    (h : PostT K m H ((f ρ S).bind fun x S1 => tst x (A S1) (B S1)) Q)
    (k : ∀ m1 H1 S1 b, Ext m m1 H H1 → EnvR K m1 H1 ρ σ → RepS K m1 H1 S1 → PostT K m1 H1 (if b = true then A S1 else B S1) Q → Q' b H1) : tDT K f σ H Q' := by
  refine ⟨ρ, S, m, env, rs, ?_⟩
  cases e : f ρ S with
  | ok d S1 =>
    rw [e] at h
    simp only [R.bind_ok] at h
    cases d with
    | bl b =>
      rw [tst_bl] at h
      refine ⟨b, rfl, fun m1 H1 e1 rs1 => k m1 H1 S1 b e1 (env.ext e1) rs1 ?_⟩
      revert h
      generalize (if b = true then A S1 else B S1) = r
      cases r with
      | ok d S2 => exact fun ⟨b, e, q⟩ => ⟨b, e, fun m2 H2 e2 rs2 => q m2 H2 (e1.trans e2) rs2⟩
      | ex => exact fun h => h
      | no => exact fun h => h
    | _ => exact h.elim
  | ex => rw [e] at h; exact h
  | no => rw [e] at h; exact h
theorem PE.mono {X : Cx} {e : Expr} {t u : TE} (h : PE X e t) (hh : ∀ σ H Q, u σ H Q → t σ H Q) : PE X e u := ⟨fun pins s σ H Q I q => h.run pins s σ H Q I (hh σ H Q q)⟩
theorem PT.mono {X : Cx} {e : Expr} {t u : TT} (h : PT X e t) (hh : ∀ σ H Q, u σ H Q → t σ H Q) : PT X e u := ⟨fun pins s σ H Q I q => h.run pins s σ H Q I (hh σ H Q q)⟩
theorem PW.mono {X : Cx} {e : Expr} {t u : TT} (h : PW X e t) (hh : ∀ σ H Q, u σ H Q → t σ H Q) : PW X e u := ⟨fun wh pins s σ H Q I q => h.run wh pins s σ H Q I (hh σ H Q q)⟩
theorem PA.mono {X : Cx} {e : List Expr} {t u : TA} (h : PA X e t) (hh : ∀ σ H Q, u σ H Q → t σ H Q) : PA X e u := ⟨fun pos pins s σ H Q I q => h.run pos pins s σ H Q I (hh σ H Q q)⟩
theorem PS.mono {X : Cx} {e : Stmt} {t u : TS} (h : PS X e t) (hh : ∀ D σ H, u D σ H → t D σ H) : PS X e u := ⟨fun pins s σ H D I q => h.run pins s σ H D I (hh D σ H q)⟩
theorem PSs.mono {X : Cx} {e : List Stmt} {t u : TS} (h : PSs X e t) (hh : ∀ D σ H, u D σ H → t D σ H) : PSs X e u := ⟨fun pins s σ H D I q => h.run pins s σ H D I (hh D σ H q)⟩
theorem PG.mono {X : Cx} {e : Expr} {t u : TG} (h : PG X e t) (hh : ∀ v σ H Q, u v σ H Q → t v σ H Q) : PG X e u := ⟨fun pins s σ H v uu Q I r q => h.run pins s σ H v uu Q I r (hh v σ H Q q)⟩
theorem PI.mono {X : Cx} {tg e : Expr} {t u : TI} (h : PI X tg e t) (hh : ∀ σ H Q, u σ H Q → t σ H Q) : PI X tg e u := ⟨fun pins s σ H Q I q => h.run pins s σ H Q I (hh σ H Q q)⟩
end RS

namespace RS
open PySem PySem.Spec L2
section
variable {K : PySem.W.Frag} {m m' : List Addr} {H H' : Hp} {S : Hs}
theorem Post.ok {α β : Type} {rel : List Addr → Hp → α → β → Prop} {a : α} {Q : β → Hp → Prop} (h : Post K m H rel (.ok a S) Q) {b : β} (e : Ext m m' H H') (rs : RepS K m' H' S) (r : rel m' H' a b) : Q b H' := h b m' H' e rs r
theorem Post.ok0 {α β : Type} {rel : List Addr → Hp → α → β → Prop} {a : α} {Q : β → Hp → Prop} (h : Post K m H rel (.ok a S) Q) {b : β} (rs : RepS K m H S) (r : rel m H a b) : Q b H := h b m H (Ext.refl m H) rs r
theorem Post.lim {α β : Type} {rel : List Addr → Hp → α → β → Prop} {n : Nat} {r : R α} {Q : β → Hp → Prop} (h : Post K m H rel (lim n r) Q) : n ≤ sizeLine ∧ Post K m H rel r Q := by
  unfold RS.lim at h
  by_cases e : n ≤ sizeLine
  · rw [if_pos e] at h; exact ⟨e, h⟩
  · rw [if_neg e] at h; exact h.elim
theorem Post.ite {α β : Type} {rel : List Addr → Hp → α → β → Prop} {c : Prop} [Decidable c] {r : R α} {Q : β → Hp → Prop} (h : Post K m H rel (if c then r else .no) Q) : c ∧ Post K m H rel r Q := by
  by_cases e : c
  · rw [if_pos e] at h; exact ⟨e, h⟩
  · rw [if_neg e] at h; exact h.elim
/-- a list is there -/
theorem RepS.lst (rs : RepS K m H S) {n : Nat} {ds : List D} (h : S[n]? = some (.lst ds)) : ∃ a xs, m[n]? = some a ∧ H a = some (.lst xs) ∧ Reps K m H ds xs := by
  have hn : n < m.length := by rw [rs.len]; exact (List.getElem?_eq_some_iff.mp h).1
  obtain ⟨xs, h1, h2⟩ := rs.obj n _ m[n] h (List.getElem?_eq_getElem hn)
  exact ⟨_, xs, List.getElem?_eq_getElem hn, h1, h2⟩
theorem lstAt_some {n : Nat} {ds : List D} (h : lstAt S n = some ds) : S[n]? = some (.lst ds) := by
  unfold lstAt at h
  split at h
  · cases h; assumption
  · cases h
/-- a list or a tuple, to be read -/
theorem seq_rep (rs : RepS K m H S) {d : D} {v : V} {ds : List D} (r : Rep K m H d v) (h : seqOf S d = some ds) : ∃ a xs, v = .ref a ∧ (SqL K H a xs ∨ SqT K H a xs) ∧ Reps K m H ds xs := by
  cases d with
  | tup es =>
    rw [Rep.tup_] at r
    obtain ⟨a, xs, rfl, t, r⟩ := r
    cases h
    exact ⟨a, xs, rfl, .inr t.sq, r⟩
  | ref n =>
    rw [Rep.ref_] at r
    obtain ⟨a, e, rfl⟩ := r
    simp only [seqOf] at h
    split at h
    · rename_i es hs
      cases h
      obtain ⟨xs, h1, h2⟩ := rs.obj n _ a hs e
      exact ⟨a, xs, rfl, .inl (SqL.of h1), h2⟩
    · rename_i es hs
      cases h
      obtain ⟨o, xs, h1, h2⟩ := rs.obj n _ a hs e
      exact ⟨a, xs, rfl, .inl (.inl (.inr ⟨o, h1⟩)), h2⟩
    · cases h
  | _ => simp [seqOf] at h
theorem seqL_rep (rs : RepS K m H S) {n : Nat} {v : V} {ds : List D} (r : Rep K m H (.ref n) v) (h : seqOf S (.ref n) = some ds) : ∃ a xs, v = .ref a ∧ SqL K H a xs ∧ Reps K m H ds xs := by
  rw [Rep.ref_] at r
  obtain ⟨a, e, rfl⟩ := r
  simp only [seqOf] at h
  split at h
  · rename_i es hs
    cases h
    obtain ⟨xs, h1, h2⟩ := rs.obj n _ a hs e
    exact ⟨a, xs, rfl, SqL.of h1, h2⟩
  · rename_i es hs
    cases h
    obtain ⟨o, xs, h1, h2⟩ := rs.obj n _ a hs e
    exact ⟨a, xs, rfl, .inl (.inr ⟨o, h1⟩), h2⟩
  · cases h
/-- a new tuple -/
theorem Post.tupNew {ds : List D} {xs : List V} {Q : VK} (h : Post K m H (Rep K) (.ok (.tup ds) S) Q) (rs : RepS K m H S) (r : Reps K m H ds xs) {p : Addr} (hp : H p = none) : Q (.ref p) (upd H p (.tup xs)) := by
  have e := Ext.tupNew (o := HO.tup xs) rs hp
  refine h.ok e (rs.tupNew hp) ?_
  rw [Rep.tup_]
  exact ⟨p, xs, rfl, .inl upd_same, Reps.ext e ds r⟩
theorem Post.lstNew {ds : List D} {xs : List V} {Q : VK} (h : Post K m H (Rep K) (newO (.lst ds) S) Q) (rs : RepS K m H S) (r : Reps K m H ds xs) {p : Addr} (hp : H p = none) : Q (.ref p) (upd H p (.lst xs)) := by
  refine h.ok (Ext.new rs hp) (rs.newList hp r) ?_
  rw [Rep.ref_]
  exact ⟨p, by rw [← rs.len, List.getElem?_append_right (Nat.le_refl _)]; simp, rfl⟩
theorem Post.lstSet {α β : Type} {rel : List Addr → Hp → α → β → Prop} {a : α} {b : β} {Q : β → Hp → Prop} {n : Nat} {p : Addr} {ds : List D} {xs : List V} (h : Post K m H rel (.ok a (S.set n (.lst ds))) Q) (rs : RepS K m H S) (hn : m[n]? = some p) (r : Reps K m H ds xs) (q : rel m (upd H p (.lst xs)) a b) : Q b (upd H p (.lst xs)) :=
  h.ok (Ext.set rs hn) (rs.setList hn r) q

/-! ### operators -/
def rBin (K : PySem.W.Frag) (o : Bop) : R2 := fun x y H Q => ∃ m S a b, RepS K m H S ∧ Rep K m H a x ∧ Rep K m H b y ∧ Post K m H (Rep K) (binD S o a b) Q
def Bop.py : Bop → Operator
  | .add => .Add | .sub => .Sub | .mul => .Mult | .fdv => .FloorDiv | .mod => .Mod | .pow => .Pow
theorem str_length_append (x y : Str) : (x ++ y).length = x.length + y.length := by
  show (x.cps ++ y.cps).size = _
  rw [Array.size_append]; rfl
end
section
variable {X : Cx}
theorem op_bin (o : Bop) : OpR X (binaryOp o.py) (rBin X.K o) := by
  intro pins s σ H x y v u Q I rx ry h
  obtain ⟨m, S, a, b, rs, ra, rb, post⟩ := h
  cases o with
  | add =>
    cases a <;> cases b <;> first | exact post.elim | skip
    · rw [Rep.int_] at ra rb
      exact op_add pins s σ H x y v u Q I rx ry ⟨_, _, ra, rb, post.ok0 rs (Rep.int_.mpr rfl)⟩
    · rw [Rep.str_] at ra rb
      obtain ⟨hz, post⟩ := post.lim
      exact op_add_str pins s σ H x y v u Q I rx ry ⟨_, _, ra, rb, hz, post.ok0 rs (Rep.str_.mpr rfl)⟩
    · rw [Rep.tup_] at ra rb
      obtain ⟨pa, xs, rfl, ta, qa⟩ := ra
      obtain ⟨pb, ys, rfl, tb, qb⟩ := rb
      obtain ⟨hz, post⟩ := post.lim
      rw [qa.len, qb.len] at hz
      have full := qa.append qb
      refine op_catA pins s σ H _ _ v u Q I rx ry ⟨pa, pb, xs, ys, rfl, rfl, ta.sq, tb.sq, hz, fun e => ?_, fun _ e => ?_, fun _ _ p hp => post.tupNew rs full hp⟩
      · subst e
        exact post.ok0 rs (Rep.tup_.mpr ⟨pb, ys, rfl, tb, full⟩)
      · subst e
        exact post.ok0 rs (Rep.tup_.mpr ⟨pa, xs, rfl, ta, by simpa using full⟩)
    · rename_i na nb
      rw [Rep.ref_] at ra rb
      obtain ⟨pa, ea, rfl⟩ := ra
      obtain ⟨pb, eb, rfl⟩ := rb
      simp only [binD] at post
      split at post
      · rename_i xs ys h1 h2
        obtain ⟨_, vs, q1, ha, qa⟩ := rs.lst h1
        obtain ⟨_, ws, q2, hb, qb⟩ := rs.lst h2
        rw [ea] at q1; rw [eb] at q2
        cases q1; cases q2
        obtain ⟨hz, post⟩ := post.lim
        rw [qa.len, qb.len] at hz
        exact op_cat pins s σ H _ _ v u Q I rx ry ⟨pa, pb, vs, ws, rfl, rfl, ha, hb, hz, fun p hp => post.lstNew rs (qa.append qb) hp⟩
      · exact post.elim
  | sub =>
    cases a <;> cases b <;> first | exact post.elim | skip
    rw [Rep.int_] at ra rb
    exact op_sub pins s σ H x y v u Q I rx ry ⟨_, _, ra, rb, post.ok0 rs (Rep.int_.mpr rfl)⟩
  | mul =>
    cases a <;> cases b <;> first | exact post.elim | skip
    · rw [Rep.int_] at ra rb
      obtain ⟨hc, post⟩ := post.ite
      refine op_mul pins s σ H x y v u Q I rx ry ⟨_, _, ra, rb, ?_, post.ok0 rs (Rep.int_.mpr rfl)⟩
      simpa [mulOk, CMul] using hc
    · rw [Rep.tup_] at ra
      rw [Rep.int_] at rb
      obtain ⟨pa, xs, rfl, ta, qa⟩ := ra
      obtain ⟨⟨h0, h1, h2, h3⟩, post⟩ := post.ite
      rw [qa.len] at h3
      refine op_repT pins s σ H _ _ v u Q I rx ry ⟨pa, _, xs, rfl, rb, ta.sq, fun e => h0 ?_, h1, h2, h3, fun p hp => post.tupNew rs (qa.rep _) hp⟩
      have := qa.len
      rw [e] at this
      exact List.length_eq_zero_iff.mp this
    · rw [Rep.ref_] at ra
      rw [Rep.int_] at rb
      obtain ⟨pa, ea, rfl⟩ := ra
      simp only [binD] at post
      split at post
      · rename_i xs h1
        obtain ⟨_, vs, q1, ha, qa⟩ := rs.lst h1
        rw [ea] at q1
        cases q1
        obtain ⟨⟨h1, h2, h3⟩, post⟩ := post.ite
        rw [qa.len] at h3
        exact op_rep pins s σ H _ _ v u Q I rx ry ⟨pa, _, vs, rfl, rb, ha, h1, h2, h3, fun p hp => post.lstNew rs (qa.rep _) hp⟩
      · exact post.elim
  | fdv =>
    cases a <;> cases b <;> first | exact post.elim | skip
    rw [Rep.int_] at ra rb
    obtain ⟨hc, post⟩ := post.ite
    exact op_fdivN pins s σ H x y v u Q I rx ry ⟨_, _, ra, rb, hc, post.ok0 rs (Rep.int_.mpr rfl)⟩
  | mod =>
    cases a <;> cases b <;> first | exact post.elim | skip
    rw [Rep.int_] at ra rb
    obtain ⟨hc, post⟩ := post.ite
    exact op_modN pins s σ H x y v u Q I rx ry ⟨_, _, ra, rb, hc, post.ok0 rs (Rep.int_.mpr rfl)⟩
  | pow =>
    cases a <;> cases b <;> first | exact post.elim | skip
    rw [Rep.int_] at ra rb
    obtain ⟨hc, post⟩ := post.ite
    exact op_pow pins s σ H x y v u Q I rx ry ⟨_, _, ra, rb, hc, post.ok0 rs (Rep.int_.mpr rfl)⟩
end

/-! ### comparisons -/
mutual
theorem pdat_rep {K : PySem.W.Frag} {m : List Addr} {H : Hp} {S : Hs} (rs : RepS K m H S) : ∀ (n : Nat) (d : D) {v : V} {p : PyData}, Rep K m H d v → pdat S n d = some p → Dp K H v p
  | 0, _, _, _, _, h => by simp [pdat] at h
  | n + 1, .non, v, p, r, h => by
    rw [Rep.non_] at r
    simp [pdat] at h
    subst r h
    exact .non
  | n + 1, .bl b, v, p, r, h => by
    rw [Rep.bl_] at r
    simp [pdat] at h
    subst r h
    exact .bl b
  | n + 1, .int b, v, p, r, h => by
    rw [Rep.int_] at r
    simp [pdat] at h
    subst r h
    exact .int b
  | n + 1, .str b, v, p, r, h => by
    rw [Rep.str_] at r
    simp [pdat] at h
    subst r h
    exact .str b
  | n + 1, .tup ds, v, p, r, h => by
    rw [Rep.tup_] at r
    obtain ⟨a, xs, rfl, t, r⟩ := r
    simp only [pdat] at h
    cases e : mapO (pdat S n) ds with
    | none => rw [e] at h; simp at h
    | some ps =>
      rw [e] at h
      simp at h
      subst h
      exact .tup t.sq (pdats_rep rs n ds r e)
  | n + 1, .ref a, v, p, r, h => by
    rw [Rep.ref_] at r
    obtain ⟨q, e, rfl⟩ := r
    simp only [pdat] at h
    split at h
    · rename_i ds hs
      obtain ⟨xs, h1, h2⟩ := rs.obj a _ q hs e
      cases e2 : mapO (pdat S n) ds with
      | none => rw [e2] at h; simp at h
      | some ps =>
        rw [e2] at h
        simp at h
        subst h
        exact .lst (SqL.of h1) (pdats_rep rs n ds h2 e2)
    · rename_i ds hs
      obtain ⟨o, xs, h1, h2⟩ := rs.obj a _ q hs e
      cases e2 : mapO (pdat S n) ds with
      | none => rw [e2] at h; simp at h
      | some ps =>
        rw [e2] at h
        simp at h
        subst h
        exact .lst (.inl (.inr ⟨o, h1⟩)) (pdats_rep rs n ds h2 e2)
    · cases h
theorem pdats_rep {K : PySem.W.Frag} {m : List Addr} {H : Hp} {S : Hs} (rs : RepS K m H S) (n : Nat) : ∀ (ds : List D) {vs : List V} {ps : List PyData}, Reps K m H ds vs → mapO (pdat S n) ds = some ps → DpAll K H vs ps
  | [], vs, ps, r, h => by
    rw [Reps.nil_] at r
    simp [mapO] at h
    subst r h
    exact .nil
  | d :: ds, vs, ps, r, h => by
    rw [Reps.cons_] at r
    obtain ⟨x, q, rfl, r1, r2⟩ := r
    simp only [mapO] at h
    split at h
    · rename_i b bs h1 h2
      cases h
      exact .cons (pdat_rep rs n d r1 h1) (pdats_rep rs n ds r2 h2)
    · cases h
end
theorem shp_rep {K : PySem.W.Frag} {m : List Addr} {H : Hp} {S : Hs} (rs : RepS K m H S) {d : D} {v : V} {p : PyData} (r : Rep K m H d v) (h : shp S d = some p) : Dp K H v p ∧ SeqAt.shaped p = true := by
  unfold shp at h
  split at h
  · rename_i q e
    split at h
    · rename_i hs
      cases h
      exact ⟨pdat_rep rs _ d r e, hs⟩
    · cases h
  · cases h
theorem eqD_int {S : Hs} {i j : Int} : eqD S (.int i) (.int j) = some (decide (i = j)) := rfl
theorem eqD_rest {S : Hs} {x y : D} {b : Bool} (h : eqD S x y = some b) : (∃ i j, x = .int i ∧ y = .int j ∧ b = decide (i = j)) ∨ (∃ i j, x = .str i ∧ y = .str j ∧ b = decide (i = j)) ∨ ∃ p q, shp S x = some p ∧ shp S y = some q ∧ b = PyData.eqv p q := by
  unfold eqD at h
  split at h
  · cases h; exact .inl ⟨_, _, rfl, rfl, rfl⟩
  · cases h; exact .inr (.inl ⟨_, _, rfl, rfl, rfl⟩)
  · split at h
    · rename_i p q h1 h2
      cases h
      exact .inr (.inr ⟨p, q, h1, h2, rfl⟩)
    · cases h
def Cop.py : Cop → CmpOp
  | .lt => .Lt | .le => .LtE | .gt => .Gt | .ge => .GtE | .eq => .Eq | .ne => .NotEq | .mem => .In | .nmem => .NotIn
def rCmp (K : PySem.W.Frag) (o : Cop) : R2 := fun x y H Q => ∃ m S a b, RepS K m H S ∧ Rep K m H a x ∧ Rep K m H b y ∧ Post K m H (Rep K) (cmpD S o a b) Q
section
variable {K : PySem.W.Frag} {m m' : List Addr} {H H' : Hp} {S : Hs}
theorem flatD_rep {d : D} {v : V} (r : Rep K m H d v) (f : flatD d = true) : flatV v = true := by
  cases d with
  | non => rw [Rep.non_] at r; subst r; rfl
  | bl => rw [Rep.bl_] at r; subst r; rfl
  | int => rw [Rep.int_] at r; subst r; rfl
  | str => rw [Rep.str_] at r; subst r; rfl
  | tup => simp [flatD] at f
  | ref => simp [flatD] at f
theorem eqF_rep {d e : D} {v u : V} (r : Rep K m H d v) (r' : Rep K m H e u) (f : flatD d = true) (f' : flatD e = true) : eqV v u = eqF d e := by
  cases d <;> simp [flatD] at f <;> cases e <;> simp [flatD] at f' <;>
    (simp only [Rep.non_, Rep.bl_, Rep.int_, Rep.str_] at r r'; subst r r'; rfl)
theorem flats_rep : ∀ {ds : List D} {vs : List V}, Reps K m H ds vs → ds.all flatD = true → vs.all flatV = true
  | [], _, r, _ => by rw [Reps.nil_] at r; subst r; rfl
  | d :: ds, _, r, f => by
    rw [Reps.cons_] at r
    obtain ⟨x, q, rfl, r1, r2⟩ := r
    rw [List.all_cons, Bool.and_eq_true] at f ⊢
    exact ⟨flatD_rep r1 f.1, flats_rep r2 f.2⟩
theorem anyF_rep {e : D} {u : V} (r' : Rep K m H e u) (f' : flatD e = true) : ∀ {ds : List D} {vs : List V}, Reps K m H ds vs → ds.all flatD = true → inV u vs = ds.any fun z => eqF z e
  | [], _, r, _ => by rw [Reps.nil_] at r; subst r; rfl
  | d :: ds, _, r, f => by
    rw [Reps.cons_] at r
    obtain ⟨x, q, rfl, r1, r2⟩ := r
    rw [List.all_cons, Bool.and_eq_true] at f
    unfold inV
    rw [List.any_cons, List.any_cons, eqF_rep r1 r' f.1 f']
    have := anyF_rep r' f' r2 f.2
    unfold inV at this
    rw [this]
end
section
variable {X : Cx}
theorem op_mem (neg : Bool) {o : CmpOp} (hs : OpR X (compareOp o) (fun x y H Q => ∃ i j, x = .str i ∧ y = .str j ∧ Q (.bl (neg != !(Builtin.Str.occurrences j i 0 j.length 1).isEmpty)) H)) (hi : OpR X (compareOp o) (rIn X.K neg)) :
    OpR X (compareOp o) (fun x y H Q => ∃ m S a b, RepS X.K m H S ∧ Rep X.K m H a x ∧ Rep X.K m H b y ∧ Post X.K m H (Rep X.K) (memD S neg a b) Q) := by
  intro pins s σ H x y v u Q I rx ry h
  obtain ⟨m, S, a, b, rs, ra, rb, post⟩ := h
  have gen : ∀ ds, seqOf S b = some ds → Post X.K m H (Rep X.K) (if (flatD a && ds.all flatD) = true then .ok (.bl (neg != ds.any fun z => eqF z a)) S else .no) Q → wpAny (model X.prog X.w) X.A (compareOp o v u) (EP X pins σ Q) X.xe s := by
    intro ds e post
    obtain ⟨hc, post⟩ := post.ite
    rw [Bool.and_eq_true] at hc
    obtain ⟨p, xs, rfl, hq, r⟩ := seq_rep rs rb e
    refine hi pins s σ H x _ v u Q I rx ry ⟨p, xs, rfl, hq, flatD_rep ra hc.1, flats_rep r hc.2, ?_⟩
    rw [anyF_rep ra hc.1 r hc.2]
    have := post.ok0 (b := .bl (neg != ds.any fun z => eqF z a)) rs (Rep.bl_.mpr rfl)
    cases neg <;> simpa using this
  cases b with
  | str z =>
    cases a with
    | str w =>
      rw [Rep.str_] at ra rb
      exact hs pins s σ H x y v u Q I rx ry ⟨_, _, ra, rb, post.ok0 rs (Rep.bl_.mpr rfl)⟩
    | _ => exact post.elim
  | tup ds => exact gen ds rfl post
  | ref n =>
    simp only [memD] at post
    split at post
    · rename_i ds e
      exact gen ds e post
    · exact post.elim
  | _ => exact post.elim
theorem op_cmp (o : Cop) (hu : X.A.units + 64 < cLine) : OpR X (compareOp o.py) (rCmp X.K o) := by
  intro pins s σ H x y v u Q I rx ry h
  obtain ⟨m, S, a, b, rs, ra, rb, post⟩ := h
  have eqs : ∀ (neg : Bool) {k : CmpOp}, (∀ p q, shp S a = some p → shp S b = some q → Q (.bl (neg != PyData.eqv p q)) H → wpAny (model X.prog X.w) X.A (compareOp k v u) (EP X pins σ Q) X.xe s) →
      (scal x y = true → Q (.bl (neg != decide (x = y))) H → wpAny (model X.prog X.w) X.A (compareOp k v u) (EP X pins σ Q) X.xe s) →
      Post X.K m H (Rep X.K) (match eqD S a b with | some c => .ok (.bl (neg != c)) S | none => .no) Q → wpAny (model X.prog X.w) X.A (compareOp k v u) (EP X pins σ Q) X.xe s := by
    intro neg k f1 f2 post
    split at post
    · rename_i c e
      have q := post.ok0 (b := .bl (neg != c)) rs (Rep.bl_.mpr rfl)
      rcases eqD_rest e with ⟨i, j, rfl, rfl, rfl⟩ | ⟨i, j, rfl, rfl, rfl⟩ | ⟨p, w, h1, h2, rfl⟩
      · rw [Rep.int_] at ra rb
        subst ra rb
        refine f2 rfl ?_
        rw [dec_int]
        rwa [Bool.beq_eq_decide_eq]
      · rw [Rep.str_] at ra rb
        subst ra rb
        refine f2 rfl ?_
        have : decide (V.str i = V.str j) = decide (i = j) := by
          rw [Bool.eq_iff_iff]; simp
        rw [this]
        exact q
      · exact f1 p w h1 h2 q
    · exact post.elim
  cases o with
  | lt =>
    cases a <;> cases b <;> first | exact post.elim | skip
    rw [Rep.int_] at ra rb
    exact op_lt pins s σ H x y v u Q I rx ry ⟨_, _, ra, rb, post.ok0 rs (Rep.bl_.mpr rfl)⟩
  | le =>
    cases a <;> cases b <;> first | exact post.elim | skip
    rw [Rep.int_] at ra rb
    exact op_le pins s σ H x y v u Q I rx ry ⟨_, _, ra, rb, post.ok0 rs (Rep.bl_.mpr rfl)⟩
  | gt =>
    cases a <;> cases b <;> first | exact post.elim | skip
    rw [Rep.int_] at ra rb
    exact op_gt pins s σ H x y v u Q I rx ry ⟨_, _, ra, rb, post.ok0 rs (Rep.bl_.mpr rfl)⟩
  | ge =>
    cases a <;> cases b <;> first | exact post.elim | skip
    rw [Rep.int_] at ra rb
    exact op_ge pins s σ H x y v u Q I rx ry ⟨_, _, ra, rb, post.ok0 rs (Rep.bl_.mpr rfl)⟩
  | eq =>
    refine eqs false (k := .Eq) (fun p q h1 h2 hq => ?_) (fun hs hq => op_eq pins s σ H x y v u Q I rx ry ⟨hs, by simpa using hq⟩) ?_
    · obtain ⟨d1, s1⟩ := shp_rep rs ra h1
      obtain ⟨d2, s2⟩ := shp_rep rs rb h2
      exact op_eqD hu pins s σ H x y v u Q I rx ry ⟨p, q, d1, d2, s1, s2, by simpa using hq⟩
    · simp only [cmpD] at post
      cases e : eqD S a b with
      | none => rw [e] at post; exact post.elim
      | some c => rw [e] at post; simpa using post
  | ne =>
    refine eqs true (k := .NotEq) (fun p q h1 h2 hq => ?_) (fun hs hq => op_ne pins s σ H x y v u Q I rx ry ⟨hs, by simpa using hq⟩) ?_
    · obtain ⟨d1, s1⟩ := shp_rep rs ra h1
      obtain ⟨d2, s2⟩ := shp_rep rs rb h2
      exact op_neD hu pins s σ H x y v u Q I rx ry ⟨p, q, d1, d2, s1, s2, by simpa using hq⟩
    · simp only [cmpD] at post
      cases e : eqD S a b with
      | none => rw [e] at post; exact post.elim
      | some c => rw [e] at post; simpa using post
  | mem =>
    refine op_mem false ?_ op_in_seq pins s σ H x y v u Q I rx ry ⟨m, S, a, b, rs, ra, rb, post⟩
    intro pins s σ H x y v u Q I rx ry ⟨i, j, h1, h2, q⟩
    exact op_in_str pins s σ H x y v u Q I rx ry ⟨i, j, h1, h2, by simpa using q⟩
  | nmem =>
    refine op_mem true ?_ op_notIn_seq pins s σ H x y v u Q I rx ry ⟨m, S, a, b, rs, ra, rb, post⟩
    intro pins s σ H x y v u Q I rx ry ⟨i, j, h1, h2, q⟩
    exact op_notIn_str pins s σ H x y v u Q I rx ry ⟨i, j, h1, h2, by simpa using q⟩
end
end RS

namespace RS
open PySem PySem.Spec L2
/-! ### built-in functions -/
def Bi.nm : Bi → Str
  | .len => "len" | .int => "int" | .list => "list" | .tuple => "tuple" | .sum => "sum" | .all => "all" | .any => "any" | .max => "max" | .min => "min"
  | .sorted => "sorted" | .sortedSet => "sorted" | .lenSet => "len" | .repr => "repr" | .dict => "dict" | .split => "split"
def Bi.val : Bi → Value
  | .len => .builtin "len" | .int => .type "int" | .list => .type "list" | .tuple => .type "tuple" | .sum => .builtin "sum" | .all => .builtin "all" | .any => .builtin "any" | .max => .builtin "max" | .min => .builtin "min"
  | .sorted => .builtin "sorted" | .sortedSet => .none | .lenSet => .none | .repr => .builtin "repr" | .dict => .type "dict" | .split => .none
def rBi (K : PySem.W.Frag) (f : Bi) : List V → Hp → VK → Prop := fun vs H Q => ∃ m S ds, RepS K m H S ∧ Reps K m H ds vs ∧ Post K m H (Rep K) (biF S f ds) Q
section
variable {K : PySem.W.Frag} {m m' : List Addr} {H H' : Hp} {S : Hs}
theorem Reps.one_ {d : D} {vs : List V} (r : Reps K m H [d] vs) : ∃ v, vs = [v] ∧ Rep K m H d v := by
  rw [Reps.cons_] at r
  obtain ⟨x, q, rfl, r1, r2⟩ := r
  rw [Reps.nil_] at r2
  subst r2
  exact ⟨x, rfl, r1⟩
theorem Reps.two_ {d e : D} {vs : List V} (r : Reps K m H [d, e] vs) : ∃ v u, vs = [v, u] ∧ Rep K m H d v ∧ Rep K m H e u := by
  rw [Reps.cons_] at r
  obtain ⟨x, q, rfl, r1, r2⟩ := r
  obtain ⟨u, rfl, r3⟩ := r2.one_
  exact ⟨x, u, rfl, r1, r3⟩
theorem ints_rep : ∀ {ds : List D} {vs : List V} {ns : List Int}, Reps K m H ds vs → intsOf ds = some ns → vs = ns.map V.int
  | [], _, ns, r, h => by rw [Reps.nil_] at r; simp [intsOf, mapO] at h; subst r h; rfl
  | d :: ds, _, ns, r, h => by
    rw [Reps.cons_] at r
    obtain ⟨x, q, rfl, r1, r2⟩ := r
    simp only [intsOf, mapO] at h
    split at h
    · rename_i b bs h1 h2
      cases h
      cases d <;> simp [asI] at h1
      subst h1
      rw [Rep.int_] at r1
      subst r1
      rw [ints_rep r2 h2]; rfl
    · cases h
theorem bools_rep : ∀ {ds : List D} {vs : List V} {ns : List Bool}, Reps K m H ds vs → boolsOf ds = some ns → vs = ns.map V.bl
  | [], _, ns, r, h => by rw [Reps.nil_] at r; simp [boolsOf, mapO] at h; subst r h; rfl
  | d :: ds, _, ns, r, h => by
    rw [Reps.cons_] at r
    obtain ⟨x, q, rfl, r1, r2⟩ := r
    simp only [boolsOf, mapO] at h
    split at h
    · rename_i b bs h1 h2
      cases h
      cases d <;> simp [asB] at h1
      subst h1
      rw [Rep.bl_] at r1
      subst r1
      rw [bools_rep r2 h2]; rfl
    · cases h
theorem strs_rep : ∀ {ds : List D} {vs : List V} {ns : List Str}, Reps K m H ds vs → strsOf ds = some ns → vs = ns.map V.str
  | [], _, ns, r, h => by rw [Reps.nil_] at r; simp [strsOf, mapO] at h; subst r h; rfl
  | d :: ds, _, ns, r, h => by
    rw [Reps.cons_] at r
    obtain ⟨x, q, rfl, r1, r2⟩ := r
    simp only [strsOf, mapO] at h
    split at h
    · rename_i b bs h1 h2
      cases h
      cases d <;> simp [asS] at h1
      subst h1
      rw [Rep.str_] at r1
      subst r1
      rw [strs_rep r2 h2]; rfl
    · cases h
theorem maxL_is : ∀ (ns : List Int) (m z : Int), ns.foldl (fun a b => if b > a then b else a) z = m → (z = m ∨ m ∈ ns) ∧ z ≤ m ∧ ∀ y ∈ ns, y ≤ m
  | [], m, z, h => by simp at h; subst h; simp
  | x :: xs, m, z, h => by
    simp only [List.foldl_cons] at h
    obtain ⟨h1, h2, h3⟩ := maxL_is xs m _ h
    by_cases e : x > z
    · rw [if_pos e] at h1 h2
      refine ⟨.inr ?_, by omega, fun y hy => ?_⟩
      · rcases h1 with h1 | h1
        · simp [h1]
        · simp [h1]
      · rcases List.mem_cons.mp hy with rfl | hy
        · exact h2
        · exact h3 y hy
    · rw [if_neg e] at h1 h2
      refine ⟨?_, h2, fun y hy => ?_⟩
      · rcases h1 with h1 | h1
        · exact .inl h1
        · exact .inr (by simp [h1])
      · rcases List.mem_cons.mp hy with rfl | hy
        · omega
        · exact h3 y hy
theorem minL_is : ∀ (ns : List Int) (m z : Int), ns.foldl (fun a b => if b < a then b else a) z = m → (z = m ∨ m ∈ ns) ∧ m ≤ z ∧ ∀ y ∈ ns, m ≤ y
  | [], m, z, h => by simp at h; subst h; simp
  | x :: xs, m, z, h => by
    simp only [List.foldl_cons] at h
    obtain ⟨h1, h2, h3⟩ := minL_is xs m _ h
    by_cases e : x < z
    · rw [if_pos e] at h1 h2
      refine ⟨.inr ?_, by omega, fun y hy => ?_⟩
      · rcases h1 with h1 | h1
        · simp [h1]
        · simp [h1]
      · rcases List.mem_cons.mp hy with rfl | hy
        · exact h2
        · exact h3 y hy
    · rw [if_neg e] at h1 h2
      refine ⟨?_, h2, fun y hy => ?_⟩
      · rcases h1 with h1 | h1
        · exact .inl h1
        · exact .inr (by simp [h1])
      · rcases List.mem_cons.mp hy with rfl | hy
        · omega
        · exact h3 y hy
end
theorem CallR.mono {X : Cx} {f : Value} {r r' : List V → Hp → VK → Prop} (h : CallR X f r) (hh : ∀ pins s σ vs H Q, Inv X pins σ H s → r' vs H Q → r vs H Q) : CallR X f r' :=
  fun pins s σ H xs us Q I rs q => h pins s σ H xs us Q I rs (hh pins s σ xs H Q I q)
section
variable {X : Cx}
theorem call_len' : CallR X (.builtin "len") (rBi X.K .len) := by
  refine CallR.mono call_len fun pins s σ vs H Q I h => ?_
  obtain ⟨m, S, ds, rs, rr, post⟩ := h
  match ds, rr, post with
  | [], _, post => exact post.elim
  | _ :: _ :: _, _, post => exact post.elim
  | [d], r0, post =>
    obtain ⟨v, rfl, r⟩ := r0.one_
    simp only [biF] at post
    split at post
    · rename_i n e
      have q := post.ok0 (b := .int n) rs (Rep.int_.mpr rfl)
      refine ⟨v, n, rfl, ?_, q⟩
      cases d with
      | str x =>
        rw [Rep.str_] at r
        subst r
        simp only [lenOf] at e
        split at e
        · cases e; exact ⟨by assumption, rfl⟩
        · cases e
      | tup ds =>
        obtain ⟨a, xs, rfl, hq, r⟩ := seq_rep rs r rfl
        simp [lenOf, seqOf] at e
        rcases hq with hq | hq
        · exact .inl ⟨xs, hq, by rw [← e, r.len]⟩
        · exact .inr ⟨xs, hq, by rw [← e, r.len]⟩
      | ref k =>
        simp only [lenOf] at e
        cases e2 : seqOf S (.ref k) with
        | none => rw [e2] at e; simp at e
        | some ds =>
          rw [e2] at e
          simp at e
          obtain ⟨a, xs, rfl, hq, r⟩ := seqL_rep rs r e2
          exact .inl ⟨xs, hq, by rw [← e, r.len]⟩
      | _ => simp [lenOf, seqOf] at e
    · exact post.elim
theorem call_int' : CallR X (.type "int") (rBi X.K .int) := by
  refine CallR.mono call_int1 fun pins s σ vs H Q I h => ?_
  obtain ⟨m, S, ds, rs, rr, post⟩ := h
  match ds, rr, post with
  | [], _, post => exact post.elim
  | _ :: _ :: _, _, post => exact (by simpa [biF, Post] using post : False).elim
  | [d], r0, post =>
    obtain ⟨v, rfl, r⟩ := r0.one_
    cases d with
    | int i =>
      rw [Rep.int_] at r
      subst r
      exact .inl ⟨i, rfl, post.ok0 rs (Rep.int_.mpr rfl)⟩
    | bl b =>
      rw [Rep.bl_] at r
      subst r
      exact .inr ⟨b, rfl, post.ok0 rs (Rep.int_.mpr rfl)⟩
    | _ => exact post.elim
theorem call_tuple' : CallR X (.type "tuple") (rBi X.K .tuple) := by
  refine CallR.mono call_tuple_of fun pins s σ vs H Q I h => ?_
  obtain ⟨m, S, ds, rs, rr, post⟩ := h
  match ds, rr, post with
  | [], _, post => exact post.elim
  | _ :: _ :: _, _, post => exact (by simpa [biF, Post] using post : False).elim
  | [d], r0, post =>
    obtain ⟨v, rfl, r⟩ := r0.one_
    simp only [biF] at post
    split at post
    · rename_i es e
      cases d with
      | tup ds =>
        cases e
        have r' := r
        rw [Rep.tup_] at r
        obtain ⟨a, xs, rfl, t, r⟩ := r
        exact ⟨a, xs, rfl, .inr ⟨t.sq, post.ok0 rs r'⟩⟩
      | ref n =>
        obtain ⟨a, xs, rfl, hq, r⟩ := seqL_rep rs r e
        exact ⟨a, xs, rfl, .inl ⟨hq, fun l hl => post.tupNew rs r hl⟩⟩
      | _ => simp [seqOf] at e
    · exact post.elim
/-- list of a list or a tuple -/
theorem call_list'' : CallR X (.type "list") (fun vs H Q => ∃ m S d ds v, RepS X.K m H S ∧ vs = [v] ∧ Rep X.K m H d v ∧ seqOf S d = some ds ∧ Post X.K m H (Rep X.K) (newO (.lst ds) S) Q) := by
  refine CallR.mono call_list_of fun pins s σ vs H Q I h => ?_
  obtain ⟨m, S, d, ds, v, rs, rfl, r, e, post⟩ := h
  obtain ⟨a, xs, rfl, hq, r⟩ := seq_rep rs r e
  exact ⟨a, xs, rfl, hq, fun l hl => post.lstNew rs r hl⟩
theorem vals_of_get : ∀ {xs : List V} {us : List Value}, xs.length = us.length → (∀ (j : Nat) (v : Value), us[j]? = some v → ∃ x, xs[j]? = some x ∧ RelV x v) → Vals xs us
  | [], [], _, _ => .nil
  | [], _ :: _, h, _ => by simp at h
  | _ :: _, [], h, _ => by simp at h
  | x :: xs, u :: us, h, f => by
    obtain ⟨y, e, r⟩ := f 0 u rfl
    simp at e
    subst e
    exact .cons r (vals_of_get (by simpa using h) fun j v hv => by
      obtain ⟨y, e, r⟩ := f (j + 1) v (by simpa using hv)
      exact ⟨y, by simpa using e, r⟩)
def signV (x : Str) : List V := x.cps.toList.map fun c => V.str ⟨#[c]⟩
theorem signs_rep {K : PySem.W.Frag} {m : List Addr} {H : Hp} (x : Str) : Reps K m H (signs x) (signV x) := by
  unfold signs signV
  generalize x.cps.toList = l
  induction l with
  | nil => simp [Reps.nil_]
  | cons c l ih => simp only [List.map_cons]; rw [Reps.cons_]; exact ⟨_, _, rfl, Rep.str_.mpr rfl, ih⟩
theorem call_list_str' (hc : X.calm = true) : CallR X (.type "list") (fun vs H Q => ∃ m S x, RepS X.K m H S ∧ vs = [.str x] ∧ x.length ≤ sizeLine ∧ Post X.K m H (Rep X.K) (newO (.lst (signs x)) S) Q) := by
  intro pins s σ H xs us Q I r h
  obtain ⟨m, S, x, rs, rfl, hz, post⟩ := h
  obtain ⟨u, rfl, t, rfl⟩ := vals1 r
  refine PySem.call_list_str (I.ok.hd hc) x t (fun h' tk acc c' hk e' hi => ?_) (by exact hz)
  have hv : Vals (signV x) acc.toList := by
    refine vals_of_get ?_ fun j v hv => ?_
    · simp [signV, hi.1]
    · obtain ⟨c, w, h1, rfl⟩ := hi.2 j v (by simpa using hv)
      exact ⟨.str ⟨#[c]⟩, by simp [signV, h1], ⟨w, rfl⟩⟩
  refine ⟨.ref s.heap.objs.size, upd H s.heap.objs.size (.lst (signV x)), I.laid hk (Nat.le_refl _) (show ObjOk X.prog X.w _ _ _ (.lst (signV x)) from ⟨?_, acc.toList, c', hv, ?_⟩), rfl, post.lstNew rs (signs_rep x) (I.hok.fresh (Nat.le_refl _))⟩
  · simp [signV]; exact hz
  · rw [Array.toArray_toList]; exact e'
theorem call_list' (hc : X.calm = true) : CallR X (.type "list") (rBi X.K .list) := by
  refine CallR.mono (CallR.or call_list'' (call_list_str' hc)) fun pins s σ vs H Q I h => ?_
  obtain ⟨m, S, ds, rs, rr, post⟩ := h
  match ds, rr, post with
  | [], _, post => exact post.elim
  | _ :: _ :: _, _, post => exact (by simpa [biF, Post] using post : False).elim
  | [d], r0, post =>
    obtain ⟨v, rfl, r⟩ := r0.one_
    have gen : ∀ e : D, e = d → (∀ x, e ≠ .str x) → Post X.K m H (Rep X.K) (match seqOf S e with | some ds => newO (.lst ds) S | none => .no) Q → ∃ m S d ds v', RepS X.K m H S ∧ [v] = [v'] ∧ Rep X.K m H d v' ∧ seqOf S d = some ds ∧ Post X.K m H (Rep X.K) (newO (.lst ds) S) Q := by
      intro e he _ p
      subst he
      split at p
      · rename_i ds e2
        exact ⟨m, S, e, ds, v, rs, rfl, r, e2, p⟩
      · exact p.elim
    cases d with
    | str x =>
      rw [Rep.str_] at r
      subst r
      simp only [biF] at post
      obtain ⟨hz, post⟩ := post.lim
      exact .inr ⟨m, S, x, rs, rfl, hz, post⟩
    | tup ds => exact .inl ⟨m, S, .tup ds, ds, v, rs, rfl, r, rfl, by simpa [biF, seqOf] using post⟩
    | ref n =>
      simp only [biF] at post
      split at post
      · rename_i ds e2
        exact .inl ⟨m, S, .ref n, ds, v, rs, rfl, r, e2, post⟩
      · exact post.elim
    | non => exact (by simpa [biF, seqOf, Post] using post : False).elim
    | bl => exact (by simpa [biF, seqOf, Post] using post : False).elim
    | int => exact (by simpa [biF, seqOf, Post] using post : False).elim
theorem call_sum' (hc : X.calm = true) : CallR X (.builtin "sum") (rBi X.K .sum) := by
  refine CallR.mono (cr_sum hc) fun pins s σ vs H Q I h => ?_
  obtain ⟨m, S, ds, rs, rr, post⟩ := h
  match ds, rr, post with
  | [], _, post => exact post.elim
  | _ :: _ :: _, _, post => exact (by simpa [biF, Post] using post : False).elim
  | [.ref n], r0, post =>
    obtain ⟨v, rfl, r⟩ := r0.one_
    simp only [biF] at post
    split at post
    · rename_i ns e
      cases e2 : seqOf S (.ref n) with
      | none => rw [e2] at e; simp at e
      | some ds =>
        rw [e2] at e
        obtain ⟨a, xs, rfl, hq, r⟩ := seqL_rep rs r e2
        rw [ints_rep r e] at hq
        exact ⟨a, ns, rfl, hq, post.ok0 rs (Rep.int_.mpr rfl)⟩
    · exact post.elim
  | [.non], _, post => exact post.elim
  | [.bl _], _, post => exact post.elim
  | [.int _], _, post => exact post.elim
  | [.str _], _, post => exact post.elim
  | [.tup _], _, post => exact post.elim
theorem call_all' (hc : X.calm = true) : CallR X (.builtin "all") (rBi X.K .all) := by
  refine CallR.mono (cr_all hc) fun pins s σ vs H Q I h => ?_
  obtain ⟨m, S, ds, rs, rr, post⟩ := h
  match ds, rr, post with
  | [], _, post => exact post.elim
  | _ :: _ :: _, _, post => exact (by simpa [biF, Post] using post : False).elim
  | [.ref n], r0, post =>
    obtain ⟨v, rfl, r⟩ := r0.one_
    simp only [biF] at post
    split at post
    · rename_i ns e
      cases e2 : seqOf S (.ref n) with
      | none => rw [e2] at e; simp at e
      | some ds =>
        rw [e2] at e
        obtain ⟨a, xs, rfl, hq, r⟩ := seqL_rep rs r e2
        rw [bools_rep r e] at hq
        exact ⟨a, ns, rfl, hq, post.ok0 rs (Rep.bl_.mpr rfl)⟩
    · exact post.elim
  | [.non], _, post => exact post.elim
  | [.bl _], _, post => exact post.elim
  | [.int _], _, post => exact post.elim
  | [.str _], _, post => exact post.elim
  | [.tup _], _, post => exact post.elim
theorem call_any' (hc : X.calm = true) : CallR X (.builtin "any") (rBi X.K .any) := by
  refine CallR.mono (cr_any hc) fun pins s σ vs H Q I h => ?_
  obtain ⟨m, S, ds, rs, rr, post⟩ := h
  match ds, rr, post with
  | [], _, post => exact post.elim
  | _ :: _ :: _, _, post => exact (by simpa [biF, Post] using post : False).elim
  | [.ref n], r0, post =>
    obtain ⟨v, rfl, r⟩ := r0.one_
    simp only [biF] at post
    split at post
    · rename_i ns e
      cases e2 : seqOf S (.ref n) with
      | none => rw [e2] at e; simp at e
      | some ds =>
        rw [e2] at e
        obtain ⟨a, xs, rfl, hq, r⟩ := seqL_rep rs r e2
        rw [bools_rep r e] at hq
        exact ⟨a, ns, rfl, hq, post.ok0 rs (Rep.bl_.mpr rfl)⟩
    · exact post.elim
  | [.non], _, post => exact post.elim
  | [.bl _], _, post => exact post.elim
  | [.int _], _, post => exact post.elim
  | [.str _], _, post => exact post.elim
  | [.tup _], _, post => exact post.elim
theorem call_max' (hc : X.calm = true) : CallR X (.builtin "max") (rBi X.K .max) := by
  refine CallR.mono (CallR.or (cr_max hc) (call_max2 hc)) fun pins s σ vs H Q I h => ?_
  obtain ⟨m, S, ds, rs, rr, post⟩ := h
  match ds, rr, post with
  | [], _, post => exact post.elim
  | _ :: _ :: _ :: _, _, post => exact (by simpa [biF, Post] using post : False).elim
  | [d, e], r0, post =>
    obtain ⟨v, u, rfl, r1, r2⟩ := r0.two_
    cases d <;> cases e <;> first | exact post.elim | skip
    rw [Rep.int_] at r1 r2
    subst r1 r2
    exact .inr ⟨_, _, rfl, post.ok0 rs (Rep.int_.mpr rfl)⟩
  | [.ref n], r0, post =>
    obtain ⟨v, rfl, r⟩ := r0.one_
    simp only [biF] at post
    split at post
    · rename_i z e
      cases e2 : seqOf S (.ref n) with
      | none => rw [e2] at e; simp at e
      | some ds =>
        rw [e2] at e
        simp only [Option.bind_some] at e
        cases e3 : intsOf ds with
        | none => rw [e3] at e; simp at e
        | some ns =>
          rw [e3] at e
          simp only [Option.bind_some] at e
          obtain ⟨a, xs, rfl, hq, r⟩ := seqL_rep rs r e2
          rw [ints_rep r e3] at hq
          cases ns with
          | nil => simp [maxL] at e
          | cons n0 ns =>
            simp only [maxL, Option.some.injEq] at e
            obtain ⟨h1, h2, h3⟩ := maxL_is ns z n0 e
            refine .inl ⟨a, _, rfl, hq, by simp, fun k hk hall => ?_⟩
            have hkz : k = z := by
              have hz : z ≤ k := by
                rcases h1 with h1 | h1
                · exact hall z (by simp [h1])
                · exact hall z (by simp [h1])
              have : k ≤ z := by
                rcases List.mem_cons.mp hk with rfl | hk
                · exact h2
                · exact h3 k hk
              omega
            subst hkz
            exact post.ok0 rs (Rep.int_.mpr rfl)
    · exact post.elim
  | [.non], _, post => exact post.elim
  | [.bl _], _, post => exact post.elim
  | [.int _], _, post => exact post.elim
  | [.str _], _, post => exact post.elim
  | [.tup _], _, post => exact post.elim
theorem call_min' (hc : X.calm = true) : CallR X (.builtin "min") (rBi X.K .min) := by
  refine CallR.mono (CallR.or (cr_min hc) (call_min2 hc)) fun pins s σ vs H Q I h => ?_
  obtain ⟨m, S, ds, rs, rr, post⟩ := h
  match ds, rr, post with
  | [], _, post => exact post.elim
  | _ :: _ :: _ :: _, _, post => exact (by simpa [biF, Post] using post : False).elim
  | [d, e], r0, post =>
    obtain ⟨v, u, rfl, r1, r2⟩ := r0.two_
    cases d <;> cases e <;> first | exact post.elim | skip
    rw [Rep.int_] at r1 r2
    subst r1 r2
    exact .inr ⟨_, _, rfl, post.ok0 rs (Rep.int_.mpr rfl)⟩
  | [.ref n], r0, post =>
    obtain ⟨v, rfl, r⟩ := r0.one_
    simp only [biF] at post
    split at post
    · rename_i z e
      cases e2 : seqOf S (.ref n) with
      | none => rw [e2] at e; simp at e
      | some ds =>
        rw [e2] at e
        simp only [Option.bind_some] at e
        cases e3 : intsOf ds with
        | none => rw [e3] at e; simp at e
        | some ns =>
          rw [e3] at e
          simp only [Option.bind_some] at e
          obtain ⟨a, xs, rfl, hq, r⟩ := seqL_rep rs r e2
          rw [ints_rep r e3] at hq
          cases ns with
          | nil => simp [minL] at e
          | cons n0 ns =>
            simp only [minL, Option.some.injEq] at e
            obtain ⟨h1, h2, h3⟩ := minL_is ns z n0 e
            refine .inl ⟨a, _, rfl, hq, by simp, fun k hk hall => ?_⟩
            have hkz : k = z := by
              have hz : k ≤ z := by
                rcases h1 with h1 | h1
                · exact hall z (by simp [h1])
                · exact hall z (by simp [h1])
              have : z ≤ k := by
                rcases List.mem_cons.mp hk with rfl | hk
                · exact h2
                · exact h3 k hk
              omega
            subst hkz
            exact post.ok0 rs (Rep.int_.mpr rfl)
    · exact post.elim
  | [.non], _, post => exact post.elim
  | [.bl _], _, post => exact post.elim
  | [.int _], _, post => exact post.elim
  | [.str _], _, post => exact post.elim
  | [.tup _], _, post => exact post.elim
end

/-! ### subscripts, slices -/
section
variable {X : Cx}
theorem IxR.mono {r r' : R2} (h : IxR X r) (hh : ∀ x y H Q, r' x y H Q → r x y H Q) : IxR X r' := fun value slice pins s σ H x y v u Q I rx ry q hs => h value slice pins s σ H x y v u Q I rx ry (hh x y H Q q) hs
theorem SlR.mono {r r' : V → Option Int → Option Int → Hp → VK → Prop} (h : SlR X r) (hh : ∀ x l u H Q, r' x l u H Q → r x l u H Q) : SlR X r' := fun pins s σ H x v vl vu lo hi sl Q I rx hs pl pu q => h pins s σ H x v vl vu lo hi sl Q I rx hs pl pu (hh _ _ _ _ _ q)
theorem SlR.or {r r' : V → Option Int → Option Int → Hp → VK → Prop} (h : SlR X r) (h' : SlR X r') : SlR X (fun x l u H Q => r x l u H Q ∨ r' x l u H Q) := fun pins s σ H x v vl vu lo hi sl Q I rx hs pl pu q => by
  rcases q with q | q
  · exact h pins s σ H x v vl vu lo hi sl Q I rx hs pl pu q
  · exact h' pins s σ H x v vl vu lo hi sl Q I rx hs pl pu q
end
section
variable {K : PySem.W.Frag} {m m' : List Addr} {H H' : Hp} {S : Hs}
theorem atI_rep {ds : List D} {vs : List V} (r : Reps K m H ds vs) {i : Int} {d : D} (h : atI ds i = some d) : ∃ v, atI vs i = some v ∧ Rep K m H d v := by
  unfold atI at h ⊢
  rw [← r.len]
  cases e : ixN ds.length i with
  | none => rw [e] at h; simp at h
  | some j =>
    rw [e] at h
    exact r.get h
theorem cut_rep {ds : List D} {vs : List V} (r : Reps K m H ds vs) (lo hi : Option Int) : Reps K m H (cutD ds lo hi) (cutV vs lo hi) := by
  unfold cutD cutV
  rw [← r.len]
  exact Reps.take _ (Reps.drop _ r)
theorem Reps.inj_tup {ds : List D} {vs : List V} (r : Reps K m H ds vs) {lo hi : Option Int} (h : HT.sIx vs.length 0 lo = 0 ∧ HT.sIx vs.length vs.length hi = vs.length) : cutD ds lo hi = ds := by
  unfold cutD
  rw [← r.len] at h
  rw [h.1, h.2]
  simp
end
section
variable {X : Cx}
def rIxD (K : PySem.W.Frag) : R2 := fun x y H Q => ∃ m S a b, RepS K m H S ∧ Rep K m H a x ∧ Rep K m H b y ∧ Post K m H (Rep K) (ixD S a b) Q
theorem ix_D : IxR X (rIxD X.K) := by
  refine IxR.mono (r := rIx X.K) ix_seq fun x y H Q h => ?_
  obtain ⟨m, S, a, b, rs, ra, rb, post⟩ := h
  have gen : ∀ i, b = .int i → Post X.K m H (Rep X.K) (ixS S a i) Q → rIx X.K x y H Q := by
    intro i hb pp
    subst hb
    rw [Rep.int_] at rb
    subst rb
    unfold ixS at pp
    split at pp
    · rename_i ds e
      split at pp
      · rename_i z e2
        obtain ⟨p, xs, rfl, hq, r⟩ := seq_rep rs ra e
        obtain ⟨v, e3, rv⟩ := atI_rep r e2
        rcases hq with hq | hq
        · exact .inl ⟨p, xs, i, v, rfl, rfl, hq, e3, pp.ok0 rs rv⟩
        · exact .inr (.inl ⟨p, xs, i, v, rfl, rfl, hq, e3, pp.ok0 rs rv⟩)
      · exact pp.elim
    · exact pp.elim
  cases b with
  | int i =>
    cases a with
    | str z =>
      rw [Rep.str_] at ra
      rw [Rep.int_] at rb
      subst ra rb
      simp only [ixD] at post
      obtain ⟨hz, post⟩ := post.ite
      split at post
      · rename_i c e
        exact .inr (.inr ⟨z, i, c, rfl, rfl, hz, e, post.ok0 rs (Rep.str_.mpr rfl)⟩)
      · exact post.elim
    | tup ds => exact gen i rfl (by simpa only [ixD] using post)
    | ref n => exact gen i rfl (by simpa only [ixD] using post)
    | non => exact (by simpa [ixD, ixS, seqOf, Post] using post : False).elim
    | bl => exact (by simpa [ixD, ixS, seqOf, Post] using post : False).elim
    | int => exact (by simpa [ixD, ixS, seqOf, Post] using post : False).elim
  | _ => exact (by cases a <;> exact post : False).elim
def rSlD (K : PySem.W.Frag) : V → Option Int → Option Int → Hp → VK → Prop := fun x lo hi H Q => ∃ m S a, RepS K m H S ∧ Rep K m H a x ∧ Post K m H (Rep K) (slD S a lo hi) Q
theorem sl_D : SlR X (rSlD X.K) := by
  refine SlR.mono (SlR.or sl_list (SlR.or sl_tupA sl_str)) fun x lo hi H Q h => ?_
  obtain ⟨m, S, a, rs, ra, post⟩ := h
  cases a with
  | str z =>
    rw [Rep.str_] at ra
    subst ra
    simp only [slD] at post
    obtain ⟨hz, post⟩ := post.ite
    exact .inr (.inr ⟨z, rfl, hz, post.ok0 rs (Rep.str_.mpr rfl)⟩)
  | tup ds =>
    have ra' := ra
    rw [Rep.tup_] at ra
    obtain ⟨p, xs, rfl, t, r⟩ := ra
    simp only [slD] at post
    refine .inr (.inl ⟨p, xs, rfl, t.sq, fun hh => ?_, fun _ q hq => post.tupNew rs (cut_rep r lo hi) hq⟩)
    rw [r.inj_tup hh] at post
    exact post.ok0 rs ra'
  | ref n =>
    simp only [slD] at post
    split at post
    · rename_i ds e
      obtain ⟨p, xs, rfl, hq, r⟩ := seqL_rep rs ra e
      exact .inl ⟨p, xs, rfl, hq, fun q hq => post.lstNew rs (cut_rep r lo hi) hq⟩
    · exact post.elim
  | _ => exact (by simpa [slD, seqOf, Post] using post : False).elim
end

/-! ### methods of lists -/
section
variable {K : PySem.W.Frag} {m m' : List Addr} {H H' : Hp} {S : Hs} {X : Cx}
def rMt (K : PySem.W.Frag) (t : Mt) : V → List V → Hp → VK → Prop := fun x vs H Q => ∃ m S a ds, RepS K m H S ∧ Rep K m H a x ∧ Reps K m H ds vs ∧ Post K m H (Rep K) (mtF S t a ds) Q
theorem MtR.mono {id : String} {r r' : V → List V → Hp → VK → Prop} (h : MtR X id r) (hh : ∀ x vs H Q, r' x vs H Q → r x vs H Q) : MtR X id r' := fun pins s σ H x vs v us Q I rx rs q => h pins s σ H x vs v us Q I rx rs (hh _ _ _ _ q)
theorem MtR.or {id : String} {r r' : V → List V → Hp → VK → Prop} (h : MtR X id r) (h' : MtR X id r') : MtR X id (fun x vs H Q => r x vs H Q ∨ r' x vs H Q) := fun pins s σ H x vs v us Q I rx rs q => by
  rcases q with q | q
  · exact h pins s σ H x vs v us Q I rx rs q
  · exact h' pins s σ H x vs v us Q I rx rs q
theorem lstAt_rep (rs : RepS K m H S) {n : Nat} {v : V} {xs : List D} (r : Rep K m H (.ref n) v) (h : lstAt S n = some xs) : ∃ a vs, v = .ref a ∧ m[n]? = some a ∧ H a = some (.lst vs) ∧ Reps K m H xs vs := by
  rw [Rep.ref_] at r
  obtain ⟨a, e, rfl⟩ := r
  obtain ⟨b, vs, q1, q2, q3⟩ := rs.lst (lstAt_some h)
  rw [e] at q1
  cases q1
  exact ⟨a, vs, rfl, e, q2, q3⟩
theorem mt_append' : MtR X "list.append" (rMt X.K .append) := by
  refine MtR.mono mt_append fun x vs H Q h => ?_
  obtain ⟨m, S, a, ds, rs, ra, rr, post⟩ := h
  cases a with
  | ref n =>
    match ds, rr, post with
    | [], _, post => exact post.elim
    | _ :: _ :: _, _, post => exact (by simpa [mtF, Post] using post : False).elim
    | [d], r0, post =>
      obtain ⟨v, rfl, r⟩ := r0.one_
      simp only [mtF] at post
      split at post
      · rename_i xs e
        obtain ⟨hz, post⟩ := post.ite
        obtain ⟨p, ws, rfl, e2, e3, e4⟩ := lstAt_rep rs ra e
        exact ⟨p, ws, v, rfl, rfl, e3, by rw [← e4.len]; exact hz, post.lstSet rs e2 (e4.append (Reps.one r)) (Rep.non_.mpr rfl)⟩
      · exact post.elim
  | _ => exact (by simpa [mtF, Post] using post : False).elim
theorem mt_insert' : MtR X "list.insert" (rMt X.K .insert) := by
  refine MtR.mono mt_insert fun x vs H Q h => ?_
  obtain ⟨m, S, a, ds, rs, ra, rr, post⟩ := h
  cases a with
  | ref n =>
    match ds, rr, post with
    | [], _, post => exact post.elim
    | [_], _, post => exact (by simpa [mtF, Post] using post : False).elim
    | _ :: _ :: _ :: _, _, post => exact (by simpa [mtF, Post] using post : False).elim
    | [i, d], r0, post =>
      obtain ⟨u, v, rfl, r1, r2⟩ := r0.two_
      cases i with
      | int i =>
        rw [Rep.int_] at r1
        subst r1
        simp only [mtF] at post
        split at post
        · rename_i xs e
          obtain ⟨⟨hz, h0, h1⟩, post⟩ := post.ite
          obtain ⟨p, ws, rfl, e2, e3, e4⟩ := lstAt_rep rs ra e
          exact ⟨p, ws, i, v, rfl, rfl, e3, by rw [← e4.len]; exact hz, h0, h1, post.lstSet rs e2 (((Reps.take _ e4).append (Reps.one r2)).append (Reps.drop _ e4)) (Rep.non_.mpr rfl)⟩
        · exact post.elim
      | _ => exact (by simpa [mtF, Post] using post : False).elim
  | _ => exact (by simpa [mtF, Post] using post : False).elim
theorem mt_pop' : MtR X "list.pop" (rMt X.K .pop) := by
  refine MtR.mono (MtR.or mt_pop mt_popAt) fun x vs H Q h => ?_
  obtain ⟨m, S, a, ds, rs, ra, rr, post⟩ := h
  cases a with
  | ref n =>
    match ds, rr, post with
    | [], r0, post =>
      rw [Reps.nil_] at r0
      subst r0
      simp only [mtF] at post
      split at post
      · rename_i xs e
        obtain ⟨p, ws, rfl, e2, e3, e4⟩ := lstAt_rep rs ra e
        split at post
        · rename_i y e5
          rw [e4.len] at e5
          obtain ⟨v, e6, rv⟩ := e4.get e5
          exact .inl ⟨p, ws, v, rfl, rfl, e3, e6, post.lstSet rs e2 e4.dropLast (Rep.ext (Ext.set rs e2) y rv)⟩
        · exact post.elim
      · exact post.elim
    | _ :: _ :: _, _, post => exact (by simpa [mtF, Post] using post : False).elim
    | [i], r0, post =>
      obtain ⟨v, rfl, r⟩ := r0.one_
      cases i with
      | int i =>
        rw [Rep.int_] at r
        subst r
        simp only [mtF] at post
        obtain ⟨⟨h0, h1⟩, post⟩ := post.ite
        split at post
        · rename_i xs e
          obtain ⟨p, ws, rfl, e2, e3, e4⟩ := lstAt_rep rs ra e
          split at post
          · rename_i k ek
            split at post
            · rename_i y e5
              obtain ⟨v, e6, rv⟩ := e4.get e5
              obtain ⟨q1, _⟩ := ixN_seq ek
              exact .inr ⟨p, ws, i, k, v, rfl, rfl, e3, h0, h1, by rw [← e4.len]; exact q1, e6, post.lstSet rs e2 (Reps.erase k e4) (Rep.ext (Ext.set rs e2) y rv)⟩
            · exact post.elim
          · exact post.elim
        · exact post.elim
      | _ => exact (by simpa [mtF, Post] using post : False).elim
  | _ => exact (by simpa [mtF, Post] using post : False).elim
theorem mt_extend' : MtR X "list.extend" (rMt X.K .extend) := by
  refine MtR.mono mt_extend fun x vs H Q h => ?_
  obtain ⟨m, S, a, ds, rs, ra, rr, post⟩ := h
  cases a with
  | ref n =>
    match ds, rr, post with
    | [], _, post => exact post.elim
    | _ :: _ :: _, _, post => exact (by simpa [mtF, Post] using post : False).elim
    | [d], r0, post =>
      obtain ⟨v, rfl, r⟩ := r0.one_
      cases d with
      | ref b =>
        simp only [mtF] at post
        split at post
        · rename_i xs ys e f
          obtain ⟨hz, post⟩ := post.lim
          obtain ⟨p, ws, rfl, e2, e3, e4⟩ := lstAt_rep rs ra e
          obtain ⟨p', ws', rfl, f2, f3, f4⟩ := lstAt_rep rs r f
          exact ⟨p, p', ws, ws', rfl, rfl, e3, f3, by rw [← e4.len, ← f4.len]; exact hz, post.lstSet rs e2 (e4.append f4) (Rep.non_.mpr rfl)⟩
        · exact post.elim
      | _ => exact (by simpa [mtF, Post] using post : False).elim
  | _ => exact (by simpa [mtF, Post] using post : False).elim
theorem mt_join' : MtR X "str.join" (rMt X.K .join) := by
  refine MtR.mono mt_join fun x vs H Q h => ?_
  obtain ⟨m, S, a, ds, rs, ra, rr, post⟩ := h
  cases a with
  | str z =>
    rw [Rep.str_] at ra
    subst ra
    match ds, rr, post with
    | [], _, post => exact post.elim
    | _ :: _ :: _, _, post => exact (by simpa [mtF, Post] using post : False).elim
    | [d], r0, post =>
      obtain ⟨v, rfl, r⟩ := r0.one_
      simp only [mtF] at post
      split at post
      · rename_i ys e
        cases e2 : seqOf S d with
        | none => rw [e2] at e; simp at e
        | some ds =>
          rw [e2] at e
          simp only [Option.bind_some] at e
          obtain ⟨p, xs, rfl, hq, r⟩ := seq_rep rs r e2
          rw [strs_rep r e] at hq
          obtain ⟨hz, post⟩ := post.ite
          exact ⟨z, p, ys, rfl, rfl, hq, hz, post.ok0 rs (Rep.str_.mpr rfl)⟩
      · exact post.elim
  | _ => exact (by simpa [mtF, Post] using post : False).elim
end
/-- o[i] = v -/
theorem set_D {X : Cx} : PSet X (fun o i v H Q => ∃ m S a b d, RepS X.K m H S ∧ Rep X.K m H a o ∧ Rep X.K m H b i ∧ Rep X.K m H d v ∧ Post X.K m H (fun _ _ (_ : Unit) (_ : Unit) => True) (setIx S a b d) (fun _ H' => Q H')) := by
  intro pins s σ H o i v ov iv u Q I ro ri rv h
  obtain ⟨m, S, a, b, d, rs, ra, rb, rd, post⟩ := h
  cases a with
  | ref n =>
    cases b with
    | int k =>
      rw [Rep.int_] at rb
      subst rb
      simp only [setIx] at post
      split at post
      · rename_i xs e
        obtain ⟨p, ws, rfl, e2, e3, e4⟩ := lstAt_rep rs ra e
        split at post
        · rename_i j ej
          exact set_list pins s σ H _ _ v ov iv u Q I ro ri rv ⟨p, ws, k, j, rfl, rfl, e3, by rw [← e4.len]; exact ej, post.lstSet (b := ()) rs e2 (Reps.set rd j e4) trivial⟩
        · exact post.elim
      · exact post.elim
    | _ => exact (by simpa [setIx, Post] using post : False).elim
  | _ => exact (by simpa [setIx, Post] using post : False).elim
end RS

namespace RS
open PySem PySem.Spec L2
/-! ### from the text to the language: a total function; None where something is not carried -/
structure Tab where
  fns : List Str
  cons : List Str
structure Cc where
  T : Tab
  N : List Str
  sc : Scope
  wr : List Str
def ixOf (x : Str) : List Str → Nat → Option Nat
  | [], _ => none
  | y :: ys, i => if y = x then some i else ixOf x ys (i + 1)
def visB (sc : Scope) (x : Str) : Bool := match sc.names.lookup x with
  | some .local => true
  | some .cell => true
  | some .free => true
  | _ => false
def locB (sc : Scope) (x : Str) : Bool := match sc.names.lookup x with
  | some .local => true
  | some .cell => true
  | _ => false
def glB (sc : Scope) (x : Str) : Bool := match sc.names.lookup x with
  | some .globalImplicit => true
  | _ => false
def nameOk (x : Str) : Bool := !(x == ("__debug__" : Str)) && !(x == ("__classdict__" : Str)) && !(x == ("__name__" : Str))
def bopOf : Operator → Option Bop
  | .Add => some .add | .Sub => some .sub | .Mult => some .mul | .FloorDiv => some .fdv | .Mod => some .mod | .Pow => some .pow
  | _ => none
def copOf : CmpOp → Option Cop
  | .Lt => some .lt | .LtE => some .le | .Gt => some .gt | .GtE => some .ge | .Eq => some .eq | .NotEq => some .ne | .In => some .mem | .NotIn => some .nmem
  | _ => none
def notStar : Expr → Bool
  | .Starred _ _ => false
  | _ => true
def notComp : Expr → Bool
  | .ListComp _ _ _ _ => false
  | .SetComp _ _ _ _ => false
  | .DictComp _ _ _ _ _ => false
  | _ => true
def notSet : Expr → Bool
  | .Set _ _ _ => false
  | _ => true
def notSlice : Expr → Bool
  | .Slice _ _ _ _ => false
  | _ => true
/-- a base of an attribute that is no call of a bare name without arguments -/
def plainBase : Expr → Bool
  | .Call _ [] _ _ => false
  | _ => true
/-- a test of the plain kind -/
def plainTest : Expr → Bool
  | .UnaryOp .Not _ _ => false
  | .BoolOp _ _ _ => false
  | .IfExp _ _ _ _ => false
  | .Compare _ _ _ _ => false
  | _ => true
def biOf (x : Str) : Option Bi :=
  if x = ("len" : Str) then some .len else if x = ("int" : Str) then some .int else if x = ("list" : Str) then some .list else if x = ("tuple" : Str) then some .tuple else
  if x = ("sum" : Str) then some .sum else if x = ("all" : Str) then some .all else if x = ("any" : Str) then some .any else if x = ("max" : Str) then some .max else if x = ("min" : Str) then some .min else none
def tyOf (x : Str) : Option Ty :=
  if x = ("int" : Str) then some .int else if x = ("bool" : Str) then some .bool else if x = ("str" : Str) then some .str else if x = ("tuple" : Str) then some .tuple else
  if x = ("list" : Str) then some .list else if x = ("dict" : Str) then some .dict else none
def mtOf (x : Str) : Option Mt :=
  if x = ("append" : Str) then some .append else if x = ("insert" : Str) then some .insert else if x = ("pop" : Str) then some .pop else if x = ("extend" : Str) then some .extend else if x = ("join" : Str) then some .join else none
/-- a built-in's name, free at the module -/
def bltB (c : Cc) (x : Str) : Bool := glB c.sc x && !(c.T.fns.contains x) && !(c.T.cons.contains x)
def tyName (c : Cc) : Expr → Option Ty
  | .Name x _ => if bltB c x then tyOf x else none
  | _ => none
def tyNames (c : Cc) : List Expr → Option (List Ty)
  | [] => some []
  | e :: es => match tyName c e, tyNames c es with
    | some t, some ts => some (t :: ts)
    | _, _ => none
/-- the classes of isinstance's second argument -/
def tyArg (c : Cc) : Expr → Option (List Ty)
  | .Tuple ts _ _ => tyNames c ts
  | t => (tyName c t).map fun t => [t]
/-- the one argument range(..) -/
def isRange (c : Cc) : List Expr → Bool
  | [.Call (.Name x _) _ [] _] => decide (x = ("range" : Str)) && bltB c x
  | _ => false
def isSet (c : Cc) : List Expr → Bool
  | [.Call (.Name x _) _ [] _] => decide (x = ("set" : Str)) && bltB c x
  | _ => false
/-- the slots of a target -/
def slotsG : E → List Nat
  | .var i => [i]
  | .tup es => slotsG es
  | .cons a b => slotsG a ++ slotsG b
  | _ => []
def onlyNames : E → Bool
  | .var _ => true
  | .tup es => onlyNames es
  | .cons a b => onlyNames a && onlyNames b
  | .nil => true
  | _ => false
def isTupE : Expr → Bool
  | .Tuple _ _ _ => true
  | _ => false
/-- a comprehension's own names, by their slots -/
def ownOf (N : List Str) (scope : Scope) : List (Str × Nat) := scope.names.filterMap fun (x, k) => match k with
  | .local => (ixOf x N 0).map fun i => (x, i)
  | .cell => (ixOf x N 0).map fun i => (x, i)
  | _ => none
def ownNames (scope : Scope) : List Str := scope.names.filterMap fun (x, k) => match k with
  | .local => some x
  | .cell => some x
  | _ => none
/-- zip(a, b, strict=..) -/
def kwStrict : List Keyword → Option Bool
  | [] => some false
  | [⟨some k, .Constant (.bool b) _ _, _⟩] => if k = ("strict" : Str) then some b else none
  | _ => none
mutual
def compE : Nat → Cc → Expr → Option E
  | 0, _, _ => none
  | n + 1, c, .Name x _ => if nameOk x then (match ixOf x c.N 0 with
      | some i => if visB c.sc x then some (.var i) else none
      | none => if glB c.sc x then (ixOf x c.T.cons 0).map .glb else none) else none
  | n + 1, c, .Constant k _ _ => match k with
    | .none => some .non
    | .bool b => some (.bl b)
    | .int i => some (.int i)
    | .str x => some (.str x)
    | _ => none
  | n + 1, c, .Tuple es _ _ => (compL n c es).map .tup
  | n + 1, c, .List es _ => (compL n c es).map .lst
  | n + 1, c, .BinOp a o b _ => match bopOf o, compE n c a, compE n c b with
    | some o, some a, some b => some (.bin o a b)
    | _, _, _ => none
  | n + 1, c, .UnaryOp o a _ => match o, compE n c a with
    | .USub, some a => some (.neg a)
    | .Not, some a => some (.nt a)
    | _, _ => none
  | n + 1, c, .Compare a [o] [b] _ => match o, b with
    | .Is, .Constant .none _ _ => (compE n c a).map .isN
    | .IsNot, .Constant .none _ _ => (compE n c a).map .nsN
    | o, b => match copOf o, compE n c a, compE n c b with
      | some o', some a, some b' => if behindInMarks o b then none else some (.cmp o' a b')
      | _, _, _ => none
  | n + 1, c, .Compare a [o, p] [b, d] _ => match copOf o, copOf p, compE n c a, compE n c b, compE n c d with
    | some o', some p', some a, some b', some d' => if lastMarks [o, p] [b, d] then none else some (.chn o' p' a b' d')
    | _, _, _, _, _ => none
  | n + 1, c, .BoolOp _ [a] _ => compE n c a
  | n + 1, c, .BoolOp o (a :: b :: es) pos => match compE n c a, compE n c (.BoolOp o (b :: es) pos) with
    | some a, some b => some (match o with | .And => .and a b | .Or => .or a b)
    | _, _ => none
  | n + 1, c, .IfExp t a b _ => match compE n c t, compE n c a, compE n c b with
    | some t, some a, some b => some (.ife t a b)
    | _, _, _ => none
  | n + 1, c, .Call (.Name x _) es [] _ => if nameOk x && glB c.sc x then (match ixOf x c.T.fns 0 with
      | some f => (compL n c es).map (.cal f)
      | none => if c.T.cons.contains x then none else if x = ("list" : Str) ∧ isRange c es = true then (match es with
          | [.Call (.Name _ _) [a] [] _] => (compL n c [a]).map .lrg
          | [.Call (.Name _ _) [a, b] [] _] => (compL n c [a, b]).map .lrg
          | _ => none)
        else if x = ("sorted" : Str) ∧ isSet c es = true then (match es with
          | [.Call (.Name _ _) [a] [] _] => (compL n c [a]).map (.bi .sortedSet)
          | _ => none)
        else if x = ("isinstance" : Str) then (match es with
          | [a, t] => match compE n c a, tyArg c t with
            | some a, some ts => if ts.isEmpty || decide (1000 < ts.length) then none else some (.isi ts a)
            | _, _ => none
          | _ => none)
        else match biOf x, es with
          | some b, [_] => (compL n c es).map (.bi b)
          | some .max, [_, _] => (compL n c es).map (.bi .max)
          | some .min, [_, _] => (compL n c es).map (.bi .min)
          | _, _ => none) else none
  | n + 1, c, .Call (.Attribute o m apos) es [] pos => if plainBase o && decide ((apos.endLine == pos.line) = true) then (if m = ("split" : Str) then (match es with
      | [_] => (match compE n c o, compL n c es with
        | some o, some es' => some (.bi .split (.cons o es'))
        | _, _ => none)
      | _ => none) else match mtOf m, compE n c o, compL n c es with
      | some .pop, some o, some es' => (match es with
        | [] => some (.mth .pop o es')
        | [_] => some (.mth .pop o es')
        | _ => none)
      | some .insert, some o, some es' => (match es with
        | [_, _] => some (.mth .insert o es')
        | _ => none)
      | some m, some o, some es' => (match es with
        | [_] => some (.mth m o es')
        | _ => none)
      | _, _, _ => none) else none
  | n + 1, c, .Subscript a (.Slice lo hi none _) _ => match compE n c a, compO n c lo, compO n c hi with
    | some a, some lo, some hi => some (.sl a lo hi)
    | _, _, _ => none
  | n + 1, c, .Subscript a (.Slice none none (some (.UnaryOp .USub (.Constant (.int 1) _ _) _)) _) _ => (compE n c a).map .rvs
  | n + 1, c, .Subscript a i _ => if notSlice i then (match compE n c a, compE n c i with
      | some a, some i => some (.ix a i)
      | _, _ => none) else none
  | n + 1, c, .ListComp e [⟨tg, it, ifs, asy⟩] scope _ =>
    if decide (asy = 0) && notSet it && blkC c.N c.sc scope (ownOf c.N scope) then
      match compI n c tg it, compG n { c with sc := relS scope c.sc, wr := ownNames scope } tg, compT n { c with sc := relS scope c.sc, wr := ownNames scope } ifs, compE n { c with sc := relS scope c.sc, wr := ownNames scope } e with
      | some it, some tg, some k, some e => if onlyNames tg && (slotsG tg).all (((ownOf c.N scope).map (·.2)).contains ·) then some (.lc ((ownOf c.N scope).map (·.2)) e tg it k) else none
      | _, _, _, _ => none
    else none
  | _, _, _ => none
/-- arguments -/
def compL : Nat → Cc → List Expr → Option E
  | 0, _, _ => none
  | n + 1, c, [] => some .nil
  | n + 1, c, e :: es => if notStar e then (match compE n c e, compL n c es with
      | some a, some b => some (.cons a b)
      | _, _ => none) else none
/-- a slice's end -/
def compO : Nat → Cc → Option Expr → Option E
  | 0, _, _ => none
  | n + 1, c, none => some .nil
  | n + 1, c, some e => (compE n c e).map fun a => .cons a .nil
/-- a comprehension's tests -/
def compT : Nat → Cc → List Expr → Option E
  | 0, _, _ => none
  | n + 1, c, [] => some (.bl true)
  | n + 1, c, [e] => compE n c e
  | _, _, _ => none
/-- a target -/
def compG : Nat → Cc → Expr → Option E
  | 0, _, _ => none
  | n + 1, c, .Name x _ => if c.wr.contains x then (ixOf x c.N 0).map .var else none
  | n + 1, c, .Tuple es _ _ => (compGs n c es).map .tup
  | n + 1, c, .Subscript a i _ => if notSlice i then (match compE n c a, compE n c i with
      | some a, some i => some (.ix a i)
      | _, _ => none) else none
  | _, _, _ => none
def compGs : Nat → Cc → List Expr → Option E
  | 0, _, _ => none
  | n + 1, c, [] => some .nil
  | n + 1, c, e :: es => if notStar e then (match compG n c e, compGs n c es with
      | some a, some b => some (.cons a b)
      | _, _ => none) else none
/-- what is walked, for a target -/
def compI : Nat → Cc → Expr → Expr → Option E
  | 0, _, _, _ => none
  | n + 1, c, tg, .Call (.Name x p) es ks pos =>
    if bltB c x && nameOk x && decide (x = ("range" : Str)) then (match es, ks with
      | [a], [] => (compL n c [a]).map .rng
      | [a, b], [] => (compL n c [a, b]).map .rng
      | [a, b, d], [] => (compL n c [a, b, d]).map .rng
      | _, _ => none)
    else if bltB c x && nameOk x && decide (x = ("enumerate" : Str)) && isTupE tg then (match es, ks with
      | [a], [] => (compL n c [a]).map .enm
      | _, _ => none)
    else if bltB c x && nameOk x && decide (x = ("zip" : Str)) && isTupE tg then (match es, ks with
      | [a, b], [] => (compL n c [a, b]).map (.zip false)
      | _, _ => none)
    else (compE n c (.Call (.Name x p) es ks pos)).map fun e => .cons e .nil
  | n + 1, c, tg, e => (compE n c e).map fun e => .cons e .nil
end
def starAny (vs : List Expr) : Bool := vs.any fun e => match e with | .Starred .. => true | _ => false
def swNames (sc : Scope) (ts : List Expr) : List Str := ts.filterMap fun e => match e with
    | .Name id pos => if (sc.names.lookup id == some .local && pos.line == (ts.head?.map (·.pos.line)).getD 0) = true then some id else none
    | _ => none
/-- the swapped stores of a pair or a triple of names; the outer None where the model does not tell -/
def swN (sc : Scope) (ts vs : List Expr) : Option (Option (List Str)) :=
  if (!(ts.length == 2 || ts.length == 3) || vs.length != ts.length) = true then some none else
  if starAny vs = true then some none else
  if ((swNames sc ts).length != ts.length || (swNames sc ts).eraseDups.length != (swNames sc ts).length) = true then some none else
  if vs.all (foldedForSure 8) = true then some none else
  if vs.all (constantsAlone 8) = true then none else some (some (swNames sc ts))
def isTup (e : Expr) : Bool := match e with
  | .Tuple _ _ _ => true
  | _ => false
def isLst (e : Expr) : Bool := match e with
  | .List _ _ => true
  | _ => false
/-- does a comprehension stored at once swap -/
def swB (sc : Scope) (y : Str) (py : Pos) (scope : Scope) (pos : Pos) : Bool :=
  sc.names.lookup y == some .local && py.line == pos.line && !(scope.names.any fun (n, k) => n == y && (k == .local || k == .cell))
def kindF (sc : Scope) : Bool := match sc.kind with
  | .function => true
  | _ => false
/-- one target's store -/
def compA (n : Nat) (c : Cc) (tg e : Expr) : Option C := match tg, e with
  | .Name y py, .ListComp e gs scope p => if kindF c.sc && c.wr.contains y then
      match ixOf y c.N 0, compE n c (.ListComp e gs scope p) with
      | some i, some e => some (.asg (.var i) e)
      | _, _ => none
    else none
  | .Tuple ts k p, .Tuple vs k2 p2 => if kindF c.sc then
      match compG n c (.Tuple ts k p), compE n c (.Tuple vs k2 p2), swN c.sc ts vs with
      | some g, some e, some none => some (.asg g e)
      | some g, some e, some (some ns) => (match ts, vs, ns with
        | [.Name x _, .Name y _], [_, _], [x', y'] => if decide (x = x') && decide (y = y') && decide (x ≠ y) && decide (c.sc.names.lookup x = some .local) && decide (c.sc.names.lookup y = some .local) then some (.asg g e) else none
        | [.Name x _, .Name y _, .Name z _], [_, _, _], [x', y', z'] => if decide (x = x') && decide (y = y') && decide (z = z') && decide (x ≠ y) && decide (x ≠ z) && decide (y ≠ z) && decide (c.sc.names.lookup x = some .local) && decide (c.sc.names.lookup y = some .local) && decide (c.sc.names.lookup z = some .local) then some (.asg g e) else none
        | _, _, _ => none)
      | _, _, _ => none
    else none
  | tg, e => if notComp e && notStar tg && !(isTup tg && isTup e) && !(isLst tg) then
      match compG n c tg, compE n c e with
      | some g, some e => some (.asg g e)
      | _, _ => none
    else none
mutual
def compS : Nat → Cc → Stmt → Option C
  | 0, _, _ => none
  | n + 1, c, .Assign tgs e _ => match tgs with
    | [tg] => compA n c tg e
    | _ => none
  | n + 1, c, .AugAssign (.Name x _) o e _ => if c.wr.contains x then
      match ixOf x c.N 0, o, compE n c e with
      | some i, .Add, some e => some (.aug i .add e)
      | some i, .Sub, some e => some (.aug i .sub e)
      | _, _, _ => none
    else none
  | n + 1, c, .Expr e _ => if notComp e then (compE n c e).map .exp else none
  | n + 1, c, .Return (some e) _ => (compE n c e).map .ret
  | n + 1, c, .Return none _ => some .retN
  | n + 1, c, .Pass _ => some .pas
  | n + 1, c, .Raise _ _ _ => some (.exp .nil)
  | n + 1, c, .Break _ => some .brk
  | n + 1, c, .Continue _ => some .cnt
  | n + 1, c, .If t a b _ => match compE n c t, compB n c a, compB n c b with
    | some t, some a, some b => some (.ife t a b)
    | _, _, _ => none
  | n + 1, c, .For tg it b [] _ => if notSet it then
      match compG n c tg, compI n c tg it, compB n c b with
      | some g, some it, some b => some (.for_ g it b)
      | _, _, _ => none
    else none
  | n + 1, c, .While t b [] _ => match compE n c t, compB n c b with
    | some t, some b => some (.whl t b)
    | _, _ => none
  | _, _, _ => none
def compB : Nat → Cc → List Stmt → Option C
  | 0, _, _ => none
  | n + 1, c, [] => some .nil
  | n + 1, c, s :: ss => match compS n c s, compB n c ss with
    | some a, some b => some (.cons a b)
    | _, _ => none
end
/-- a def: its names by slot (the parameters first), its parameters -/
def scopeB (N P : List Str) (sc : Scope) : Bool :=
  kindF sc && !sc.isCoroutine && !sc.isGenerator && decide N.Nodup && decide (N.take P.length = P) && (P.all fun x => match sc.names.lookup x with | some .local => true | some .cell => true | _ => false) && (sc.names.all fun y => match y.2 with | .free => false | _ => true)
def compF (n : Nat) (T : Tab) (N P : List Str) (sc : Scope) (body : List Stmt) : Option Fn :=
  if scopeB N P sc then (compB n { T := T, N := N, sc := sc, wr := N.filter fun x => locB sc x } body).map fun b => ⟨P.length, N.length, b⟩ else none
end RS

namespace RS
open PySem PySem.Spec L2

/-! ### facts of the syntax -/
theorem ixOf_get : ∀ {x : Str} {l : List Str} {i j : Nat}, ixOf x l i = some j → i ≤ j ∧ l[j - i]? = some x
  | x, [], i, j, h => by simp [ixOf] at h
  | x, y :: ys, i, j, h => by
    simp only [ixOf] at h
    split at h
    · rename_i e
      cases h
      subst e
      simp
    · obtain ⟨h1, h2⟩ := ixOf_get h
      refine ⟨by omega, ?_⟩
      have : j - i = (j - (i + 1)) + 1 := by omega
      rw [this]
      simpa using h2
theorem ixOf_get0 {x : Str} {l : List Str} {j : Nat} (h : ixOf x l 0 = some j) : l[j]? = some x := by
  have := (ixOf_get h).2
  simpa using this
theorem nameOk_d {x : Str} (h : nameOk x = true) : (x == ("__debug__" : Str)) = false ∧ (x == ("__classdict__" : Str)) = false ∧ x ≠ "__name__" := by
  unfold nameOk at h
  simp only [Bool.and_eq_true, Bool.not_eq_true'] at h
  exact ⟨h.1.1, h.1.2, fun e => by subst e; simp at h⟩
theorem visB_vis {sc : Scope} {x : Str} (h : visB sc x = true) : Vis sc x := by
  unfold visB at h
  split at h
  · exact .inl (by assumption)
  · exact .inr (.inl (by assumption))
  · exact .inr (.inr (by assumption))
  · cases h
theorem glB_gl {X : Cx} {x : Str} (h : glB X.env.scope x = true) : Gl X x := by
  unfold glB at h
  split at h
  · assumption
  · cases h
theorem star_cons {e : Expr} {es : List Expr} {env : PySem.Env} (h : notStar e = true) : starEach (e :: es) env = (false, eval e env) :: starEach es env := by
  cases e <;> first | rfl | (simp [notStar] at h)
/-- no star in a list that is carried -/
def noStars (es : List Expr) : Prop := ∀ e ∈ es, notStar e = true
theorem star_any {pos : Pos} {env : PySem.Env} : ∀ {es : List Expr}, noStars es → (backTo pos (starEach es env)).any (·.1) = false
  | [], _ => rfl
  | e :: es, h => by
    rw [star_cons (h e List.mem_cons_self)]
    have ih := star_any (pos := pos) (env := env) (es := es) fun e he => h e (List.mem_cons_of_mem _ he)
    unfold backTo at ih ⊢
    simpa using ih
theorem star_all {pos : Pos} {env : PySem.Env} : ∀ {es : List Expr}, noStars es → (backTo pos (starEach es env)).all (fun x => !x.1) = true
  | [], _ => rfl
  | e :: es, h => by
    rw [star_cons (h e List.mem_cons_self)]
    have ih := star_all (pos := pos) (env := env) (es := es) fun e he => h e (List.mem_cons_of_mem _ he)
    unfold backTo at ih ⊢
    simpa using ih
theorem plain_base {o : Expr} {m : Str} {env : PySem.Env} {w : Sem Value} (h : plainBase o = true) : attributeBase o m env w = w := by
  unfold attributeBase
  cases o <;> first | rfl | skip
  rename_i f args kws pos
  cases args with
  | nil => simp [plainBase] at h
  | cons a as => cases f <;> rfl
theorem plain_test {e : Expr} {env : PySem.Env} (h : plainTest e = true) (whole : Sem Value) : isTrue e env whole = (do let v ← whole; standAt e.pos; holding [v] (truthy v)) := by
  cases e <;> first | rfl | (simp [plainTest] at h) | skip
  rename_i o x p
  cases o <;> first | rfl | (simp [plainTest] at h)
theorem not_slice {b : Expr} (h : notSlice b = true) : PlainIx b := fun o i => by
  cases b <;> first | rfl | (simp [notSlice] at h)
theorem not_comp {e : Expr} {t : Option Expr} {l : Nat} {env : PySem.Env} (h : notComp e = true) : swapsWith e t l env = pure false := by
  cases e <;> first | rfl | (simp [notComp] at h)
theorem not_set {e : Expr} {env : PySem.Env} (h : notSet e = true) (x : Value) : foldedSetIterable e env x = pure x := by
  cases e <;> first | rfl | (simp [notSet] at h)

/-! ### what holds where a body runs -/
def bltNames : List Str := ["len", "int", "list", "tuple", "sum", "all", "any", "max", "min", "range", "enumerate", "zip", "isinstance", "sorted", "set", "repr", "dict", "bool", "str"]
def spD (K : PySem.W.Frag) (np : Nat) (F : List D → Hs → R D) : Sp := fun vs H Q _ => vs.length = np ∧ ∃ ds S m, RepS K m H S ∧ Reps K m H ds vs ∧ Post K m H (Rep K) (F ds S) Q
structure Good (X : Cx) (T : Tab) (Φ : Nat → List D → Hs → R D) (G : Nat → D) (k : Nat) : Prop where
  calm : X.calm = true
  nd : X.N.Nodup
  room : Room k X.A
  po : PassesOwn (model X.prog X.w) X.A X.env X.xe
  fns : ∀ f x, T.fns[f]? = some x → ∃ a fd ps, X.mg x = some (.ref a) ∧ PySem.W.keepIn X.K (.ref a) = true ∧ Binds X.K fd ps [] ∧ (∀ ds S, Φ f ds S = .no ∨ ds.length = ps.length) ∧ FnOk X.prog X.w X.K X.mg X.base CX0 k a fd ps (spD X.K ps.length (Φ f))
  blt : ∀ x ∈ bltNames, T.fns.contains x = false → T.cons.contains x = false → X.mg x = none
  con : ∀ g x, T.cons[g]? = some x → ∃ u v, X.mg x = some u ∧ RelV v u ∧ ∀ m H, Rep X.K m H (G g) v
structure GC (X : Cx) (c : Cc) : Prop where
  N : X.N = c.N
  sc : X.env.scope = c.sc
  wr : ∀ x, c.wr.contains x = true → Loc X.env.scope x ∧ (X.fn x = true ∨ X.env.scope.names.lookup x = some .local)

variable {Φ : Nat → List D → Hs → R D} {G : Nat → D} {k : Nat}
abbrev mD (Φ : Nat → List D → Hs → R D) (G : Nat → D) (X : Cx) (ir : E) : TE := tD X.K (den Φ G ir)
abbrev mT (Φ : Nat → List D → Hs → R D) (G : Nat → D) (X : Cx) (ir : E) : TT := tDT X.K (den Φ G ir)
abbrev mL (Φ : Nat → List D → Hs → R D) (G : Nat → D) (X : Cx) (ir : E) : TA := tDL X.K (denL Φ G ir)
section
variable {X : Cx} {a b d e : Expr} {ia ib id ie : E} {pos : Pos}

theorem den_of {f : Rho → Hs → R D} {K : PySem.W.Frag} {ρ : Rho} {σ : St} {H : Hp} {S : Hs} {m : List Addr} {Q : VK} (env : EnvR K m H ρ σ) (rs : RepS K m H S) (p : Post K m H (Rep K) (f ρ S) Q) : tD K f σ H Q := ⟨ρ, S, m, env, rs, p⟩
theorem me_var {i : Nat} {x : Str} (hi : X.N[i]? = some x) (hv : Vis X.env.scope x) (hn : nameOk x = true) : PE X (.Name x pos) (mD Φ G X (.var i)) := by
  obtain ⟨h1, h2, _⟩ := nameOk_d hn
  refine PE.mono (pe_var hi hv h1 h2) fun σ H Q ⟨ρ, S, m, env, rs, p⟩ => ?_
  simp only [den] at p
  split at p
  · rename_i dd e
    obtain ⟨v, e1, r⟩ := env.2 i dd e
    exact ⟨v, e1, p.ok0 rs r⟩
  · exact p.elim
theorem me_glb {g : Nat} {x : Str} {u : Value} {v : V} (hg : Gl X x) (hm : X.mg x = some u) (r : RelV v u) (hr : ∀ m H, Rep X.K m H (G g) v) (hn : nameOk x = true) : PE X (.Name x pos) (mD Φ G X (.glb g)) := by
  obtain ⟨h1, _, _⟩ := nameOk_d hn
  refine PE.mono (pe_glob hg hm r h1) fun σ H Q ⟨ρ, S, m, env, rs, p⟩ => ?_
  exact p.ok0 rs (hr m H)
theorem me_non {j} : PE X (.Constant .none j pos) (mD Φ G X .non) := PE.mono pe_non fun σ H Q ⟨ρ, S, m, env, rs, p⟩ => p.ok0 rs (Rep.non_.mpr rfl)
theorem me_bl {bb j} : PE X (.Constant (.bool bb) j pos) (mD Φ G X (.bl bb)) := PE.mono pe_bl fun σ H Q ⟨ρ, S, m, env, rs, p⟩ => p.ok0 rs (Rep.bl_.mpr rfl)
theorem me_int {i j} : PE X (.Constant (.int i) j pos) (mD Φ G X (.int i)) := PE.mono pe_int fun σ H Q ⟨ρ, S, m, env, rs, p⟩ => p.ok0 rs (Rep.int_.mpr rfl)
theorem me_str {x j} : PE X (.Constant (.str x) j pos) (mD Φ G X (.str x)) := PE.mono pe_str fun σ H Q ⟨ρ, S, m, env, rs, p⟩ => p.ok0 rs (Rep.str_.mpr rfl)
theorem ml_nil : PA X [] (mL Φ G X .nil) := PA.mono pa_nil fun σ H Q ⟨ρ, S, m, env, rs, p⟩ => p.ok0 rs (Reps.nil_.mpr rfl)
theorem ml_cons {es : List Expr} {il : E} (hs : notStar e = true) (h1 : PE X e (mD Φ G X ie)) (h2 : PA X es (mL Φ G X il)) : PA X (e :: es) (mL Φ G X (.cons ie il)) := by
  refine PA.mono (pa_cons h1 h2 (star_cons hs)) fun σ H Q ⟨ρ, S, m, env, rs, p⟩ => ?_
  simp only [denL] at p
  refine tG_step env rs p fun m1 H1 S1 x v e1 env1 rs1 r1 p1 => tG_step env1 rs1 p1 fun m2 H2 S2 xs vs e2 env2 rs2 r2 p2 => ?_
  exact p2.ok0 rs2 (Reps.cons_.mpr ⟨v, vs, rfl, Rep.ext e2 x r1, r2⟩)
theorem me_tup {es : List Expr} {x1 : Nat} {il : E} (h : PA X es (mL Φ G X il)) : PE X (.Tuple es x1 pos) (mD Φ G X (.tup il)) := by
  refine PE.mono (pe_tup h) fun σ H Q ⟨ρ, S, m, env, rs, p⟩ => ?_
  simp only [den] at p
  refine tG_step env rs p fun m1 H1 S1 xs vs e1 env1 rs1 r1 p1 => ?_
  obtain ⟨hz, p1⟩ := p1.lim
  exact ⟨by rw [← r1.len]; exact hz, fun q hq => p1.tupNew rs1 r1 hq⟩
theorem me_lst {es : List Expr} {il : E} (h : PA X es (mL Φ G X il)) : PE X (.List es pos) (mD Φ G X (.lst il)) := by
  refine PE.mono (pe_lst h) fun σ H Q ⟨ρ, S, m, env, rs, p⟩ => ?_
  simp only [den] at p
  refine tG_step env rs p fun m1 H1 S1 xs vs e1 env1 rs1 r1 p1 => ?_
  obtain ⟨hz, p1⟩ := p1.lim
  exact ⟨by rw [← r1.len]; exact hz, fun q hq => p1.lstNew rs1 r1 hq⟩
theorem bop_py {o : Operator} {o' : Bop} (h : bopOf o = some o') : o = o'.py := by cases o <;> simp [bopOf] at h <;> subst h <;> rfl
theorem cop_py {o : CmpOp} {o' : Cop} (h : copOf o = some o') : o = o'.py := by cases o <;> simp [copOf] at h <;> subst h <;> rfl
theorem me_bin {o : Operator} {o' : Bop} (ho : bopOf o = some o') (ha : PE X a (mD Φ G X ia)) (hb : PE X b (mD Φ G X ib)) : PE X (.BinOp a o b pos) (mD Φ G X (.bin o' ia ib)) := by
  rw [bop_py ho]
  refine PE.mono (pe_op (op_bin o') ha hb) fun σ H Q ⟨ρ, S, m, env, rs, p⟩ => ?_
  simp only [den] at p
  refine tG_step env rs p fun m1 H1 S1 x v e1 env1 rs1 r1 p1 => tG_step env1 rs1 p1 fun m2 H2 S2 y u e2 env2 rs2 r2 p2 => ?_
  exact ⟨m2, S2, x, y, rs2, Rep.ext e2 x r1, r2, p2⟩
theorem me_neg (ha : PE X a (mD Φ G X ia)) : PE X (.UnaryOp .USub a pos) (mD Φ G X (.neg ia)) := by
  refine PE.mono (pe_un un_neg ha) fun σ H Q ⟨ρ, S, m, env, rs, p⟩ => ?_
  simp only [den] at p
  refine tG_step env rs p fun m1 H1 S1 x v e1 env1 rs1 r1 p1 => ?_
  cases x with
  | int i =>
    rw [Rep.int_] at r1
    exact ⟨i, r1, p1.ok0 rs1 (Rep.int_.mpr rfl)⟩
  | _ => exact p1.elim
theorem me_not (ha : PE X a (mD Φ G X ia)) : PE X (.UnaryOp .Not a pos) (mD Φ G X (.nt ia)) := by
  refine PE.mono (pe_not ha) fun σ H Q ⟨ρ, S, m, env, rs, p⟩ => ?_
  simp only [den] at p
  refine tG_step env rs p fun m1 H1 S1 x v e1 env1 rs1 r1 p1 => ?_
  cases x with
  | bl c =>
    rw [Rep.bl_] at r1
    exact ⟨c, r1, p1.ok0 rs1 (Rep.bl_.mpr rfl)⟩
  | _ => exact p1.elim
theorem me_cmp {o : CmpOp} {o' : Cop} (hu : X.A.units + 64 < cLine) (ho : copOf o = some o') (ha : PE X a (mD Φ G X ia)) (hb : PE X b (mD Φ G X ib)) (hm : behindInMarks o b = false) : PE X (.Compare a [o] [b] pos) (mD Φ G X (.cmp o' ia ib)) := by
  have := cop_py ho
  subst this
  refine PE.mono (pe_cmpR (op_cmp o' hu) ha hb hm) fun σ H Q ⟨ρ, S, m, env, rs, p⟩ => ?_
  simp only [den] at p
  refine tG_step env rs p fun m1 H1 S1 x v e1 env1 rs1 r1 p1 => tG_step env1 rs1 p1 fun m2 H2 S2 y u e2 env2 rs2 r2 p2 => ?_
  exact ⟨m2, S2, x, y, rs2, Rep.ext e2 x r1, r2, p2⟩
/-- a wish about a value, from a wish about a test -/
theorem PostT.val {K : PySem.W.Frag} {m : List Addr} {H : Hp} {r : R D} {Q : Bool → Hp → Prop} (h : PostT K m H r Q) : Post K m H (Rep K) r (fun z H3 => ∃ c, z = .bl c ∧ Q c H3) := by
  cases r with
  | ok d S =>
    obtain ⟨b, rfl, q⟩ := h
    intro v m1 H1 e1 rs1 r1
    rw [Rep.bl_] at r1
    exact ⟨b, r1, q m1 H1 e1 rs1⟩
  | ex => exact h
  | no => exact h
theorem mt_cmp {o : CmpOp} {o' : Cop} (hu : X.A.units + 64 < cLine) (ho : copOf o = some o') (ha : PE X a (mD Φ G X ia)) (hb : PE X b (mD Φ G X ib)) (hm : behindInMarks o b = false) : PT X (.Compare a [o] [b] pos) (mT Φ G X (.cmp o' ia ib)) := by
  have := cop_py ho
  subst this
  refine PT.mono (pt_cmpR (op_cmp o' hu) ha hb hm) fun σ H Q ⟨ρ, S, m, env, rs, p⟩ => ?_
  simp only [den] at p
  refine tG_step env rs p.val fun m1 H1 S1 x v e1 env1 rs1 r1 p1 => tG_step env1 rs1 p1 fun m2 H2 S2 y u e2 env2 rs2 r2 p2 => ?_
  exact ⟨m2, S2, x, y, rs2, Rep.ext e2 x r1, r2, p2⟩
theorem mt_plain (h : PE X e (mD Φ G X ie)) (hp : plainTest e = true) : PT X e (mT Φ G X ie) :=
  PT.mono (pt_val h (plain_test hp)) fun σ H Q ⟨ρ, S, m, env, rs, p⟩ => ⟨ρ, S, m, env, rs, p.val⟩
theorem isN_rep {K : PySem.W.Frag} {m : List Addr} {H : Hp} {x : D} {v : V} (r : Rep K m H x v) : decide (v = .non) = isN x := by
  cases x with
  | non => rw [Rep.non_] at r; subst r; rfl
  | bl => rw [Rep.bl_] at r; subst r; rfl
  | int => rw [Rep.int_] at r; subst r; rfl
  | str => rw [Rep.str_] at r; subst r; rfl
  | tup => rw [Rep.tup_] at r; obtain ⟨_, _, rfl, _⟩ := r; rfl
  | ref => rw [Rep.ref_] at r; obtain ⟨_, _, rfl⟩ := r; rfl
theorem mc_isN {σ : St} {H : Hp} {Q : VK} (h : mD Φ G X (.isN ia) σ H Q) : tIsN (mD Φ G X ia) σ H Q := by
  obtain ⟨ρ, S, m, env, rs, p⟩ := h
  simp only [den] at p
  refine tG_step env rs p fun m1 H1 S1 x v e1 env1 rs1 r1 p1 => ?_
  rw [isN_rep r1]
  exact p1.ok0 rs1 (Rep.bl_.mpr rfl)
theorem mc_nsN {σ : St} {H : Hp} {Q : VK} (h : mD Φ G X (.nsN ia) σ H Q) : tNotN (mD Φ G X ia) σ H Q := by
  obtain ⟨ρ, S, m, env, rs, p⟩ := h
  simp only [den] at p
  refine tG_step env rs p fun m1 H1 S1 x v e1 env1 rs1 r1 p1 => ?_
  rw [isN_rep r1]
  exact p1.ok0 rs1 (Rep.bl_.mpr rfl)
theorem tB_of {t : TE} (h : ∀ σ H Q, mD Φ G X ie σ H Q → t σ H Q) {σ : St} {H : Hp} {Q : Bool → Hp → Prop} (q : mT Φ G X ie σ H Q) : tB t σ H Q := by
  obtain ⟨ρ, S, m, env, rs, p⟩ := q
  exact h σ H _ ⟨ρ, S, m, env, rs, p.val⟩
theorem me_isN {j p'} (ha : PE X a (mD Φ G X ia)) : PE X (.Compare a [.Is] [.Constant .none j p'] pos) (mD Φ G X (.isN ia)) := PE.mono (pe_cmp (pc_isN ha)) fun _ _ _ h => mc_isN h
theorem me_nsN {j p'} (ha : PE X a (mD Φ G X ia)) : PE X (.Compare a [.IsNot] [.Constant .none j p'] pos) (mD Φ G X (.nsN ia)) := PE.mono (pe_cmp (pc_notN ha)) fun _ _ _ h => mc_nsN h
theorem mt_isN {j p'} (ha : PE X a (mD Φ G X ia)) : PT X (.Compare a [.Is] [.Constant .none j p'] pos) (mT Φ G X (.isN ia)) := PT.mono (pt_cmp (pc_isN ha)) fun _ _ _ h => tB_of (fun _ _ _ h => mc_isN h) h
theorem mt_nsN {j p'} (ha : PE X a (mD Φ G X ia)) : PT X (.Compare a [.IsNot] [.Constant .none j p'] pos) (mT Φ G X (.nsN ia)) := PT.mono (pt_cmp (pc_notN ha)) fun _ _ _ h => tB_of (fun _ _ _ h => mc_nsN h) h
theorem chain_of {o p : Cop} {σ : St} {H : Hp} {Q : VK} (h : mD Φ G X (.chn o p ia ib id) σ H Q) : tChain (rCmp X.K o) (rCmp X.K p) (mD Φ G X ia) (mD Φ G X ib) (mD Φ G X id) σ H Q := by
  obtain ⟨ρ, S, m, env, rs, q⟩ := h
  simp only [den] at q
  refine tG_step env rs q fun m1 H1 S1 x v e1 env1 rs1 r1 p1 => tG_step env1 rs1 p1 fun m2 H2 S2 y u e2 env2 rs2 r2 p2 => ?_
  refine ⟨m2, S2, x, y, rs2, Rep.ext e2 x r1, r2, p2.bind fun m3 H3 S3 kk z e3 rs3 r3 p3 => ?_⟩
  cases kk with
  | bl c =>
    rw [Rep.bl_] at r3
    refine ⟨c, r3, ?_⟩
    cases c with
    | true =>
      rw [if_pos rfl]
      refine tG_step (env2.ext e3) rs3 p3 fun m4 H4 S4 w' w e4 env4 rs4 r4 p4 => ?_
      exact ⟨m4, S4, y, w', rs4, Rep.ext (e3.trans e4) y r2, r4, p4⟩
    | false =>
      rw [if_neg Bool.false_ne_true]
      exact p3.ok0 rs3 (Rep.bl_.mpr rfl)
  | _ => exact p3.elim
theorem me_chn {o p : CmpOp} {o' p' : Cop} (hu : X.A.units + 64 < cLine) (ho : copOf o = some o') (hp : copOf p = some p') (ha : PE X a (mD Φ G X ia)) (hb : PE X b (mD Φ G X ib)) (hd : PE X d (mD Φ G X id)) (hm : lastMarks [o, p] [b, d] = false) : PE X (.Compare a [o, p] [b, d] pos) (mD Φ G X (.chn o' p' ia ib id)) := by
  have e1 := cop_py ho
  have e2 := cop_py hp
  subst e1 e2
  exact PE.mono (pe_chain (op_cmp o' hu) (op_cmp p' hu) ha hb hd hm) fun σ H Q h => chain_of h
theorem mt_chn {o p : CmpOp} {o' p' : Cop} (hu : X.A.units + 64 < cLine) (ho : copOf o = some o') (hp : copOf p = some p') (ha : PE X a (mD Φ G X ia)) (hb : PE X b (mD Φ G X ib)) (hd : PE X d (mD Φ G X id)) (hm : lastMarks [o, p] [b, d] = false) : PT X (.Compare a [o, p] [b, d] pos) (mT Φ G X (.chn o' p' ia ib id)) := by
  have e1 := cop_py ho
  have e2 := cop_py hp
  subst e1 e2
  exact PT.mono (pt_chain (op_cmp o' hu) (op_cmp p' hu) ha hb hd hm) fun σ H Q ⟨ρ, S, m, env, rs, q⟩ => chain_of ⟨ρ, S, m, env, rs, q.val⟩
/-! and, or, not -/
theorem me_and {es : List Expr} (ha : PE X a (mD Φ G X ia)) (hb : PE X (.BoolOp .And (b :: es) pos) (mD Φ G X ib)) : PE X (.BoolOp .And (a :: b :: es) pos) (mD Φ G X (.and ia ib)) := by
  refine PE.mono (pe_and ha hb) fun σ H Q ⟨ρ, S, m, env, rs, p⟩ => ?_
  simp only [den] at p
  refine tG_step env rs p fun m1 H1 S1 x v e1 env1 rs1 r1 p1 => ?_
  cases x with
  | bl c =>
    rw [Rep.bl_] at r1
    refine ⟨c, r1, ?_⟩
    cases c with
    | true => rw [if_pos rfl]; exact ⟨ρ, S1, m1, env1, rs1, p1⟩
    | false => rw [if_neg Bool.false_ne_true]; exact p1.ok0 rs1 (Rep.bl_.mpr rfl)
  | _ => exact p1.elim
theorem me_or {es : List Expr} (ha : PE X a (mD Φ G X ia)) (hb : PE X (.BoolOp .Or (b :: es) pos) (mD Φ G X ib)) : PE X (.BoolOp .Or (a :: b :: es) pos) (mD Φ G X (.or ia ib)) := by
  refine PE.mono (pe_or ha hb) fun σ H Q ⟨ρ, S, m, env, rs, p⟩ => ?_
  simp only [den] at p
  refine tG_step env rs p fun m1 H1 S1 x v e1 env1 rs1 r1 p1 => ?_
  cases x with
  | bl c =>
    rw [Rep.bl_] at r1
    refine ⟨c, r1, ?_⟩
    cases c with
    | true => rw [if_pos rfl]; exact p1.ok0 rs1 (Rep.bl_.mpr rfl)
    | false => rw [if_neg Bool.false_ne_true]; exact ⟨ρ, S1, m1, env1, rs1, p1⟩
  | _ => exact p1.elim
theorem PostT.ok0 {K : PySem.W.Frag} {m : List Addr} {H : Hp} {S : Hs} {c : Bool} {Q : Bool → Hp → Prop} (h : PostT K m H (.ok (.bl c) S) Q) (rs : RepS K m H S) : Q c H := by
  obtain ⟨b, e, q⟩ := h
  cases e
  exact q m H (Ext.refl m H) rs
theorem mw_and {es : List Expr} (ha : PT X a (mT Φ G X ia)) (hb : PW X (.BoolOp .And (b :: es) pos) (mT Φ G X ib)) : PW X (.BoolOp .And (a :: b :: es) pos) (mT Φ G X (.and ia ib)) := by
  refine PW.mono (pw_and ha hb) fun σ H Q ⟨ρ, S, m, env, rs, p⟩ => ?_
  simp only [den] at p
  refine tT_stepT env rs p fun m1 H1 S1 c e1 env1 rs1 p1 => ?_
  cases c with
  | true => rw [if_pos rfl] at p1 ⊢; exact ⟨ρ, S1, m1, env1, rs1, p1⟩
  | false => rw [if_neg Bool.false_ne_true] at p1 ⊢; exact p1.ok0 rs1
theorem mw_or {es : List Expr} (ha : PT X a (mT Φ G X ia)) (hb : PW X (.BoolOp .Or (b :: es) pos) (mT Φ G X ib)) : PW X (.BoolOp .Or (a :: b :: es) pos) (mT Φ G X (.or ia ib)) := by
  refine PW.mono (pw_or ha hb) fun σ H Q ⟨ρ, S, m, env, rs, p⟩ => ?_
  simp only [den] at p
  refine tT_stepT env rs p fun m1 H1 S1 c e1 env1 rs1 p1 => ?_
  cases c with
  | true => rw [if_pos rfl] at p1 ⊢; exact p1.ok0 rs1
  | false => rw [if_neg Bool.false_ne_true] at p1 ⊢; exact ⟨ρ, S1, m1, env1, rs1, p1⟩
theorem mt_not (ha : PT X a (mT Φ G X ia)) : PT X (.UnaryOp .Not a pos) (mT Φ G X (.nt ia)) := by
  refine PT.mono (pt_not ha) fun σ H Q ⟨ρ, S, m, env, rs, p⟩ => ?_
  simp only [den] at p
  refine ⟨ρ, S, m, env, rs, ?_⟩
  cases e : den Φ G ia ρ S with
  | ok d S1 =>
    rw [e] at p
    simp only [R.bind_ok] at p
    cases d with
    | bl c =>
      obtain ⟨b, e2, q⟩ := p
      cases e2
      exact ⟨c, rfl, q⟩
    | _ => exact p.elim
  | ex => rw [e] at p; exact p
  | no => rw [e] at p; exact p
theorem me_ife {t : Expr} {it : E} (ht : PT X t (mT Φ G X it)) (ha : PE X a (mD Φ G X ia)) (hb : PE X b (mD Φ G X ib)) : PE X (.IfExp t a b pos) (mD Φ G X (.ife it ia ib)) := by
  refine PE.mono (pe_ifExp ht ha hb) fun σ H Q ⟨ρ, S, m, env, rs, p⟩ => ?_
  simp only [den] at p
  refine tT_step env rs p fun m1 H1 S1 c e1 env1 rs1 p1 => ?_
  cases c with
  | true => rw [if_pos rfl] at p1 ⊢; exact ⟨ρ, S1, m1, env1, rs1, p1⟩
  | false => rw [if_neg Bool.false_ne_true] at p1 ⊢; exact ⟨ρ, S1, m1, env1, rs1, p1⟩
end
end RS

namespace RS
open PySem PySem.Spec L2
variable {Φ : Nat → List D → Hs → R D} {G : Nat → D} {k : Nat}
/-! ### isinstance -/
def Ty.py : Ty → String
  | .int => "int" | .bool => "bool" | .str => "str" | .tuple => "tuple" | .list => "list" | .dict => "dict" | .cls _ => "object"
def Ty.plain : Ty → Bool
  | .cls _ => false
  | _ => true
section
variable {K : PySem.W.Frag} {m : List Addr} {H : Hp} {S : Hs}
theorem tup_tyX {a : Addr} {xs : List V} (t : TupAt K H a xs) : TyX K H (.ref a) (.type "tuple") := by
  rcases t with t | ⟨o, its, n, h1, h2, _⟩
  · exact .base (.tup t)
  · exact .kTuple h1 h2
/-- the type of a value, and the answers for it -/
theorem tyX_rep (rs : RepS K m H S) {d : D} {v : V} (r : Rep K m H d v) {t : Ty} (hp : t.plain = true) {b : Bool} (h : tyIs S d t = some b) : ∃ u, TyX K H v u ∧ PySem.W.kitOne K u (.type t.py) = some b ∧ ∀ t', t'.plain = true → ∀ b', tyIs S d t' = some b' → PySem.W.kitOne K u (.type t'.py) = some b' := by
  have gen : ∀ (nm : String) (f : Ty → Bool), TyX K H v (.type nm) → (∀ t', t'.plain = true → kitB nm t'.py = some (f t')) → (∀ t', t'.plain = true → ∀ b', tyIs S d t' = some b' → b' = f t') → ∃ u, TyX K H v u ∧ PySem.W.kitOne K u (.type t.py) = some b ∧ ∀ t', t'.plain = true → ∀ b', tyIs S d t' = some b' → PySem.W.kitOne K u (.type t'.py) = some b' :=
    fun nm f h1 h2 h3 => ⟨.type nm, h1, kit_ty (by rw [h2 t hp, h3 t hp b h]), fun t' hp' b' h' => kit_ty (by rw [h2 t' hp', h3 t' hp' b' h'])⟩
  cases d with
  | non =>
    rw [Rep.non_] at r
    subst r
    exact gen "NoneType" (fun _ => false) (.base .non) (fun t' hp' => by cases t' <;> first | decide +kernel | (simp [Ty.plain] at hp')) (fun t' hp' b' h' => by cases t' <;> simp [tyIs, Ty.plain] at h' hp' <;> simp [h'])
  | bl c =>
    rw [Rep.bl_] at r
    subst r
    exact gen "bool" (fun t => match t with | .int => true | .bool => true | _ => false) (.base (.bl c)) (fun t' hp' => by cases t' <;> first | decide +kernel | (simp [Ty.plain] at hp')) (fun t' hp' b' h' => by cases t' <;> simp [tyIs, Ty.plain] at h' hp' <;> simp [h'])
  | int i =>
    rw [Rep.int_] at r
    subst r
    exact gen "int" (fun t => match t with | .int => true | _ => false) (.base (.int i)) (fun t' hp' => by cases t' <;> first | decide +kernel | (simp [Ty.plain] at hp')) (fun t' hp' b' h' => by cases t' <;> simp [tyIs, Ty.plain] at h' hp' <;> simp [h'])
  | str x =>
    rw [Rep.str_] at r
    subst r
    exact gen "str" (fun t => match t with | .str => true | _ => false) (.base (.str x)) (fun t' hp' => by cases t' <;> first | decide +kernel | (simp [Ty.plain] at hp')) (fun t' hp' b' h' => by cases t' <;> simp [tyIs, Ty.plain] at h' hp' <;> simp [h'])
  | tup ds =>
    rw [Rep.tup_] at r
    obtain ⟨a, xs, rfl, t, _⟩ := r
    exact gen "tuple" (fun t => match t with | .tuple => true | _ => false) (tup_tyX t) (fun t' hp' => by cases t' <;> first | decide +kernel | (simp [Ty.plain] at hp')) (fun t' hp' b' h' => by cases t' <;> simp [tyIs, Ty.plain] at h' hp' <;> simp [h'])
  | ref n =>
    rw [Rep.ref_] at r
    obtain ⟨a, e, rfl⟩ := r
    have hn : n < S.length := by rw [← rs.len]; exact (List.getElem?_eq_some_iff.mp e).1
    have ho := rs.obj n _ a (List.getElem?_eq_getElem hn) e
    have es : S[n]? = some S[n] := List.getElem?_eq_getElem hn
    revert ho es
    generalize S[n] = o
    intro ho es
    have ls : ∀ t', t'.plain = true → ∀ b', (∃ ds, o = .lst ds) ∨ (∃ ds, o = .scr ds) → tyIs S (.ref n) t' = some b' → b' = (match t' with | .list => true | _ => false) := by
      intro t' hp' b' ho h'
      rcases ho with ⟨ds, rfl⟩ | ⟨ds, rfl⟩ <;> cases t' <;> simp [tyIs, Ty.plain, es] at h' hp' <;> simp [h']
    cases o with
    | lst ds =>
      obtain ⟨xs, h1, _⟩ := ho
      exact gen "list" (fun t => match t with | .list => true | _ => false) (.base (.lst h1)) (fun t' hp' => by cases t' <;> first | decide +kernel | (simp [Ty.plain] at hp')) (fun t' hp' b' h' => ls t' hp' b' (.inl ⟨_, rfl⟩) h')
    | scr ds =>
      obtain ⟨ob, xs, h1, _⟩ := ho
      exact gen "list" (fun t => match t with | .list => true | _ => false) (.base (.frz h1)) (fun t' hp' => by cases t' <;> first | decide +kernel | (simp [Ty.plain] at hp')) (fun t' hp' b' h' => ls t' hp' b' (.inr ⟨_, rfl⟩) h')
    | dct _ => exact ho.elim
    | dlk _ => exact ho.elim
    | ins _ _ => exact ho.elim
theorem kits (u : Value) : ∀ {ts : List Ty} {d : D} {b : Bool}, (∀ t ∈ ts, t.plain = true) → (∀ t', t'.plain = true → ∀ b', tyIs S d t' = some b' → PySem.W.kitOne K u (.type t'.py) = some b') → tysAre S d ts = some b → PySem.W.kitAny K u (ts.map fun t => .type t.py) = some b
  | [], d, b, _, _, h => by simp [tysAre] at h; subst h; rfl
  | t :: ts, d, b, hp, hk, h => by
    simp only [tysAre] at h
    split at h
    · rename_i x y h1 h2
      cases h
      have q1 := hk t (hp t List.mem_cons_self) x h1
      have q2 := kits u (fun t' ht => hp t' (List.mem_cons_of_mem _ ht)) hk h2
      simp only [List.map_cons, PySem.W.kitAny, q1]
      cases x with
      | true => rfl
      | false => simpa using q2
    · cases h
end
section
variable {X : Cx} {a b d e : Expr} {ia ib id ie : E} {pos p : Pos} {es : List Expr} {il : E}
/-- a class by its name -/
theorem tyName_is {c : Cc} {e : Expr} {t : Ty} (gc : GC X c) (g : Good X c.T Φ G k) (h : tyName c e = some t) : t.plain = true ∧ notStar e = true ∧ PE X e (tC (.ty t.py)) := by
  cases e with
  | Name x p =>
    simp only [tyName] at h
    split at h
    · rename_i hb
      simp only [bltB, Bool.and_eq_true, Bool.not_eq_true'] at hb
      obtain ⟨⟨hg, hf⟩, hc⟩ := hb
      rw [← gc.sc] at hg
      unfold tyOf at h
      split at h
      · rename_i e; subst e; cases h
        exact ⟨rfl, rfl, pe_bltn (glB_gl hg) (g.blt _ (by decide +kernel) hf hc) (v := .ty "int") (u := .type "int") (by first | exact PyProof.Rows.boot_int | exact PySem.boot_int) rfl⟩
      · split at h
        · rename_i e; subst e; cases h
          exact ⟨rfl, rfl, pe_bltn (glB_gl hg) (g.blt _ (by decide +kernel) hf hc) (v := .ty "bool") (u := .type "bool") (by first | exact PyProof.Rows.boot_bool | exact PySem.boot_bool) rfl⟩
        · split at h
          · rename_i e; subst e; cases h
            exact ⟨rfl, rfl, pe_bltn (glB_gl hg) (g.blt _ (by decide +kernel) hf hc) (v := .ty "str") (u := .type "str") (by first | exact PyProof.Rows.boot_str | exact PySem.boot_str) rfl⟩
          · split at h
            · rename_i e; subst e; cases h
              exact ⟨rfl, rfl, pe_bltn (glB_gl hg) (g.blt _ (by decide +kernel) hf hc) (v := .ty "tuple") (u := .type "tuple") (by first | exact PyProof.Rows.boot_tuple | exact PySem.boot_tuple) rfl⟩
            · split at h
              · rename_i e; subst e; cases h
                exact ⟨rfl, rfl, pe_bltn (glB_gl hg) (g.blt _ (by decide +kernel) hf hc) (v := .ty "list") (u := .type "list") (by first | exact PyProof.Rows.boot_list | exact PySem.boot_list) rfl⟩
              · split at h
                · rename_i e; subst e; cases h
                  exact ⟨rfl, rfl, pe_bltn (glB_gl hg) (g.blt _ (by decide +kernel) hf hc) (v := .ty "dict") (u := .type "dict") (by first | exact PyProof.Rows.boot_dict | exact PySem.boot_dict) rfl⟩
                · cases h
    · cases h
  | _ => simp [tyName] at h
/-- the classes of a written tuple -/
def tTys (ts : List Ty) : TA := fun _ H Q => Q (ts.map fun t => V.ty t.py) H
theorem tyNames_are {c : Cc} (gc : GC X c) (g : Good X c.T Φ G k) : ∀ {es : List Expr} {ts : List Ty}, tyNames c es = some ts → (∀ t ∈ ts, t.plain = true) ∧ PA X es (tTys ts)
  | [], ts, h => by simp [tyNames] at h; subst h; exact ⟨fun _ h => by (cases h), PA.mono pa_nil fun _ _ _ q => q⟩
  | e :: es, ts, h => by
    simp only [tyNames] at h
    split at h
    · rename_i t ts' h1 h2
      cases h
      obtain ⟨p1, s1, q1⟩ := tyName_is gc g h1
      obtain ⟨p2, q2⟩ := tyNames_are gc g h2
      refine ⟨fun t' ht => ?_, PA.mono (pa_cons q1 q2 (star_cons s1)) fun _ _ _ q => q⟩
      rcases List.mem_cons.mp ht with rfl | ht
      · exact p1
      · exact p2 _ ht
    · cases h
theorem clsVs : ∀ (ts : List Ty), Paired ClsV (ts.map fun t => V.ty t.py) (ts.map fun t => Value.type t.py)
  | [] => .nil
  | t :: ts => .cons (.ty _) (clsVs ts)
theorem me_isi1 {c : Cc} {t : Ty} (gc : GC X c) (g : Good X c.T Φ G k) (hg : Gl X "isinstance") (hm : X.mg "isinstance" = none) (hs : notStar a = true) (ha : PE X a (mD Φ G X ia)) (ht : tyName c e = some t) : PE X (.Call (.Name "isinstance" p) [a, e] [] pos) (mD Φ G X (.isi [t] ia)) := by
  obtain ⟨hp, s1, he⟩ := tyName_is gc g ht
  refine PE.mono (pe_callB call_isi hg hm (by first | exact PyProof.Rows.boot_isinstance | exact PySem.boot_isinstance) (pa_cons ha (pa_cons he pa_nil (star_cons s1)) (star_cons hs)) (by decide) (by decide) (star_cons hs) (star_any fun e' he' => by simp at he'; rw [he']; exact s1)) fun σ H Q ⟨ρ, S, m, env, rs, q⟩ => ?_
  simp only [den] at q
  refine tG_step env rs q fun m1 H1 S1 x v e1 env1 rs1 r1 p1 => ?_
  split at p1
  · rename_i bb hb
    have hb1 : tyIs S1 x t = some bb := by
      simp only [tysAre] at hb
      split at hb
      · rename_i x1 y1 h1 h2
        cases h2
        cases hb
        rw [h1]; simp
      · cases hb
    obtain ⟨u, ty, hk, _⟩ := tyX_rep rs1 r1 hp hb1
    exact ⟨v, .ty t.py, u, .type t.py, bb, rfl, .ty _, ty, hk, p1.ok0 rs1 (Rep.bl_.mpr rfl)⟩
  · exact p1.elim
theorem me_isiT {c : Cc} {ts : List Ty} {x1 : Nat} {p2 : Pos} (gc : GC X c) (g : Good X c.T Φ G k) (hg : Gl X "isinstance") (hm : X.mg "isinstance" = none) (hs : notStar a = true) (ha : PE X a (mD Φ G X ia)) (ht : tyNames c es = some ts) (hne : ts ≠ []) (hz : ts.length ≤ 1000) : PE X (.Call (.Name "isinstance" p) [a, .Tuple es x1 p2] [] pos) (mD Φ G X (.isi ts ia)) := by
  obtain ⟨hp, he⟩ := tyNames_are gc g ht
  refine PE.mono (pe_callB call_isiT hg hm (by first | exact PyProof.Rows.boot_isinstance | exact PySem.boot_isinstance) (pa_cons ha (pa_cons (pe_tup he) pa_nil (star_cons rfl)) (star_cons hs)) (by decide) (by decide) (star_cons hs) (star_any fun e' he' => by simp at he'; rw [he']; rfl)) fun σ H Q ⟨ρ, S, m, env, rs, q⟩ => ?_
  simp only [den] at q
  refine tG_step env rs q fun m1 H1 S1 x v e1 env1 rs1 r1 p1 => ?_
  refine ⟨by rw [List.length_map]; exact Nat.le_trans hz (by decide), fun t hT => ?_⟩
  split at p1
  · rename_i bb hb
    have rs2 := rs1.tupNew (o := HO.tup (ts.map fun t => V.ty t.py)) hT
    have r2 := Rep.ext (Ext.tupNew (o := HO.tup (ts.map fun t => V.ty t.py)) rs1 hT) x r1
    cases ts with
    | nil => exact absurd rfl hne
    | cons t0 ts =>
      have hb0 : ∃ b0, tyIs S1 x t0 = some b0 := by
        simp only [tysAre] at hb
        split at hb
        · rename_i x1 y1 h1 h2
          exact ⟨_, h1⟩
        · cases hb
      obtain ⟨b0, hb0⟩ := hb0
      obtain ⟨u, ty, _, hk⟩ := tyX_rep rs2 r2 (hp t0 List.mem_cons_self) hb0
      refine ⟨v, t, _, u, _, bb, rfl, upd_same, clsVs _, ty, kits u hp hk hb, ?_⟩
      exact p1.ok (Ext.tupNew rs1 hT) rs2 (Rep.bl_.mpr rfl)
  · exact p1.elim

/-! ### calls of built-ins -/
theorem me_biB {f : Bi} {x : Str} {idn : String} (hc : CallR X (.builtin idn) (rBi X.K f)) (hg : Gl X x) (hm : X.mg x = none) (hv : bootBuiltins x = some (.builtin idn)) (hn : nameOk x = true) (hs : noStars (e :: es)) (h : PA X (e :: es) (mL Φ G X il)) :
    PE X (.Call (.Name x p) (e :: es) [] pos) (mD Φ G X (.bi f il)) := by
  obtain ⟨h1, _, h3⟩ := nameOk_d hn
  refine PE.mono (pe_callB hc hg hm hv h h3 h1 (star_cons (hs e List.mem_cons_self)) (star_any fun e' he' => hs e' (List.mem_cons_of_mem _ he'))) fun σ H Q ⟨ρ, S, m, env, rs, q⟩ => ?_
  simp only [den] at q
  exact tG_step env rs q fun m1 H1 S1 ds vs e1 env1 rs1 r1 p1 => ⟨m1, S1, ds, rs1, r1, p1⟩
theorem me_biT {f : Bi} {x : Str} {T : String} (hc : CallR X (.type T) (rBi X.K f)) (hg : Gl X x) (hm : X.mg x = none) (hv : bootBuiltins x = some (.type T)) (hn : nameOk x = true) (hs : noStars (e :: es)) (h : PA X (e :: es) (mL Φ G X il)) :
    PE X (.Call (.Name x p) (e :: es) [] pos) (mD Φ G X (.bi f il)) := by
  obtain ⟨h1, _, h3⟩ := nameOk_d hn
  refine PE.mono (pe_callTy hc hg hm hv h h3 h1 (star_cons (hs e List.mem_cons_self)) (star_any fun e' he' => hs e' (List.mem_cons_of_mem _ he'))) fun σ H Q ⟨ρ, S, m, env, rs, q⟩ => ?_
  simp only [den] at q
  exact tG_step env rs q fun m1 H1 S1 ds vs e1 env1 rs1 r1 p1 => ⟨m1, S1, ds, rs1, r1, p1⟩
theorem me_cal0 {T : Tab} {f : Nat} {x : Str} (g : Good X T Φ G k) (hf : T.fns[f]? = some x) (hg : Gl X x) (hn : nameOk x = true) : PE X (.Call (.Name x p) [] [] pos) (mD Φ G X (.cal f .nil)) := by
  obtain ⟨h1, _, _⟩ := nameOk_d hn
  obtain ⟨ad, fd, ps, hm, hk, hb, hl, F⟩ := g.fns f x hf
  refine PE.mono (pe_call0 F g.room hg hm hk hb .nil pass0 h1) fun σ H Q ⟨ρ, S, m, env, rs, q⟩ => ?_
  simp only [den, denL, R.bind_ok] at q
  show spD X.K ps.length (Φ f) [] H Q E0
  rcases hl [] S with z | z
  · rw [z] at q; exact q.elim
  · exact ⟨z, [], S, m, rs, Reps.nil_.mpr rfl, q⟩
theorem me_cal {T : Tab} {f : Nat} {x : Str} (g : Good X T Φ G k) (hf : T.fns[f]? = some x) (hg : Gl X x) (hn : nameOk x = true) (hs : noStars (e :: es)) (h : PA X (e :: es) (mL Φ G X il)) : PE X (.Call (.Name x p) (e :: es) [] pos) (mD Φ G X (.cal f il)) := by
  obtain ⟨h1, _, _⟩ := nameOk_d hn
  obtain ⟨ad, fd, ps, hm, hk, hb, hl, F⟩ := g.fns f x hf
  refine PE.mono (pe_call F g.room hg hm hk hb .nil pass0 h h1 (star_cons (hs e List.mem_cons_self)) (star_any fun e he => hs e (List.mem_cons_of_mem _ he))) fun σ H Q ⟨ρ, S, m, env, rs, q⟩ => ?_
  simp only [den] at q
  refine tG_step env rs q fun m1 H1 S1 ds vs e1 env1 rs1 r1 p1 => ?_
  rw [List.append_nil]
  rcases hl ds S1 with z | z
  · rw [z] at p1; exact p1.elim
  · exact ⟨by rw [← r1.len]; exact z, ds, S1, m1, rs1, r1, p1⟩

/-! ### methods of lists and texts -/
/-- what the receiver must be -/
theorem mtK_tyV {K : PySem.W.Frag} {m : List Addr} {H : Hp} {S : Hs} (rs : RepS K m H S) {x : D} {v : V} (r : Rep K m H x v) {mt : Mt} (h : mtK S mt x = true) : (mt = .join → tyV K "str" v H) ∧ (mt ≠ .join → tyV K "list" v H) := by
  have ls : ∀ n, x = .ref n → (lstAt S n).isSome = true → tyV K "list" v H := by
    intro n hx hs
    subst hx
    obtain ⟨xs, e⟩ := Option.isSome_iff_exists.mp hs
    obtain ⟨a, vs, rfl, _, h2, _⟩ := lstAt_rep rs r e
    exact .inl ⟨rfl, vs, SqL.of h2⟩
  cases mt <;> cases x <;> simp [mtK] at h <;> refine ⟨fun e => ?_, fun e => ?_⟩ <;> first | (exact absurd e (by decide)) | (exact ls _ rfl h) | skip
  rw [Rep.str_] at r
  subst r
  rfl
theorem few_ok {es : List Expr} {e : Expr} {pos : Pos} {env : PySem.Env} (hs : noStars (e :: es)) (hn : es.length ≤ 1) : ((backTo pos (starEach (e :: es) env)).all (fun x => !x.1) && (backToKw pos (keywordEach [] env)).all (fun x => x.1.isSome) && decide ((e :: es).length + ([] : List Keyword).length + (if ([] : List Keyword).isEmpty then 0 else 1) < 30)) = true := by
  rw [star_all hs]
  simp only [Bool.true_and, Bool.and_eq_true, decide_eq_true_eq]
  refine ⟨rfl, ?_⟩
  simp only [List.length_cons, List.length_nil, List.isEmpty_nil, if_true]
  omega
theorem me_mt {mt : Mt} {nm : Str} {T idn : String} {apos : Pos} (pa : PlainAttrs T) (slot : Slot T nm idn) (hty : typeOf (.builtin idn) = pure (.type "method_descriptor")) (hm : MtR X idn (rMt X.K mt)) (hT : (mt = .join ∧ T = "str") ∨ (mt ≠ .join ∧ T = "list"))
    (ho : PE X a (mD Φ G X ia)) (hb : plainBase a = true) (hl : (apos.endLine == pos.line) = true) (hs : noStars (e :: es)) (hn : es.length ≤ 1) (h : PA X (e :: es) (mL Φ G X il)) :
    PE X (.Call (.Attribute a nm apos) (e :: es) [] pos) (mD Φ G X (.mth mt ia il)) := by
  refine PE.mono (pe_bm pa slot hty hm ho h (plain_base hb) (few_ok hs hn) hl (star_cons (hs e List.mem_cons_self)) (star_any fun e' he' => hs e' (List.mem_cons_of_mem _ he'))) fun σ H Q ⟨ρ, S, m, env, rs, q⟩ => ?_
  simp only [den] at q
  refine tG_step env rs q fun m1 H1 S1 x v e1 env1 rs1 r1 p1 => ?_
  obtain ⟨hk, p1⟩ := p1.ite
  obtain ⟨t1, t2⟩ := mtK_tyV rs1 r1 hk
  refine ⟨?_, tG_step env1 rs1 p1 fun m2 H2 S2 ds vs e2 env2 rs2 r2 p2 => ⟨m2, S2, x, ds, rs2, Rep.ext e2 x r1, r2, p2⟩⟩
  rcases hT with ⟨h1, rfl⟩ | ⟨h1, rfl⟩
  · exact t1 h1
  · exact t2 h1
theorem me_mt0 {mt : Mt} {nm : Str} {T idn : String} {apos : Pos} (pa : PlainAttrs T) (slot : Slot T nm idn) (hty : typeOf (.builtin idn) = pure (.type "method_descriptor")) (hm : MtR X idn (rMt X.K mt)) (hT : (mt = .join ∧ T = "str") ∨ (mt ≠ .join ∧ T = "list"))
    (ho : PE X a (mD Φ G X ia)) (hb : plainBase a = true) (hl : (apos.endLine == pos.line) = true) :
    PE X (.Call (.Attribute a nm apos) [] [] pos) (mD Φ G X (.mth mt ia .nil)) := by
  refine PE.mono (pe_bm0 pa slot hty hm ho (plain_base hb) hl) fun σ H Q ⟨ρ, S, m, env, rs, q⟩ => ?_
  simp only [den, denL, R.bind_ok] at q
  refine tG_step env rs q fun m1 H1 S1 x v e1 env1 rs1 r1 p1 => ?_
  obtain ⟨hk, p1⟩ := p1.ite
  obtain ⟨t1, t2⟩ := mtK_tyV rs1 r1 hk
  refine ⟨?_, m1, S1, x, [], rs1, r1, Reps.nil_.mpr rfl, p1⟩
  rcases hT with ⟨h1, rfl⟩ | ⟨h1, rfl⟩
  · exact t1 h1
  · exact t2 h1

/-! ### subscripts -/
theorem me_ix (ha : PE X a (mD Φ G X ia)) (hb : PE X b (mD Φ G X ib)) (hs : notSlice b = true) : PE X (.Subscript a b pos) (mD Φ G X (.ix ia ib)) := by
  refine PE.mono (pe_ix ix_D ha hb (not_slice hs)) fun σ H Q ⟨ρ, S, m, env, rs, p⟩ => ?_
  simp only [den] at p
  refine tG_step env rs p fun m1 H1 S1 x v e1 env1 rs1 r1 p1 => tG_step env1 rs1 p1 fun m2 H2 S2 y u e2 env2 rs2 r2 p2 => ?_
  exact ⟨m2, S2, x, y, rs2, Rep.ext e2 x r1, r2, p2⟩
/-- a slice's end -/
def relO : List Addr → Hp → Option Int → Option Int → Prop := fun _ _ a b => a = b
abbrev mO (Φ : Nat → List D → Hs → R D) (G : Nat → D) (X : Cx) (ir : E) : TO := tG X.K relO (denO Φ G ir)
theorem mo_none : PO X none (mO Φ G X .nil) := ⟨fun pins s σ H Q I h => po_none.run pins s σ H Q I (by
  obtain ⟨ρ, S, m, env, rs, p⟩ := h
  exact p.ok0 rs rfl)⟩
theorem mo_some (ha : PE X a (mD Φ G X ia)) : PO X (some a) (mO Φ G X (.cons ia .nil)) := ⟨fun pins s σ H Q I h => (po_some ha).run pins s σ H Q I (by
  obtain ⟨ρ, S, m, env, rs, p⟩ := h
  simp only [denO] at p
  refine tG_step env rs p fun m1 H1 S1 x v e1 env1 rs1 r1 p1 => ?_
  cases x with
  | int i =>
    rw [Rep.int_] at r1
    exact ⟨i, r1, p1.ok0 rs1 rfl⟩
  | _ => exact p1.elim)⟩
theorem me_sl {lo hi : Option Expr} {il ih : E} {p2 : Pos} (ha : PE X a (mD Φ G X ia)) (hl : PO X lo (mO Φ G X il)) (hh : PO X hi (mO Φ G X ih)) : PE X (.Subscript a (.Slice lo hi none p2) pos) (mD Φ G X (.sl ia il ih)) := by
  refine PE.mono (pe_slice sl_D ha hl hh) fun σ H Q ⟨ρ, S, m, env, rs, p⟩ => ?_
  simp only [den] at p
  refine tG_step env rs p fun m1 H1 S1 x v e1 env1 rs1 r1 p1 => tG_step (relF := relO) env1 rs1 p1 fun m2 H2 S2 l l' e2 env2 rs2 r2 p2 => tG_step (relF := relO) env2 rs2 p2 fun m3 H3 S3 h h' e3 env3 rs3 r3 p3 => ?_
  cases r2
  cases r3
  exact ⟨m3, S3, x, rs3, Rep.ext (e2.trans e3) x r1, p3⟩
theorem me_rvs {kk : Nat} {p1 p2 p3 : Pos} (ha : PE X a (mD Φ G X ia)) : PE X (.Subscript a (.Slice none none (some (.UnaryOp .USub (.Constant (.int 1) kk p1) p2)) p3) pos) (mD Φ G X (.rvs ia)) := by
  refine PE.mono (pe_revL ha) fun σ H Q ⟨ρ, S, m, env, rs, p⟩ => ?_
  simp only [den] at p
  refine tG_step env rs p fun m1 H1 S1 x v e1 env1 rs1 r1 q1 => ?_
  cases x with
  | ref n =>
    simp only [rvD] at q1
    split at q1
    · rename_i ds e
      obtain ⟨q, xs, rfl, hq, r⟩ := seqL_rep rs1 r1 e
      exact ⟨q, xs, rfl, hq, fun w hw => q1.lstNew rs1 r.reverse hw⟩
    · exact q1.elim
  | _ => exact q1.elim
end

/-! ### targets -/
def relE (K : PySem.W.Frag) (σ0 : St) (sl : List Nat) : List Addr → Hp → Rho → St → Prop := fun m H ρ σ => EnvR K m H ρ σ ∧ σ.length = σ0.length ∧ ∀ j, j ∉ sl → σ[j]? = σ0[j]?
/-- a target's reading by the meaning -/
def mG (Φ : Nat → List D → Hs → R D) (G : Nat → D) (X : Cx) (ir : E) : TG := fun v σ H Q => ∃ d ρ S m, EnvR X.K m H ρ σ ∧ RepS X.K m H S ∧ Rep X.K m H d v ∧ Post X.K m H (relE X.K σ (slotsG ir)) (denG Φ G ir d ρ S) Q
def mGs (Φ : Nat → List D → Hs → R D) (G : Nat → D) (X : Cx) (ir : E) : TGs := fun vs σ H Q => ∃ ds ρ S m, EnvR X.K m H ρ σ ∧ RepS X.K m H S ∧ Reps X.K m H ds vs ∧ Post X.K m H (relE X.K σ (slotsG ir)) (denGs Φ G ir ds ρ S) Q
theorem PGs.mono {X : Cx} {e : List Expr} {t u : TGs} (h : PGs X e t) (hh : ∀ v σ H Q, u v σ H Q → t v σ H Q) : PGs X e u := ⟨fun pins s σ H v uu Q I r q => h.run pins s σ H v uu Q I r (hh v σ H Q q)⟩
section
variable {X : Cx} {a b d e : Expr} {ia ib id ie : E} {pos p : Pos} {es : List Expr} {il : E}
theorem mg_name {i : Nat} {x : Str} (hN : X.N.Nodup) (hi : X.N[i]? = some x) (hx : Loc X.env.scope x) (hf : X.fn x = true ∨ X.env.scope.names.lookup x = some .local) : PG X (.Name x pos) (mG Φ G X (.var i)) := by
  refine PG.mono (pg_name hN hi hx hf) fun v σ H Q ⟨d, ρ, S, m, env, rs, r, p⟩ => ?_
  simp only [denG] at p
  obtain ⟨_, p⟩ := p.ite
  exact p.ok0 rs ⟨env.set r, by simp, fun j hj => List.getElem?_set_ne (fun e => hj (by simp [slotsG, e]))⟩
theorem mgs_nil : PGs X [] (mGs Φ G X .nil) := by
  refine PGs.mono pgs_nil fun vs σ H Q ⟨ds, ρ, S, m, env, rs, r, p⟩ => ?_
  cases ds with
  | nil =>
    rw [Reps.nil_] at r
    exact ⟨r, p.ok0 rs ⟨env, rfl, fun _ _ => rfl⟩⟩
  | cons d ds => exact p.elim
theorem assign_cons {env : PySem.Env} (hs : notStar e = true) : (assignEach (e :: es) env).map (·.2) = assign e env :: (assignEach es env).map (·.2) := by
  cases e <;> first | rfl | (simp [notStar] at hs)
theorem assign_len {env : PySem.Env} : ∀ (es : List Expr), (assignEach es env).length = es.length
  | [] => rfl
  | e :: es => by
    have ih := assign_len (env := env) es
    cases e <;> simp [assignEach, ih]
theorem assign_find {env : PySem.Env} : ∀ {es : List Expr}, noStars es → (assignEach es env).findIdx? (·.1) = none
  | [], _ => rfl
  | e :: es, h => by
    have ih := assign_find (env := env) (es := es) fun e he => h e (List.mem_cons_of_mem _ he)
    have h1 := h e List.mem_cons_self
    cases e <;> first | (simp [notStar] at h1; done) | simp [assignEach, List.findIdx?_cons, ih]
theorem mgs_cons (hs : notStar e = true) (h1 : PG X e (mG Φ G X ie)) (h2 : PGs X es (mGs Φ G X il)) : PGs X (e :: es) (mGs Φ G X (.cons ie il)) := by
  refine PGs.mono (pgs_cons h1 h2 (assign_cons hs)) fun vs σ H Q ⟨ds, ρ, S, m, env, rs, r, p⟩ => ?_
  cases ds with
  | nil => exact p.elim
  | cons d ds =>
    rw [Reps.cons_] at r
    obtain ⟨v, w, rfl, r1, r2⟩ := r
    simp only [denGs] at p
    refine ⟨v, w, rfl, d, ρ, S, m, env, rs, r1, ?_⟩
    refine p.bind fun m1 H1 S1 ρ1 σ1 e1 rs1 q1 p1 => ⟨ds, ρ1, S1, m1, q1.1, rs1, Reps.ext e1 ds r2, ?_⟩
    revert p1
    cases denGs Φ G il ds ρ1 S1 with
    | ok ρ2 S2 => exact fun p1 σ2 m2 H2 e2 rs2 q2 => p1 σ2 m2 H2 e2 rs2 ⟨q2.1, q2.2.1.trans q1.2.1, fun j hj => (q2.2.2 j fun z => hj (by simp [slotsG, z])).trans (q1.2.2 j fun z => hj (by simp [slotsG, z]))⟩
    | ex => exact fun p1 => p1
    | no => exact fun p1 => p1
theorem cnt_gs : ∀ {es : List Expr} {il : E} {n : Nat} {c : Cc}, compGs n c es = some il → cnt il = es.length ∧ noStars es
  | [], il, 0, c, h => by simp [compGs] at h
  | [], il, n + 1, c, h => by simp only [compGs, Option.some.injEq] at h; subst h; exact ⟨rfl, fun _ h => by cases h⟩
  | e :: es, il, 0, c, h => by simp [compGs] at h
  | e :: es, il, n + 1, c, h => by
    simp only [compGs] at h
    split at h
    · rename_i hs
      split at h
      · rename_i a b h1 h2
        cases h
        obtain ⟨q1, q2⟩ := cnt_gs h2
        refine ⟨by simp [cnt, q1], fun e' he => ?_⟩
        rcases List.mem_cons.mp he with rfl | he
        · exact hs
        · exact q2 _ he
      · cases h
    · cases h
theorem mg_tup {kk : Nat} (hc : X.calm = true) (hs : noStars es) (hl : cnt il = es.length) (h : PGs X es (mGs Φ G X il)) : PG X (.Tuple es kk pos) (mG Φ G X (.tup il)) := by
  refine PG.mono (pg_tup hc h rfl (assign_find hs)) fun v σ H Q ⟨d, ρ, S, m, env, rs, r, p⟩ => ?_
  simp only [denG] at p
  cases d with
  | tup ds =>
    obtain ⟨hz, p⟩ := p.ite
    rw [Rep.tup_] at r
    obtain ⟨a, xs, rfl, t, r⟩ := r
    exact ⟨a, xs, rfl, t.sq, by rw [← r.len, hz, hl, assign_len], ds, ρ, S, m, env, rs, r, p⟩
  | _ => exact p.elim
theorem mg_sub (ha : PE X a (mD Φ G X ia)) (hb : PE X b (mD Φ G X ib)) (hs : notSlice b = true) : PG X (.Subscript a b pos) (mG Φ G X (.ix ia ib)) := by
  refine PG.mono (pg_sub ha hb set_D (fun v => by cases b <;> first | rfl | (simp [notSlice] at hs))) fun v σ H Q ⟨d, ρ, S, m, env, rs, r, p⟩ => ?_
  simp only [denG] at p
  refine tG_step env rs p fun m1 H1 S1 x u e1 env1 rs1 r1 p1 => tG_step env1 rs1 p1 fun m2 H2 S2 y w e2 env2 rs2 r2 p2 => ?_
  refine ⟨m2, S2, x, y, d, rs2, Rep.ext e2 x r1, r2, Rep.ext (e1.trans e2) d r, ?_⟩
  exact p2.bind fun m3 H3 S3 _ _ e3 rs3 _ p3 => p3.ok0 rs3 ⟨env2.ext e3, rfl, fun _ _ => rfl⟩
end

/-! ### what is walked -/
/-- at a heap where the walked lists stand -/
def Gd (K : PySem.W.Frag) (m0 : List Addr) (H0 : Hp) (gs : List (Nat × List D)) (H : Hp) : Prop := ∃ m' S', Ext m0 m' H0 H ∧ RepS K m' H S' ∧ held S' gs = true
/-- a walk gives the items of a source -/
structure WD (K : PySem.W.Frag) (m0 : List Addr) (H0 : Hp) (J : It) (src : Src) : Prop where
  goes : ∀ i H, i < src.its.length → Gd K m0 H0 src.gs H → J.go i H
  stops : ∀ H, Gd K m0 H0 src.gs H → J.stop src.its.length H
  yields : ∀ i H x H', i < src.its.length → J.yld i H x H' → ∀ m' S', Ext m0 m' H0 H → RepS K m' H S' → held S' src.gs = true → ∃ d, src.its[i]? = some d ∧ Ext m' m' H H' ∧ RepS K m' H' S' ∧ Rep K m' H' d x
def relI (K : PySem.W.Frag) : List Addr → Hp → Src → It → Prop := fun m H src J => WD K m H J src
abbrev mI (Φ : Nat → List D → Hs → R D) (G : Nat → D) (X : Cx) (ir : E) : TI := tG X.K (relI X.K) (denI Φ G ir)
section
variable {K : PySem.W.Frag} {m : List Addr} {H : Hp} {S : Hs}
theorem WD.mono {J : It} {gs : List (Nat × List D)} {src : Src} (w : WD K m H J src) (h : ∀ S', held S' gs = true → held S' src.gs = true) : WD K m H J ⟨gs, src.its⟩ :=
  ⟨fun i H1 hi ⟨m', S', e, rs, hh⟩ => w.goes i H1 hi ⟨m', S', e, rs, h S' hh⟩, fun H1 ⟨m', S', e, rs, hh⟩ => w.stops H1 ⟨m', S', e, rs, h S' hh⟩, fun i H1 x H' hi y m' S' e rs hh => w.yields i H1 x H' hi y m' S' e rs (h S' hh)⟩
theorem held_one {S' : Hs} {n : Nat} {ds : List D} (h : held S' [(n, ds)] = true) : seqOf S' (.ref n) = some ds := by
  simp only [held, List.all_cons, List.all_nil, Bool.and_true, heldAt] at h
  simp only [seqOf]
  split at h
  · simp only [decide_eq_true_eq] at h
    rw [h]
  · simp only [decide_eq_true_eq] at h
    rw [h]
  · cases h
theorem wd_list {n : Nat} {a : Addr} {ds : List D} (hn : m[n]? = some a) : WD K m H (Itl K a) ⟨[(n, ds)], ds⟩ := by
  have sq : ∀ {H1 : Hp} {m' : List Addr} {S' : Hs}, Ext m m' H H1 → RepS K m' H1 S' → held S' [(n, ds)] = true → ∃ xs, SqL K H1 a xs ∧ Reps K m' H1 ds xs := by
    intro H1 m' S' e rs hh
    obtain ⟨b, xs, q1, q2, q3⟩ := seqL_rep (v := .ref a) rs (Rep.ref_.mpr ⟨a, e.ix hn, rfl⟩) (held_one hh)
    cases q1
    exact ⟨xs, q2, q3⟩
  refine ⟨fun i H1 hi ⟨m', S', e, rs, hh⟩ => ?_, fun H1 ⟨m', S', e, rs, hh⟩ => ?_, fun i H1 x H' hi y m' S' e rs hh => ?_⟩
  · obtain ⟨xs, q2, q3⟩ := sq e rs hh
    have hi' : i < xs.length := by rw [← q3.len]; exact hi
    exact ⟨xs, xs[i], q2, by simp [hi']⟩
  · obtain ⟨xs, q2, q3⟩ := sq e rs hh
    exact ⟨xs, q2, by rw [← q3.len]; exact Nat.le_refl _⟩
  · obtain ⟨xs, q2, q3⟩ := sq e rs hh
    obtain ⟨rfl, y⟩ := y
    have hd : ds[i]? = some (ds[i]'hi) := List.getElem?_eq_getElem hi
    obtain ⟨v, q4, q5⟩ := q3.get hd
    have := y xs q2
    rw [q4] at this
    cases this
    exact ⟨_, hd, Ext.refl _ _, rs, q5⟩
theorem wd_tup {a : Addr} {xs : List V} {ds : List D} (t : TupAt K H a xs) (r : Reps K m H ds xs) : WD K m H (Itt K a) ⟨[], ds⟩ := by
  refine ⟨fun i H1 hi ⟨m', S', e, rs, hh⟩ => ?_, fun H1 ⟨m', S', e, rs, hh⟩ => ?_, fun i H1 x H' hi y m' S' e rs hh => ?_⟩
  · have hi' : i < xs.length := by rw [← r.len]; exact hi
    exact ⟨xs, xs[i], (t.ext e).sq, by simp [hi']⟩
  · exact ⟨xs, (t.ext e).sq, by rw [← r.len]; exact Nat.le_refl _⟩
  · obtain ⟨rfl, y⟩ := y
    have hd : ds[i]? = some (ds[i]'hi) := List.getElem?_eq_getElem hi
    obtain ⟨v, q4, q5⟩ := (Reps.ext e ds r).get hd
    have := y xs (t.ext e).sq
    rw [q4] at this
    cases this
    exact ⟨_, hd, Ext.refl _ _, rs, q5⟩
theorem signs_len (x : Str) : (signs x).length = x.cps.size := by simp [signs]
theorem wd_str {x : Str} : WD K m H (Its x) ⟨[], signs x⟩ := by
  refine ⟨fun i H1 hi _ => by rw [signs_len] at hi; exact hi, fun H1 _ => by show x.cps.size ≤ (signs x).length; rw [signs_len]; exact Nat.le_refl _, fun i H1 v H' hi y m' S' e rs hh => ?_⟩
  obtain ⟨rfl, c, h1, rfl⟩ := y
  refine ⟨.str ⟨#[c]⟩, ?_, Ext.refl _ _, rs, Rep.str_.mpr rfl⟩
  show ((x.cps.toList).map _)[i]? = _
  rw [List.getElem?_map]
  simp [h1]
theorem wd_range {lo : Int} {n : Nat} : WD K m H (Itr lo n) ⟨[], rangeD lo n⟩ := by
  have hl : (rangeD lo n).length = n := by simp [rangeD]
  refine ⟨fun i H1 hi _ => by rw [hl] at hi; exact hi, fun H1 _ => by show n ≤ (rangeD lo n).length; rw [hl]; exact Nat.le_refl _, fun i H1 v H' hi y m' S' e rs hh => ?_⟩
  obtain ⟨rfl, rfl⟩ := y
  refine ⟨.int (lo + i), ?_, Ext.refl _ _, rs, Rep.int_.mpr rfl⟩
  rw [hl] at hi
  simp [rangeD, List.getElem?_map, List.getElem?_range hi]
theorem wd_rangeC {lo c : Int} {n : Nat} : WD K m H (Itc lo c n) ⟨[], rangeC lo c n⟩ := by
  have hl : (rangeC lo c n).length = n := by simp [rangeC]
  refine ⟨fun i H1 hi _ => by rw [hl] at hi; exact hi, fun H1 _ => by show n ≤ (rangeC lo c n).length; rw [hl]; exact Nat.le_refl _, fun i H1 v H' hi y m' S' e rs hh => ?_⟩
  obtain ⟨rfl, rfl⟩ := y
  refine ⟨.int (lo + i * c), ?_, Ext.refl _ _, rs, Rep.int_.mpr rfl⟩
  rw [hl] at hi
  simp [rangeC, List.getElem?_map, List.getElem?_range hi]
theorem numbered_get : ∀ (ds : List D) (k i : Nat), (numbered k ds)[i]? = (ds[i]?).map fun d => .tup [.int ((k + i : Nat)), d]
  | [], k, i => by simp [numbered]
  | d :: ds, k, 0 => by simp [numbered]
  | d :: ds, k, i + 1 => by
    simp only [numbered, List.getElem?_cons_succ]
    rw [numbered_get ds (k + 1) i]
    have : k + 1 + i = k + (i + 1) := by omega
    rw [this]
theorem numbered_len : ∀ (ds : List D) (k : Nat), (numbered k ds).length = ds.length
  | [], k => rfl
  | d :: ds, k => by simp [numbered, numbered_len ds]
/-- a pair that is newly made -/
theorem pair_new {m' : List Addr} {H1 : Hp} {S' : Hs} (rs : RepS K m' H1 S') {T : Addr} {x y : V} {dx dy : D} (h : H1 T = none) (rx : Rep K m' H1 dx x) (ry : Rep K m' H1 dy y) :
    Ext m' m' H1 (upd H1 T (.tup [x, y])) ∧ RepS K m' (upd H1 T (.tup [x, y])) S' ∧ Rep K m' (upd H1 T (.tup [x, y])) (.tup [dx, dy]) (.ref T) := by
  have e := Ext.tupNew (o := HO.tup [x, y]) rs h
  refine ⟨e, rs.tupNew h, Rep.tup_.mpr ⟨T, [x, y], rfl, .inl upd_same, Reps.ext e _ (Reps.cons_.mpr ⟨x, [y], rfl, rx, Reps.one ry⟩)⟩⟩
/-- .. numbered, over anything that is walked in new pairs -/
theorem wd_enum {n : Nat} {a : Addr} {ds : List D} (hn : m[n]? = some a) : WD K m H (Ite K a) ⟨[(n, ds)], numbered 0 ds⟩ := by
  have sq : ∀ {H1 : Hp} {m' : List Addr} {S' : Hs}, Ext m m' H H1 → RepS K m' H1 S' → held S' [(n, ds)] = true → ∃ xs, SqL K H1 a xs ∧ Reps K m' H1 ds xs := by
    intro H1 m' S' e rs hh
    obtain ⟨b, xs, q1, q2, q3⟩ := seqL_rep (v := .ref a) rs (Rep.ref_.mpr ⟨a, e.ix hn, rfl⟩) (held_one hh)
    cases q1
    exact ⟨xs, q2, q3⟩
  refine ⟨fun i H1 hi ⟨m', S', e, rs, hh⟩ => ?_, fun H1 ⟨m', S', e, rs, hh⟩ => ?_, fun i H1 x H' hi y m' S' e rs hh => ?_⟩
  · obtain ⟨xs, q2, q3⟩ := sq e rs hh
    have hi' : i < xs.length := by rw [← q3.len]; simpa [numbered_len] using hi
    exact ⟨xs, xs[i], q2, by simp [hi']⟩
  · obtain ⟨xs, q2, q3⟩ := sq e rs hh
    exact ⟨xs, q2, by show xs.length ≤ (numbered 0 ds).length; rw [numbered_len, ← q3.len]; exact Nat.le_refl _⟩
  · obtain ⟨xs, q2, q3⟩ := sq e rs hh
    obtain ⟨T, z, rfl, hT, rfl, y⟩ := y
    have hi' : i < ds.length := by simpa [numbered_len] using hi
    have hd : ds[i]? = some (ds[i]'hi') := List.getElem?_eq_getElem hi'
    obtain ⟨v, q4, q5⟩ := q3.get hd
    have := y xs q2
    rw [q4] at this
    cases this
    obtain ⟨p1, p2, p3⟩ := pair_new rs hT (dx := .int (i : Nat)) (Rep.int_.mpr rfl) q5
    refine ⟨_, ?_, p1, p2, p3⟩
    show (numbered 0 ds)[i]? = _
    rw [numbered_get, hd]
    simp
theorem pairsUp_get : ∀ (xs ys : List D) (i : Nat) (x y : D), xs[i]? = some x → ys[i]? = some y → (pairsUp xs ys)[i]? = some (.tup [x, y])
  | [], _, i, x, y, h, _ => by simp at h
  | _ :: _, [], i, x, y, _, h => by simp at h
  | a :: xs, b :: ys, 0, x, y, h, h' => by simp at h h'; subst h h'; simp [pairsUp]
  | a :: xs, b :: ys, i + 1, x, y, h, h' => by
    simp only [pairsUp, List.getElem?_cons_succ] at *
    exact pairsUp_get xs ys i x y h h'
theorem pairsUp_len : ∀ (xs ys : List D), (pairsUp xs ys).length = min xs.length ys.length
  | [], _ => by simp [pairsUp]
  | _ :: _, [] => by simp [pairsUp]
  | a :: xs, b :: ys => by simp [pairsUp, pairsUp_len xs ys]
theorem held_app {S' : Hs} {g1 g2 : List (Nat × List D)} (h : held S' (g1 ++ g2) = true) : held S' g1 = true ∧ held S' g2 = true := by
  simpa [held] using h
theorem wd_zip {n1 n2 : Nat} {a b : Addr} {ds es : List D} (h1 : m[n1]? = some a) (h2 : m[n2]? = some b) : WD K m H (Itz K a b) ⟨[(n1, ds)] ++ [(n2, es)], pairsUp ds es⟩ := by
  have sq : ∀ {n : Nat} {a : Addr} {ds : List D} (hn : m[n]? = some a) {H1 : Hp} {m' : List Addr} {S' : Hs}, Ext m m' H H1 → RepS K m' H1 S' → held S' [(n, ds)] = true → ∃ xs, SqL K H1 a xs ∧ Reps K m' H1 ds xs := by
    intro n a ds hn H1 m' S' e rs hh
    obtain ⟨b, xs, q1, q2, q3⟩ := seqL_rep (v := .ref a) rs (Rep.ref_.mpr ⟨a, e.ix hn, rfl⟩) (held_one hh)
    cases q1
    exact ⟨xs, q2, q3⟩
  refine ⟨fun i H1 hi ⟨m', S', e, rs, hh⟩ => ?_, fun H1 ⟨m', S', e, rs, hh⟩ => ?_, fun i H1 x H' hi y m' S' e rs hh => ?_⟩
  · obtain ⟨hh1, hh2⟩ := held_app hh
    obtain ⟨xs, q2, q3⟩ := sq h1 e rs hh1
    obtain ⟨ys, q4, q5⟩ := sq h2 e rs hh2
    have hi' : i < min ds.length es.length := by simpa [pairsUp_len] using hi
    have i1 : i < xs.length := by rw [← q3.len]; omega
    have i2 : i < ys.length := by rw [← q5.len]; omega
    exact ⟨xs, ys, xs[i], ys[i], q2, q4, by simp [i1], by simp [i2]⟩
  · obtain ⟨hh1, hh2⟩ := held_app hh
    obtain ⟨xs, q2, q3⟩ := sq h1 e rs hh1
    obtain ⟨ys, q4, q5⟩ := sq h2 e rs hh2
    refine ⟨xs, ys, q2, q4, ?_⟩
    show xs.length ≤ (pairsUp ds es).length ∨ ys.length ≤ (pairsUp ds es).length
    rw [pairsUp_len, ← q3.len, ← q5.len]
    omega
  · obtain ⟨hh1, hh2⟩ := held_app hh
    obtain ⟨xs, q2, q3⟩ := sq h1 e rs hh1
    obtain ⟨ys, q4, q5⟩ := sq h2 e rs hh2
    obtain ⟨T, z, w, rfl, hT, rfl, y1, y2⟩ := y
    have hi' : i < min ds.length es.length := by simpa [pairsUp_len] using hi
    have hd : ds[i]? = some (ds[i]'(by omega)) := List.getElem?_eq_getElem _
    have he : es[i]? = some (es[i]'(by omega)) := List.getElem?_eq_getElem _
    obtain ⟨v, r1, r2⟩ := q3.get hd
    obtain ⟨u, r3, r4⟩ := q5.get he
    have z1 := y1 xs q2
    have z2 := y2 ys q4
    rw [r1] at z1; rw [r3] at z2
    cases z1; cases z2
    obtain ⟨p1, p2, p3⟩ := pair_new rs hT r2 r4
    exact ⟨_, pairsUp_get ds es i _ _ hd he, p1, p2, p3⟩
end
end RS

namespace RS
open PySem PySem.Spec PyProof.Rows L2
/-! ### enumerate of a tuple, of a text -/
def IteT (K : PySem.W.Frag) (a : Addr) : It :=
  ⟨fun i H => ∃ (xs : List V) (x : V), SqT K H a xs ∧ xs[i]? = some x, fun i H v H' => ∃ T x, v = .ref T ∧ H T = none ∧ H' = upd H T (.tup [.int (i : Nat), x]) ∧ ∀ xs, SqT K H a xs → xs[i]? = some x, fun i H => ∃ xs : List V, SqT K H a xs ∧ xs.length = i⟩
def IteS (z : Str) : It :=
  ⟨fun i _ => i < z.cps.size, fun i H v H' => ∃ T c, v = .ref T ∧ H T = none ∧ H' = upd H T (.tup [.int (i : Nat), .str ⟨#[c]⟩]) ∧ z.cps[i]? = some c, fun i _ => i = z.cps.size⟩
section
variable {P : Program} {w : World} {K : PySem.W.Frag} {elts : List Expr} {kk : Nat} {tpos : Pos}
/-- a pair given out by enumerate, then held by nobody -/
theorem enum_step {X : Cx} {pins : List (Addr × Obj)} {σ : L2.St} {H : Hp} {s : Shared} {e it : Addr} {i : Nat} {x : V} {u : Value} {E : Value → Shared → Prop} {h' : Heap} {tk : Tok} {tn : Heap → Prop} {R : V → Hp → Prop}
    (I : Inv X pins σ H s) (hf : ∀ b ∈ [e, it], FpOk X pins H b) (hel : e < s.heap.objs.size) (hil : it < s.heap.objs.size) (ru : RelV x u)
    (ho : IsEnumOut h' e it ((i : Int) + 1) u s.heap.objs.size) (hT : h'.get? s.heap.objs.size = some { cls := .type "tuple", data := .seq #[.int i tk, u] }) (hk : ∀ b o, b ≠ e → b ≠ it → s.heap.get? b = some o → h'.get? b = some o)
    (htn : ∀ h'', IsEnum h'' e it ((i : Int) + 1) u → (∀ b, b ≠ e → h''.get? b = h'.get? b) → tn h'') (hR : R (.ref s.heap.objs.size) (upd H s.heap.objs.size (.tup [.int (i : Nat), x]))) :
    wpAny (model X.prog X.w) X.A (letOwnedTupleGo (.Tuple elts kk tpos) (.ref e) (.ref s.heap.objs.size)) (fun _ s2 => ∃ x H', Inv X pins σ H' s2 ∧ RelV x (.ref s.heap.objs.size) ∧ R x H' ∧ tn s2.heap ∧ ∀ b ∈ [e, it], H' b = none) E { s with heap := h', toks := tk + 1 } := by
  refine wpAny_letOwnedTupleGo_enum (s := { s with heap := h', toks := tk + 1 }) ho fun h'' he' sb => ?_
  have hT2 : h''.get? s.heap.objs.size = some { cls := .type "tuple", data := .seq #[.int i tk, u] } := (sb.2 _ (Nat.ne_of_gt hel)).trans hT
  have new : ObjOk X.prog X.w (upd H s.heap.objs.size (.tup [.int (i : Nat), x])) h'' s.heap.objs.size (.tup [.int (i : Nat), x]) :=
    ⟨by show 2 ≤ sizeLine; decide, [.int i tk, u], .cons ⟨_, rfl⟩ (.cons ru .nil), ⟨_, hT2, rfl, _, rfl⟩⟩
  have I1 : Inv X pins σ (upd H s.heap.objs.size (.tup [.int (i : Nat), x])) { s with heap := h'', toks := tk + 1 } :=
    I.turnedNew (ch := [e, it]) (fun b ob hb q => (sb.2 b (fun z => hb (by simp [z]))).trans (hk b ob (fun z => hb (by simp [z])) (fun z => hb (by simp [z])) q)) hf (Nat.le_refl _) new
  refine ⟨.ref s.heap.objs.size, _, I1, rfl, hR, htn h'' he' fun b hb => sb.2 b hb, fun b hb => ?_⟩
  have hb' : b < s.heap.objs.size := by
    have e' : b = e ∨ b = it := by simpa using hb
    rcases e' with z | z
    · rw [z]; exact hel
    · rw [z]; exact hil
  rw [upd_ne (Nat.ne_of_lt hb')]
  exact (hf b hb).1
theorem turn_enumT (a e it : Addr) :
    Turn P w K (.Tuple elts kk tpos) (IteT K a) [e, it] e (fun i h => (∃ old, IsEnum h e it ((i : Nat) : Int) old) ∧ h.IsTupleIter it a i ∧ e ≠ it) where
  mem := by simp
  obj := fun i h st b hb => by
    obtain ⟨⟨old, he⟩, ⟨o, ho, hc, hd⟩, _⟩ := st
    have e' : b = e ∨ b = it := by simpa using hb
    rcases e' with z | z
    · rw [z]; exact ⟨_, he, fun v q => nomatch q⟩
    · rw [z]; exact ⟨o, ho, fun v q => by rw [hd] at q; cases q⟩
  keep := fun i h h' st k => let ⟨⟨old, he⟩, hi, hne⟩ := st; ⟨⟨old, k e (by simp) _ he⟩, hi.at fun o q => k it (by simp) o q, hne⟩
  item := by
    intro X hP hw hK hc i pins s σ H E I hf st hg
    subst hP hw hK
    obtain ⟨⟨old, he⟩, hit, hne⟩ := st
    obtain ⟨xs, x, hq, hx⟩ := hg
    obtain ⟨its, rv, p, hz⟩ := I.tuple hq
    obtain ⟨u, hu, ru⟩ := rv.get hx
    have hel : e < s.heap.objs.size := Heap.lt_size he
    have hil : it < s.heap.objs.size := by obtain ⟨_, q, _⟩ := hit; exact Heap.lt_size q
    have hea : e ≠ a := fun z => by
      obtain ⟨o, ho, hc, _⟩ := p
      rw [← z] at ho
      have he2 := he
      unfold IsEnum at he2
      rw [he2] at ho
      cases ho
      exact absurd (show Value.type "enumerate" = Value.type "tuple" from hc) (by decide)
    have hai : a ≠ it := fun z => by
      obtain ⟨o, ho, hc, _⟩ := p
      obtain ⟨o2, ho2, hc2, _⟩ := hit
      rw [z, ho2] at ho
      cases ho
      rw [hc] at hc2
      exact absurd hc2 (by decide)
    have hi : i < its.toArray.size := by
      have := (List.getElem?_eq_some_iff.mp hu).1
      simpa using this
    refine wpAny_pyNext_enum_itemD (Draws.tuple (A := X.A.in1) (I.ok.hd hc) it a hai its.toArray) he ⟨hit, p⟩ hi hne (by simp [hne, hea]) fun y h' tk hy ho hst hT hsz hk => ?_
    have : y = u := by
      have h2 : its.toArray[i]? = some u := by simpa using hu
      rw [h2] at hy
      exact (Option.some.inj hy).symm
    subst this
    refine ⟨_, rfl, enum_step (tn := fun h => (∃ old, IsEnum h e it (((i + 1 : Nat)) : Int) old) ∧ h.IsTupleIter it a (i + 1) ∧ e ≠ it) (R := fun v H' => (IteT X.K a).yld i H v H') I hf hel hil ru ho hT hk (fun h'' q1 q2 => ⟨⟨y, ?_⟩, hst.1.at fun o q => (q2 it (Ne.symm hne)).trans q, hne⟩) ⟨_, x, rfl, I.hok.fresh (Nat.le_refl _), rfl, fun ys hy => by rw [I.tuple_inj hy hq]; exact hx⟩⟩
    have e1 : ((i + 1 : Nat) : Int) = (i : Int) + 1 := by omega
    rw [e1]; exact q1
  done := by
    intro X hP hw hK hc i pins s σ H E I hf st hg
    subst hP hw hK
    obtain ⟨⟨old, he⟩, hit, hne⟩ := st
    obtain ⟨xs, hq, hx⟩ := hg
    obtain ⟨its, rv, p, hz⟩ := I.tuple hq
    obtain ⟨f0, f1, f2, f3, f4, f5⟩ := hf it (by simp)
    have hl := rv.length
    have hai : a ≠ it := fun z => by
      obtain ⟨o, ho, hc, _⟩ := p
      obtain ⟨o2, ho2, hc2, _⟩ := hit
      rw [z, ho2] at ho
      cases ho
      rw [hc] at hc2
      exact absurd hc2 (by decide)
    have hi : i = its.toArray.size := by simp; omega
    subst hi
    exact wpAny_pyNext_enum_endD (Draws.tuple (A := X.A.in1) (I.ok.hd hc) it a hai its.toArray) he ⟨hit, p⟩ fun h' eb => ⟨rfl, I.turned (t' := s.toks) (fun b o hb q => eb b o hb q) f0 f1 f3 f4 f5⟩
  self := fun A i s Q E st h => let ⟨⟨_, he⟩, _⟩ := st; wpAny_pyIter_enum he h
theorem turn_enumS (z : Str) (t : Tok) (e it : Addr) :
    Turn P w K (.Tuple elts kk tpos) (IteS z) [e, it] e (fun i h => (∃ old, IsEnum h e it ((i : Nat) : Int) old) ∧ h.IsStrIter it (strIterType z) z t i ∧ e ≠ it) where
  mem := by simp
  obj := fun i h st b hb => by
    obtain ⟨⟨old, he⟩, ⟨o, ho, hc, hd⟩, _⟩ := st
    have e' : b = e ∨ b = it := by simpa using hb
    rcases e' with z | z
    · rw [z]; exact ⟨_, he, fun v q => nomatch q⟩
    · rw [z]; exact ⟨o, ho, fun v q => by rw [hd] at q; cases q⟩
  keep := fun i h h' st k => let ⟨⟨old, he⟩, hi, hne⟩ := st; ⟨⟨old, k e (by simp) _ he⟩, (let ⟨o, ho, hc, hd⟩ := hi; ⟨o, k it (by simp) o ho, hc, hd⟩), hne⟩
  item := by
    intro X hP hw hK hc i pins s σ H E I hf st hg
    subst hP hw hK
    obtain ⟨⟨old, he⟩, hit, hne⟩ := st
    have hel : e < s.heap.objs.size := Heap.lt_size he
    have hil : it < s.heap.objs.size := by obtain ⟨_, q, _⟩ := hit; exact Heap.lt_size q
    refine wpAny_pyNext_enum_itemD (Draws.text (A := X.A.in1) (I.ok.hd hc) it z t) he hit hg hne (by simp [hne]) fun y h' tk hy ho hst hT hsz hk => ?_
    obtain ⟨c, u, h1, rfl⟩ := hy
    refine ⟨_, rfl, enum_step (x := .str ⟨#[c]⟩) (tn := fun h => (∃ old, IsEnum h e it (((i + 1 : Nat)) : Int) old) ∧ h.IsStrIter it (strIterType z) z t (i + 1) ∧ e ≠ it) (R := fun v H' => (IteS z).yld i H v H') I hf hel hil ⟨_, rfl⟩ ho hT hk (fun h'' q1 q2 => ⟨⟨_, show IsEnum h'' e it (((i + 1 : Nat)) : Int) (.str ⟨#[c]⟩ u) from (by have e1 : ((i + 1 : Nat) : Int) = (i : Int) + 1 := (by omega); rw [e1]; exact q1)⟩, (let ⟨o, ho, hc, hd⟩ := hst; ⟨o, (q2 it (Ne.symm hne)).trans ho, hc, hd⟩), hne⟩) ⟨_, c, rfl, I.hok.fresh (Nat.le_refl _), rfl, h1⟩⟩
  done := by
    intro X hP hw hK hc i pins s σ H E I hf st hg
    subst hP hw hK
    obtain ⟨⟨old, he⟩, hit, hne⟩ := st
    obtain ⟨f0, f1, f2, f3, f4, f5⟩ := hf it (by simp)
    have hi : i = z.cps.size := hg
    subst hi
    exact wpAny_pyNext_enum_endD (Draws.text (A := X.A.in1) (I.ok.hd hc) it z t) he hit fun h' eb => ⟨rfl, I.turned (t' := s.toks) (fun b o hb q => eb b o hb q) f0 f1 f3 f4 f5⟩
  self := fun A i s Q E st h => let ⟨⟨_, he⟩, _⟩ := st; wpAny_pyIter_enum he h
end
end RS
namespace PySem
set_option maxHeartbeats 1000000 in
theorem rs_meets_enumerate_newT (l : Addr) (items : Array Value) (n : Nat) (dct : Option Addr) (sl : Array (Option Value)) :
    Meets (Builtin.«enumerate.__new__» ⟨[.type "enumerate", .ref l], []⟩) (fun _ R s => s.heap.get? l = some { cls := .type "tuple", dict := dct, data := .seq items n, slots := sl } ∧
      R (.ok (.ret (.ref (s.heap.push { cls := .type "tuple_iterator", data := .fields #[.ref l, .int 0 0] }).objs.size)))
        { s with heap := (s.heap.push { cls := .type "tuple_iterator", data := .fields #[.ref l, .int 0 0] }).push { cls := .type "enumerate", data := .fields #[.none, .bool false, .ref s.heap.objs.size, rawInt 0, .none, .none] } }) :=
  .of_wp fun prog w A R s h => by
    obtain ⟨hp, g, d, tk, os⟩ := s
    obtain ⟨hl, h⟩ := h
    have hsub := sub_enumerate
    have hL : Heap.IsTuple hp l items := ⟨_, hl, rfl, n, rfl⟩
    wp_walk using wpAny_loadPart' hl, wpAny_pyIter_tuple hL
    refine wpAny_stack_any fun st => wpAny_pure ?_
    split
    · rename_i c _ _ _ _ _
      cases (c == Value.type "enumerate")
      · wp_walk using wpAny_loadPart' hl, wpAny_pyIter_tuple hL
        exact ⟨_, rfl, h⟩
      · wp_walk using wpAny_loadPart' hl, wpAny_pyIter_tuple hL
        exact ⟨_, rfl, h⟩
    · wp_walk using wpAny_loadPart' hl, wpAny_pyIter_tuple hL
      exact ⟨_, rfl, h⟩
theorem rs_call_enumerate_tuple {prog : Program} {w : World} {A : Around} {E : Value → Shared → Prop} {s : Shared} {l : Addr} {items : Array Value} {Q : Value → Shared → Prop} (hL : s.heap.IsTuple l items)
    (h : ∀ h', IsEnum h' (s.heap.objs.size + 1) s.heap.objs.size 0 .none → h'.IsTupleIter s.heap.objs.size l 0 → h'.objs.size = s.heap.objs.size + 2 →
      (∀ b o, s.heap.get? b = some o → h'.get? b = some o) → Q (.ref (s.heap.objs.size + 1)) { s with heap := h' }) :
    wpAny (model prog w) A (call (.type "enumerate") [.ref l]) Q E s := by
  obtain ⟨⟨c, dct, dt, sl⟩, hl, hc, n, hd⟩ := hL
  replace hc : c = .type "tuple" := hc
  replace hd : dt = .seq items n := hd
  subst hc hd
  refine callType_new F.called_enumerate (by decide) (F.typeCall_enumerate_1 _) (F.newCall_enumerate_1 _) (fun obj => F.args_object_init_2 obj _) F.entry_enumerate_new
    (rs_meets_enumerate_newT l items n dct sl) ⟨hl, ?_⟩
  have hz : (s.heap.push { cls := .type "tuple_iterator", data := .fields #[.ref l, .int 0 0] }).objs.size = s.heap.objs.size + 1 := Heap.size_push ..
  show _ ∧ _
  rw [hz]
  have he : IsEnum ((s.heap.push { cls := .type "tuple_iterator", data := .fields #[.ref l, .int 0 0] }).push
      { cls := .type "enumerate", data := .fields #[.none, .bool false, .ref s.heap.objs.size, rawInt 0, .none, .none] }) (s.heap.objs.size + 1) s.heap.objs.size 0 .none := by
    have := Heap.get?_push_size (s.heap.push { cls := .type "tuple_iterator", data := .fields #[.ref l, .int 0 0] }) (o := { cls := .type "enumerate", data := .fields #[.none, .bool false, .ref s.heap.objs.size, rawInt 0, .none, .none] }) rfl
    rw [hz] at this; exact this
  refine ⟨⟨_, he, rfl⟩, h _ he ⟨_, Heap.get?_push_of_some _ (Heap.get?_push_size _ rfl), rfl, rfl⟩ (by rw [Heap.size_push, hz]) fun b o x => Heap.get?_push_of_some _ (Heap.get?_push_of_some _ x)⟩
end PySem
namespace RS
open PySem PySem.Spec PyProof.Rows L2
/-- enumerate of a list, a tuple, a text -/
def iEnumA (K : PySem.W.Frag) (ta : TA) : TI := fun σ H R => ta σ H fun vs H1 => ∃ x, vs = [x] ∧ ((∃ a xs, x = .ref a ∧ SqL K H1 a xs ∧ R (Ite K a) H1) ∨ (∃ a xs, x = .ref a ∧ SqT K H1 a xs ∧ R (IteT K a) H1) ∨ ∃ z, x = .str z ∧ R (IteS z) H1)
theorem pi_enumA {X : Cx} {e : Expr} {ta : TA} {p pos tpos : Pos} {elts : List Expr} {kk : Nat} (hg : Gl X "enumerate") (hm : X.mg "enumerate" = none) (ha : PA X [e] ta) (hs : starEach [e] X.env = [(false, eval e X.env)]) :
    PI X (.Tuple elts kk tpos) (.Call (.Name "enumerate" p) [e] [] pos) (iEnumA X.K ta) := by
  refine ⟨fun pins s σ H R I h => ?_⟩
  refine Call_ (ld_blt I hg hm boot_enumerate (PyProof.Rows.callWith_type1 (thn (ha.run pos pins s σ H _ I h) fun us s1 ⟨vs, H1, I1, r1, q1⟩ => ?_) hs rfl))
  obtain ⟨x, ex, q⟩ := q1
  subst ex
  cases r1 with
  | cons r rr =>
    cases rr
    have fp2 : ∀ {H2 : Hp} {b : Addr}, b ∈ [s1.heap.objs.size + 1, s1.heap.objs.size] → FpOk X pins H1 b := fun {H2 b} hb => by
      have e' : b = s1.heap.objs.size + 1 ∨ b = s1.heap.objs.size := by simpa using hb
      have hle : s1.heap.objs.size ≤ b := by
        rcases e' with z | z
        · rw [z]; exact Nat.le_add_right _ _
        · rw [z]; exact Nat.le_refl _
      exact I1.fpOk hle (I1.hok.fresh hle)
    rcases q with ⟨a, xs, rfl, hq, q⟩ | ⟨a, xs, rfl, hq, q⟩ | ⟨z, rfl, q⟩
    · cases r
      obtain ⟨its, rv, p', hz⟩ := I1.list hq
      refine call_enumerate_list p'.isList fun h' he hit hsz hk => wpAny_pyIter_enum he ?_
      have I2 : Inv X pins σ H1 { s1 with heap := h' } := I1.kept (t' := s1.toks) hk
      exact ⟨s1.heap.objs.size + 1, [s1.heap.objs.size + 1, s1.heap.objs.size], _, _, H1, rfl, I2, turn_enum a (s1.heap.objs.size + 1) s1.heap.objs.size, ⟨⟨.none, he⟩, hit, Nat.succ_ne_self _⟩, fun b hb => fp2 (H2 := H1) hb, q⟩
    · cases r
      obtain ⟨its, rv, p', hz⟩ := I1.tuple hq
      refine rs_call_enumerate_tuple (show s1.heap.IsTuple a its.toArray from p') fun h' he hit hsz hk => wpAny_pyIter_enum he ?_
      have I2 : Inv X pins σ H1 { s1 with heap := h' } := I1.kept (t' := s1.toks) hk
      exact ⟨s1.heap.objs.size + 1, [s1.heap.objs.size + 1, s1.heap.objs.size], _, _, H1, rfl, I2, turn_enumT a (s1.heap.objs.size + 1) s1.heap.objs.size, ⟨⟨.none, he⟩, hit, Nat.succ_ne_self _⟩, fun b hb => fp2 (H2 := H1) hb, q⟩
    · obtain ⟨t, rfl⟩ := r
      refine call_enumerate_str fun h' he hit hsz hk => wpAny_pyIter_enum he ?_
      have I2 : Inv X pins σ H1 { s1 with heap := h' } := I1.kept (t' := s1.toks) hk
      exact ⟨s1.heap.objs.size + 1, [s1.heap.objs.size + 1, s1.heap.objs.size], _, _, H1, rfl, I2, turn_enumS z t (s1.heap.objs.size + 1) s1.heap.objs.size, ⟨⟨.none, he⟩, hit, Nat.succ_ne_self _⟩, fun b hb => fp2 (H2 := H1) hb, q⟩
end RS

namespace RS
open PySem PySem.Spec L2
variable {Φ : Nat → List D → Hs → R D} {G : Nat → D} {k : Nat}
section
variable {X : Cx} {a b d e tg : Expr} {ia ib id ie itg : E} {pos p : Pos} {es : List Expr} {il : E}
theorem PI.or {t u : TI} (h : PI X tg e t) (h' : PI X tg e u) : PI X tg e (fun σ H R => t σ H R ∨ u σ H R) := ⟨fun pins s σ H R I q => by
  rcases q with q | q
  · exact h.run pins s σ H R I q
  · exact h'.run pins s σ H R I q⟩
theorem mi_val (h : PE X e (mD Φ G X ie)) : PI X tg e (mI Φ G X (.cons ie .nil)) := by
  refine PI.mono (PI.or (pi_list h) (PI.or (pi_tup h) (pi_str h))) fun σ H RR ⟨ρ, S, m, env, rs, q⟩ => ?_
  simp only [denI] at q
  cases ed : den Φ G ie ρ S with
  | ok dd S1 =>
    rw [ed] at q
    simp only [R.bind_ok] at q
    cases dd with
    | tup ds =>
      refine .inr (.inl ⟨ρ, S, m, env, rs, ?_⟩)
      rw [ed]
      intro v m1 H1 e1 rs1 r1
      rw [Rep.tup_] at r1
      obtain ⟨ad, xs, rfl, t, r⟩ := r1
      exact ⟨ad, rfl, ⟨xs, t.sq⟩, q (Itt X.K ad) m1 H1 e1 rs1 (wd_tup t r)⟩
    | str x =>
      refine .inr (.inr ⟨ρ, S, m, env, rs, ?_⟩)
      rw [ed]
      intro v m1 H1 e1 rs1 r1
      rw [Rep.str_] at r1
      exact ⟨x, r1, q (Its x) m1 H1 e1 rs1 wd_str⟩
    | ref n =>
      refine .inl ⟨ρ, S, m, env, rs, ?_⟩
      rw [ed]
      intro v m1 H1 e1 rs1 r1
      have r2 := r1
      rw [Rep.ref_] at r1
      obtain ⟨ad, hn, rfl⟩ := r1
      simp only [srcOf] at q
      split at q
      · rename_i ds hs
        obtain ⟨a', xs, h1, h2, h3⟩ := seqL_rep rs1 r2 (show seqOf S1 (.ref n) = some ds by simp only [seqOf, hs])
        cases h1
        exact ⟨ad, rfl, ⟨xs, h2⟩, q (Itl X.K ad) m1 H1 e1 rs1 (wd_list hn)⟩
      · rename_i ds hs
        obtain ⟨a', xs, h1, h2, h3⟩ := seqL_rep rs1 r2 (show seqOf S1 (.ref n) = some ds by simp only [seqOf, hs])
        cases h1
        exact ⟨ad, rfl, ⟨xs, h2⟩, q (Itl X.K ad) m1 H1 e1 rs1 (wd_list hn)⟩
      · exact q.elim
    | _ => exact q.elim
  | ex => rw [ed] at q; exact q.elim
  | no => rw [ed] at q; exact q.elim
theorem big62_ok {i : Int} (h : big62 i = true) : -(2 ^ 62) ≤ i ∧ i < 2 ^ 62 := by
  simpa [big62] using h
theorem mi_rng1 (hg : Gl X "range") (hm : X.mg "range" = none) (hs : notStar a = true) (ha : PE X a (mD Φ G X ia)) : PI X tg (.Call (.Name "range" p) [a] [] pos) (mI Φ G X (.rng (.cons ia .nil))) := by
  refine PI.mono (pi_range1 hg hm (pa_cons ha pa_nil (star_cons hs)) (star_cons hs)) fun σ H RR ⟨ρ, S, m, env, rs, q⟩ => ?_
  simp only [denI, denL, R.bind_assoc, R.bind_ok] at q
  refine tG_step env rs q fun m1 H1 S1 x v e1 env1 rs1 r1 p1 => ?_
  cases x with
  | int j =>
    rw [Rep.int_] at r1
    subst r1
    simp only [rgD] at p1
    obtain ⟨hb, p1⟩ := p1.ite
    obtain ⟨h1, h2⟩ := big62_ok hb
    exact ⟨j, rfl, h1, h2, p1.ok0 rs1 wd_range⟩
  | _ => exact p1.elim
theorem mi_rng2 (hg : Gl X "range") (hm : X.mg "range" = none) (hs : notStar a = true) (hs2 : notStar b = true) (ha : PE X a (mD Φ G X ia)) (hb : PE X b (mD Φ G X ib)) : PI X tg (.Call (.Name "range" p) [a, b] [] pos) (mI Φ G X (.rng (.cons ia (.cons ib .nil)))) := by
  refine PI.mono (pi_range2 hg hm (pa_cons ha (pa_cons hb pa_nil (star_cons hs2)) (star_cons hs)) (by rw [star_cons hs, star_cons hs2]; rfl) (star_cons hs2)) fun σ H RR ⟨ρ, S, m, env, rs, q⟩ => ?_
  simp only [denI, denL, R.bind_assoc, R.bind_ok] at q
  refine tG_step env rs q fun m1 H1 S1 x v e1 env1 rs1 r1 p1 => tG_step env1 rs1 p1 fun m2 H2 S2 y u e2 env2 rs2 r2 p2 => ?_
  cases x with
  | int i =>
    cases y with
    | int j =>
      rw [Rep.int_] at r1 r2
      subst r1 r2
      simp only [rgD] at p2
      obtain ⟨hb, p2⟩ := p2.ite
      rw [Bool.and_eq_true] at hb
      obtain ⟨h1, h2⟩ := big62_ok hb.1
      obtain ⟨h3, h4⟩ := big62_ok hb.2
      exact ⟨i, j, rfl, ⟨h1, h2, h3, h4⟩, p2.ok0 rs2 wd_range⟩
    | _ => exact p2.elim
  | _ => exact (by cases y <;> exact p2 : False).elim
theorem mi_rng3 (hg : Gl X "range") (hm : X.mg "range" = none) (hs : notStar a = true) (hs2 : notStar b = true) (hs3 : notStar d = true) (ha : PE X a (mD Φ G X ia)) (hb : PE X b (mD Φ G X ib)) (hd : PE X d (mD Φ G X id)) : PI X tg (.Call (.Name "range" p) [a, b, d] [] pos) (mI Φ G X (.rng (.cons ia (.cons ib (.cons id .nil))))) := by
  refine PI.mono (pi_range3 hg hm (pa_cons ha (pa_cons hb (pa_cons hd pa_nil (star_cons hs3)) (star_cons hs2)) (star_cons hs)) (star_cons hs) (star_any fun e' he' => by simp at he'; rcases he' with rfl | rfl <;> assumption)) fun σ H RR ⟨ρ, S, m, env, rs, q⟩ => ?_
  simp only [denI, denL, R.bind_assoc, R.bind_ok] at q
  refine tG_step env rs q fun m1 H1 S1 x v e1 env1 rs1 r1 p1 => tG_step env1 rs1 p1 fun m2 H2 S2 y u e2 env2 rs2 r2 p2 => tG_step env2 rs2 p2 fun m3 H3 S3 z w e3 env3 rs3 r3 p3 => ?_
  cases x with
  | int i =>
    cases y with
    | int j =>
      cases z with
      | int c =>
        rw [Rep.int_] at r1 r2 r3
        subst r1 r2 r3
        simp only [rgD] at p3
        obtain ⟨hb, p3'⟩ := p3.ite
        simp only [Bool.and_eq_true, decide_eq_true_eq] at hb
        obtain ⟨⟨hb1, hb2⟩, hc1⟩ := hb
        subst hc1
        obtain ⟨h1, h2⟩ := big62_ok hb1
        obtain ⟨h3, h4⟩ := big62_ok hb2
        exact ⟨i, j, -1, (i - j).toNat, rfl, RgC.neg h1 h2 h3 h4, Post.ok0 (rel := relI X.K) (a := ⟨[], rangeC i (-1) (i - j).toNat⟩) p3' rs3 wd_rangeC⟩
      | _ => exact p3.elim
    | _ => exact (by cases z <;> exact p3 : False).elim
  | _ => exact (by cases y <;> cases z <;> exact p3 : False).elim
/-- numbered pairs of a tuple, a text -/
theorem wd_enumT {K : PySem.W.Frag} {m : List Addr} {H : Hp} {ad : Addr} {xs : List V} {ds : List D} (t : TupAt K H ad xs) (r : Reps K m H ds xs) : WD K m H (IteT K ad) ⟨[], numbered 0 ds⟩ := by
  refine ⟨fun i H1 hi ⟨m', S', e, rs, hh⟩ => ?_, fun H1 ⟨m', S', e, rs, hh⟩ => ?_, fun i H1 x H' hi y m' S' e rs hh => ?_⟩
  · have hi' : i < xs.length := by rw [← r.len]; simpa [numbered_len] using hi
    exact ⟨xs, xs[i], (t.ext e).sq, by simp [hi']⟩
  · exact ⟨xs, (t.ext e).sq, by show xs.length = (numbered 0 ds).length; rw [numbered_len, ← r.len]⟩
  · obtain ⟨T, z, rfl, hT, rfl, y⟩ := y
    have hi' : i < ds.length := by simpa [numbered_len] using hi
    have hd : ds[i]? = some (ds[i]'hi') := List.getElem?_eq_getElem hi'
    obtain ⟨v, q4, q5⟩ := (Reps.ext e ds r).get hd
    have := y xs (t.ext e).sq
    rw [q4] at this
    cases this
    obtain ⟨p1, p2, p3⟩ := pair_new rs hT (dx := .int (i : Nat)) (Rep.int_.mpr rfl) q5
    refine ⟨_, ?_, p1, p2, p3⟩
    show (numbered 0 ds)[i]? = _
    rw [numbered_get, hd]
    simp
theorem wd_enumS {K : PySem.W.Frag} {m : List Addr} {H : Hp} {z : Str} : WD K m H (IteS z) ⟨[], numbered 0 (signs z)⟩ := by
  refine ⟨fun i H1 hi _ => by show i < z.cps.size; simpa [numbered_len, signs_len] using hi, fun H1 _ => by show (numbered 0 (signs z)).length = z.cps.size; rw [numbered_len, signs_len], fun i H1 x H' hi y m' S' e rs hh => ?_⟩
  obtain ⟨T, c, rfl, hT, rfl, y⟩ := y
  obtain ⟨p1, p2, p3⟩ := pair_new rs hT (dx := .int (i : Nat)) (dy := .str ⟨#[c]⟩) (Rep.int_.mpr rfl) (Rep.str_.mpr rfl)
  refine ⟨_, ?_, p1, p2, p3⟩
  show (numbered 0 (signs z))[i]? = _
  rw [numbered_get]
  simp [signs, y]
theorem mi_enm {elts : List Expr} {kk : Nat} {tpos : Pos} (hg : Gl X "enumerate") (hm : X.mg "enumerate" = none) (hs : notStar a = true) (ha : PE X a (mD Φ G X ia)) : PI X (.Tuple elts kk tpos) (.Call (.Name "enumerate" p) [a] [] pos) (mI Φ G X (.enm (.cons ia .nil))) := by
  refine PI.mono (pi_enumA hg hm (pa_cons ha pa_nil (star_cons hs)) (star_cons hs)) fun σ H RR ⟨ρ, S, m, env, rs, q⟩ => ?_
  simp only [denI, denL, R.bind_assoc, R.bind_ok] at q
  refine tG_step env rs q fun m1 H1 S1 x v e1 env1 rs1 r1 p1 => ?_
  refine ⟨v, rfl, ?_⟩
  simp only [enD] at p1
  cases x with
  | tup ds =>
    rw [Rep.tup_] at r1
    obtain ⟨ad, xs, rfl, t, r⟩ := r1
    exact .inr (.inl ⟨ad, xs, rfl, t.sq, p1.ok0 rs1 (wd_enumT t r)⟩)
  | str z =>
    rw [Rep.str_] at r1
    exact .inr (.inr ⟨z, r1, p1.ok0 rs1 wd_enumS⟩)
  | ref n =>
    have r2 := r1
    rw [Rep.ref_] at r1
    obtain ⟨ad, hn, rfl⟩ := r1
    have go : ∀ ds, seqOf S1 (.ref n) = some ds → Post X.K m1 H1 (relI X.K) (.ok ⟨[(n, ds)], numbered 0 ds⟩ S1) RR → ∃ a xs, V.ref ad = V.ref a ∧ SqL X.K H1 a xs ∧ RR (Ite X.K a) H1 := by
      intro ds hs p1
      obtain ⟨a', xs, h1, h2, h3⟩ := seqL_rep rs1 r2 hs
      cases h1
      exact ⟨ad, xs, rfl, h2, p1.ok0 rs1 (wd_enum hn)⟩
    simp only [srcOf] at p1
    cases es : S1[n]? with
    | none => rw [es] at p1; exact p1.elim
    | some o =>
      rw [es] at p1
      cases o with
      | lst ds => exact .inl (go ds (by simp only [seqOf, es]) p1)
      | scr ds => exact .inl (go ds (by simp only [seqOf, es]) p1)
      | dct => exact p1.elim
      | dlk => exact p1.elim
      | ins => exact p1.elim
  | _ => exact p1.elim

/-! ### for -/
/-- what is wanted behind a block, by the meaning -/
def PostF (K : PySem.W.Frag) (m : List Addr) (H : Hp) (r : R Fl) (D' : Ends) : Prop := match r with
  | .ok f S => ∀ m' H', Ext m m' H H' → RepS K m' H' S → match f with
    | .nx ρ => ∀ σ, EnvR K m' H' ρ σ → D'.nx σ H'
    | .rt d => ∀ v, Rep K m' H' d v → D'.rt v H'
    | .bk ρ => ∀ σ, EnvR K m' H' ρ σ → D'.bk σ H'
    | .ct ρ => ∀ σ, EnvR K m' H' ρ σ → D'.ct σ H'
  | _ => False
def tC_ (K : PySem.W.Frag) (f : Rho → Hs → R Fl) : TS := fun D' σ H => ∃ ρ S m, EnvR K m H ρ σ ∧ RepS K m H S ∧ PostF K m H (f ρ S) D'
abbrev mC (Φ : Nat → List D → Hs → R D) (G : Nat → D) (W : Nat) (X : Cx) (c : C) : TS := tC_ X.K (exec Φ G W c)
theorem PostF.ext {K : PySem.W.Frag} {m m' : List Addr} {H H' : Hp} {r : R Fl} {D' : Ends} (e : Ext m m' H H') (h : PostF K m H r D') : PostF K m' H' r D' := by
  cases r with
  | ok f S =>
    intro m2 H2 e2 rs2
    exact h m2 H2 (e.trans e2) rs2
  | ex => exact h
  | no => exact h
theorem PostF.bind {K : PySem.W.Frag} {m : List Addr} {H : Hp} {γ δ : Type} {relF : List Addr → Hp → γ → δ → Prop} {r : R γ} {g : γ → Hs → R Fl} {D' : Ends} (h : PostF K m H (r.bind g) D') {Q' : δ → Hp → Prop}
    (kk : ∀ m1 H1 S1 a b, Ext m m1 H H1 → RepS K m1 H1 S1 → relF m1 H1 a b → PostF K m1 H1 (g a S1) D' → Q' b H1) : Post K m H relF r Q' := by
  cases r with
  | ok a S => exact fun b m1 H1 e1 rs1 rl => kk m1 H1 S a b e1 rs1 rl (PostF.ext e1 h)
  | ex => exact h
  | no => exact h
theorem tF_step {K : PySem.W.Frag} {m : List Addr} {H : Hp} {ρ : Rho} {σ : St} {S : Hs} {γ δ : Type} {relF : List Addr → Hp → γ → δ → Prop} {f : Rho → Hs → R γ} {g : γ → Hs → R Fl} {D' : Ends} {Q' : δ → Hp → Prop} (env : EnvR K m H ρ σ) (rs : RepS K m H S)
    (h : PostF K m H ((f ρ S).bind g) D')
    (kk : ∀ m1 H1 S1 a b, Ext m m1 H H1 → EnvR K m1 H1 ρ σ → RepS K m1 H1 S1 → relF m1 H1 a b → PostF K m1 H1 (g a S1) D' → Q' b H1) : tG K relF f σ H Q' :=
  ⟨ρ, S, m, env, rs, h.bind fun m1 H1 S1 a b e rs1 rl p => kk m1 H1 S1 a b e (env.ext e) rs1 rl p⟩
theorem tFT_step {K : PySem.W.Frag} {m : List Addr} {H : Hp} {ρ : Rho} {σ : St} {S : Hs} {f : Rho → Hs → R D} {A B : Hs → R Fl} {D' : Ends} {Q' : Bool → Hp → Prop} (env : EnvR K m H ρ σ) (rs : RepS K m H S)
    (h : PostF K m H ((f ρ S).bind fun x S1 => tst x (A S1) (B S1)) D')
    (kk : ∀ m1 H1 S1 b, Ext m m1 H H1 → EnvR K m1 H1 ρ σ → RepS K m1 H1 S1 → PostF K m1 H1 (if b = true then A S1 else B S1) D' → Q' b H1) : tDT K f σ H Q' := by
  refine ⟨ρ, S, m, env, rs, ?_⟩
  cases e : f ρ S with
  | ok d S1 =>
    rw [e] at h
    simp only [R.bind_ok] at h
    cases d with
    | bl b =>
      rw [tst_bl] at h
      exact ⟨b, rfl, fun m1 H1 e1 rs1 => kk m1 H1 S1 b e1 (env.ext e1) rs1 (PostF.ext e1 h)⟩
    | _ => exact h.elim
  | ex => rw [e] at h; exact h
  | no => rw [e] at h; exact h
theorem PostF.ite {K : PySem.W.Frag} {m : List Addr} {H : Hp} {c : Prop} [Decidable c] {r : R Fl} {D' : Ends} (h : PostF K m H (if c then r else .no) D') : c ∧ PostF K m H r D' := by
  by_cases e : c
  · rw [if_pos e] at h; exact ⟨e, h⟩
  · rw [if_neg e] at h; exact h.elim
/-- a block's run, then more -/
theorem PostF.then {K : PySem.W.Frag} {m : List Addr} {H : Hp} {r : R Fl} {g : Fl → Hs → R Fl} {D1 D' : Ends} (h : PostF K m H (r.bind g) D')
    (kk : ∀ m1 H1 S1 f, Ext m m1 H H1 → RepS K m1 H1 S1 → PostF K m1 H1 (g f S1) D' → match f with
      | .nx ρ => ∀ σ, EnvR K m1 H1 ρ σ → D1.nx σ H1
      | .rt d => ∀ v, Rep K m1 H1 d v → D1.rt v H1
      | .bk ρ => ∀ σ, EnvR K m1 H1 ρ σ → D1.bk σ H1
      | .ct ρ => ∀ σ, EnvR K m1 H1 ρ σ → D1.ct σ H1) : PostF K m H r D1 := by
  cases r with
  | ok f S => exact fun m1 H1 e1 rs1 => kk m1 H1 S f e1 rs1 (PostF.ext e1 h)
  | ex => exact h
  | no => exact h
theorem ms_for {W : Nat} {body : List Stmt} {cb : C} (hp : PassesOwn (model X.prog X.w) X.A X.env X.xe) (hc : X.calm = true) (hi : PI X tg e (mI Φ G X ie)) (hg : PG X tg (mG Φ G X itg)) (hb : PSs X body (mC Φ G W X cb)) (hs : notSet e = true) :
    PS X (.For tg e body [] pos) (mC Φ G W X (.for_ itg ie cb)) := by
  refine PS.mono (ps_for hp hc hi hg hb (not_set hs)) fun D' σ H ⟨ρ, S, m, env, rs, q⟩ => ?_
  simp only [exec] at q
  refine tF_step (relF := relI X.K) env rs q fun m1 H1 S1 src J e1 env1 rs1 wd p1 => ?_
  let turn : D → Rho → Hs → R Fl := fun d ρ' S' => (denG Φ G itg d ρ' S').bind fun ρ1 S2 => exec Φ G W cb ρ1 S2
  refine ⟨fun i k σ H => k = src.its.length - i ∧ i ≤ src.its.length ∧ ∃ ρ' S' m', Ext m1 m' H1 H ∧ EnvR X.K m' H ρ' σ ∧ RepS X.K m' H S' ∧ PostF X.K m' H (forGo src.gs turn (src.its.drop i) ρ' S') D',
    ⟨_, rfl, Nat.zero_le _, ρ, S1, m1, Ext.refl _ _, env1, rs1, p1⟩, ?_⟩
  rintro i k' σ H ⟨rfl, hi, ρ', S', m', e', env', rs', p'⟩
  by_cases hlt : i < src.its.length
  · rw [List.drop_eq_getElem_cons hlt] at p'
    simp only [forGo] at p'
    obtain ⟨hh, p'⟩ := p'.ite
    have gd : Gd X.K m1 H1 src.gs H := ⟨m', S', e', rs', hh⟩
    refine .inr ⟨wd.goes i H hlt gd, fun σ' H' => ∃ ρ' S' m', Ext m1 m' H1 H' ∧ EnvR X.K m' H' ρ' σ' ∧ RepS X.K m' H' S' ∧ PostF X.K m' H' (forGo src.gs turn (src.its.drop (i + 1)) ρ' S') D', fun σ' H' h => ⟨src.its.length - (i + 1), by omega, rfl, hlt, h⟩, fun x H' y => ?_⟩
    obtain ⟨d, hd, e2, rs2, r2⟩ := wd.yields i H x H' hlt y m' S' e' rs' hh
    have hd' : src.its[i] = d := by
      rw [List.getElem?_eq_getElem hlt] at hd
      exact Option.some.inj hd
    rw [hd'] at p'
    have p2 := PostF.ext e2 p'
    simp only [turn, R.bind_assoc] at p2
    refine ⟨d, ρ', S', m', env'.ext e2, rs2, r2, p2.bind fun m3 H3 S3 ρ3 σ3 e3 rs3 env3 p3 => ⟨ρ3, S3, m3, env3.1, rs3, p3.then fun m4 H4 S4 f e4 rs4 p4 => ?_⟩⟩
    have e5 : Ext m1 m4 H1 H4 := e'.trans (e2.trans (e3.trans e4))
    cases f with
    | nx ρ4 => exact fun σ4 env4 => ⟨ρ4, S4, m4, e5, env4, rs4, p4⟩
    | ct ρ4 => exact fun σ4 env4 => ⟨ρ4, S4, m4, e5, env4, rs4, p4⟩
    | bk ρ4 => exact fun σ4 env4 => p4 m4 H4 (Ext.refl _ _) rs4 σ4 env4
    | rt v => exact fun w r4 => p4 m4 H4 (Ext.refl _ _) rs4 w r4
  · have ei : i = src.its.length := by omega
    subst ei
    rw [List.drop_length] at p'
    simp only [forGo] at p'
    obtain ⟨hh, p'⟩ := p'.ite
    exact .inl ⟨wd.stops H ⟨m', S', e', rs', hh⟩, p' m' H (Ext.refl _ _) rs' σ env'⟩

/-! ### other statements -/
section
variable {W : Nat} {ca cb : C}
theorem mss_nil : PSs X [] (mC Φ G W X .nil) := PSs.mono pss_nil fun D' σ H ⟨ρ, S, m, env, rs, q⟩ => by
  simp only [exec] at q
  exact q m H (Ext.refl _ _) rs σ env
theorem mss_cons {st : Stmt} {sts : List Stmt} (h1 : PS X st (mC Φ G W X ca)) (h2 : PSs X sts (mC Φ G W X cb)) : PSs X (st :: sts) (mC Φ G W X (.cons ca cb)) := by
  refine PSs.mono (pss_cons h1 h2) fun D' σ H ⟨ρ, S, m, env, rs, q⟩ => ?_
  simp only [exec] at q
  refine ⟨ρ, S, m, env, rs, q.then fun m1 H1 S1 f e1 rs1 p1 => ?_⟩
  cases f with
  | nx ρ1 => exact fun σ1 env1 => ⟨ρ1, S1, m1, env1, rs1, p1⟩
  | rt v => exact p1 m1 H1 (Ext.refl _ _) rs1
  | bk ρ1 => exact p1 m1 H1 (Ext.refl _ _) rs1
  | ct ρ1 => exact p1 m1 H1 (Ext.refl _ _) rs1
/-- the store of a value into a target -/
theorem asg_of {σ : St} {H : Hp} {D' : Ends} (h : mC Φ G W X (.asg itg ie) D' σ H) : tAsg (mD Φ G X ie) (mG Φ G X itg) D' σ H := by
  obtain ⟨ρ, S, m, env, rs, q⟩ := h
  simp only [exec] at q
  refine tF_step env rs q fun m1 H1 S1 x v e1 env1 rs1 r1 p1 => ?_
  exact ⟨x, ρ, S1, m1, env1, rs1, r1, p1.bind fun m2 H2 S2 ρ2 σ2 e2 rs2 env2 p2 => p2 m2 H2 (Ext.refl _ _) rs2 σ2 env2.1⟩
theorem ms_asg (he : PE X e (mD Φ G X ie)) (hg : PG X tg (mG Φ G X itg)) (hs : swapsWithSole [tg] e pos.line X.env = pure false) (hw : swappedStores [tg] e X.env = pure none) (ht : notStar tg = true) : PS X (.Assign [tg] e pos) (mC Φ G W X (.asg itg ie)) :=
  PS.mono (ps_asg he hg hs hw (by cases tg <;> first | rfl | (simp [notStar] at ht))) fun _ _ _ h => asg_of h
theorem ms_exp (he : PE X e (mD Φ G X ie)) (hs : notComp e = true) : PS X (.Expr e pos) (mC Φ G W X (.exp ie)) := by
  refine PS.mono (ps_expr he (not_comp hs)) fun D' σ H ⟨ρ, S, m, env, rs, q⟩ => ?_
  simp only [exec] at q
  exact tF_step env rs q fun m1 H1 S1 x v e1 env1 rs1 r1 p1 => p1 m1 H1 (Ext.refl _ _) rs1 σ env1
theorem ms_ret (he : PE X e (mD Φ G X ie)) : PS X (.Return (some e) pos) (mC Φ G W X (.ret ie)) := by
  refine PS.mono (ps_ret he) fun D' σ H ⟨ρ, S, m, env, rs, q⟩ => ?_
  simp only [exec] at q
  exact tF_step env rs q fun m1 H1 S1 x v e1 env1 rs1 r1 p1 => p1 m1 H1 (Ext.refl _ _) rs1 v r1
theorem ms_retN : PS X (.Return none pos) (mC Φ G W X .retN) := PS.mono ps_retN fun D' σ H ⟨ρ, S, m, env, rs, q⟩ => by
  simp only [exec] at q
  exact q m H (Ext.refl _ _) rs .non (Rep.non_.mpr rfl)
theorem ms_pas : PS X (.Pass pos) (mC Φ G W X .pas) := PS.mono ps_pass fun D' σ H ⟨ρ, S, m, env, rs, q⟩ => by
  simp only [exec] at q
  exact q m H (Ext.refl _ _) rs σ env
theorem ms_brk : PS X (.Break pos) (mC Φ G W X .brk) := PS.mono ps_break fun D' σ H ⟨ρ, S, m, env, rs, q⟩ => by
  simp only [exec] at q
  exact q m H (Ext.refl _ _) rs σ env
theorem ms_cnt : PS X (.Continue pos) (mC Φ G W X .cnt) := PS.mono ps_continue fun D' σ H ⟨ρ, S, m, env, rs, q⟩ => by
  simp only [exec] at q
  exact q m H (Ext.refl _ _) rs σ env
theorem ms_ife {sa sb : List Stmt} (he : PT X e (mT Φ G X ie)) (ha : PSs X sa (mC Φ G W X ca)) (hb : PSs X sb (mC Φ G W X cb)) : PS X (.If e sa sb pos) (mC Φ G W X (.ife ie ca cb)) := by
  refine PS.mono (ps_if he ha hb) fun D' σ H ⟨ρ, S, m, env, rs, q⟩ => ?_
  simp only [exec] at q
  refine tFT_step env rs q fun m1 H1 S1 c e1 env1 rs1 p1 => ?_
  cases c with
  | true => rw [if_pos rfl] at p1 ⊢; exact ⟨ρ, S1, m1, env1, rs1, p1⟩
  | false => rw [if_neg Bool.false_ne_true] at p1 ⊢; exact ⟨ρ, S1, m1, env1, rs1, p1⟩
theorem ms_whl {sa : List Stmt} (hp : PassesOwn (model X.prog X.w) X.A X.env X.xe) (he : PT X e (mT Φ G X ie)) (ha : PSs X sa (mC Φ G W X ca)) : PS X (.While e sa [] pos) (mC Φ G W X (.whl ie ca)) := by
  refine PS.mono (ps_while hp he ha) fun D' σ H ⟨ρ, S, m, env, rs, q⟩ => ?_
  simp only [exec] at q
  refine ⟨fun n σ H => ∃ ρ S m, EnvR X.K m H ρ σ ∧ RepS X.K m H S ∧ PostF X.K m H (whlGo (den Φ G ie) (exec Φ G W ca) n ρ S) D', ⟨W, ρ, S, m, env, rs, q⟩, ?_⟩
  rintro n σ H ⟨ρ, S, m, env, rs, q⟩
  cases n with
  | zero => exact q.elim
  | succ n =>
    simp only [whlGo] at q
    refine tFT_step env rs q fun m1 H1 S1 c e1 env1 rs1 p1 => ?_
    cases c with
    | true =>
      rw [if_pos rfl] at p1 ⊢
      refine ⟨fun σ' H' => ∃ ρ S m, EnvR X.K m H' ρ σ' ∧ RepS X.K m H' S ∧ PostF X.K m H' (whlGo (den Φ G ie) (exec Φ G W ca) n ρ S) D', fun σ' H' h => ⟨n, Nat.lt_succ_self _, h⟩, ρ, S1, m1, env1, rs1, p1.then fun m2 H2 S2 f e2 rs2 p2 => ?_⟩
      cases f with
      | nx ρ2 => exact fun σ2 env2 => ⟨ρ2, S2, m2, env2, rs2, p2⟩
      | ct ρ2 => exact fun σ2 env2 => ⟨ρ2, S2, m2, env2, rs2, p2⟩
      | bk ρ2 => exact fun σ2 env2 => p2 m2 H2 (Ext.refl _ _) rs2 σ2 env2
      | rt v => exact fun w r4 => p2 m2 H2 (Ext.refl _ _) rs2 w r4
    | false =>
      rw [if_neg Bool.false_ne_true] at p1 ⊢
      exact p1 m1 H1 (Ext.refl _ _) rs1 σ env1
/-- x op= e -/
theorem ms_aug {o : Operator} {o' : Bop} (ho : (o = .Add ∧ o' = .add) ∨ (o = .Sub ∧ o' = .sub)) {i : Nat} {x : Str} (hN : X.N.Nodup) (hi : X.N[i]? = some x) (hx : Loc X.env.scope x) (hf : X.fn x = true ∨ X.env.scope.names.lookup x = some .local) (he : PE X e (mD Φ G X ie)) : PS X (.AugAssign (.Name x p) o e pos) (mC Φ G W X (.aug i o' ie)) := by
  rcases ho with ⟨rfl, rfl⟩ | ⟨rfl, rfl⟩
  all_goals
    refine PS.mono (ps_aug hN hi hx he (by first | exact ip_add | exact ip_sub) hf) fun D' σ H ⟨ρ, S, m, env, rs, q⟩ => ?_
    simp only [exec] at q
    split at q
    · rename_i d hd
      obtain ⟨v, hv, r⟩ := env.2 i d hd
      refine ⟨v, hv, tF_step env rs q fun m1 H1 S1 y u e1 env1 rs1 r1 p1 => ?_⟩
      have r := Rep.ext e1 d r
      cases d <;> cases y <;> first | exact p1.elim | skip
      rw [Rep.int_] at r r1
      exact ⟨_, _, r, r1, p1 m1 H1 (Ext.refl _ _) rs1 _ (env1.set (Rep.int_.mpr rfl))⟩
    · exact q.elim
theorem denG2 {i j : Nat} {x y : D} {ρ : Rho} {S : Hs} : denG Φ G (.tup (.cons (.var i) (.cons (.var j) .nil))) (.tup [x, y]) ρ S = if i < ρ.length then (if j < ρ.length then .ok ((ρ.set i (some x)).set j (some y)) S else .no) else .no := by
  have h : [x, y].length = cnt (.cons (.var i) (.cons (.var j) .nil)) := rfl
  simp only [denG, if_pos h, denGs]
  by_cases hi : i < ρ.length
  · rw [if_pos hi, if_pos hi, R.bind_ok, List.length_set]
    by_cases hj : j < ρ.length
    · rw [if_pos hj]; rfl
    · rw [if_neg hj]; rfl
  · rw [if_neg hi, if_neg hi]; rfl
theorem denG3 {i j l : Nat} {x y z : D} {ρ : Rho} {S : Hs} : denG Φ G (.tup (.cons (.var i) (.cons (.var j) (.cons (.var l) .nil)))) (.tup [x, y, z]) ρ S = if i < ρ.length then (if j < ρ.length then (if l < ρ.length then .ok (((ρ.set i (some x)).set j (some y)).set l (some z)) S else .no) else .no) else .no := by
  have h : [x, y, z].length = cnt (.cons (.var i) (.cons (.var j) (.cons (.var l) .nil))) := rfl
  simp only [denG, if_pos h, denGs]
  by_cases hi : i < ρ.length
  · rw [if_pos hi, if_pos hi, R.bind_ok, List.length_set]
    by_cases hj : j < ρ.length
    · rw [if_pos hj, if_pos hj, R.bind_ok, List.length_set, List.length_set]
      by_cases hl : l < ρ.length
      · rw [if_pos hl]; rfl
      · rw [if_neg hl]; rfl
    · rw [if_neg hj, if_neg hj]; rfl
  · rw [if_neg hi, if_neg hi]; rfl
theorem lim2 {x y : D} {S : Hs} : lim [x, y].length (.ok (D.tup [x, y]) S) = .ok (D.tup [x, y]) S := if_pos (by show 2 ≤ sizeLine; decide)
theorem lim3 {x y z : D} {S : Hs} : lim [x, y, z].length (.ok (D.tup [x, y, z]) S) = .ok (D.tup [x, y, z]) S := if_pos (by show 3 ≤ sizeLine; decide)
theorem PostF.biteF {K : PySem.W.Frag} {m : List Addr} {H : Hp} {c : Prop} [Decidable c] {r : R Rho} {g : Rho → Hs → R Fl} {D' : Ends} (h : PostF K m H ((if c then r else .no).bind g) D') : PostF K m H (r.bind g) D' := by
  by_cases e : c
  · rw [if_pos e] at h; exact h
  · rw [if_neg e] at h; exact h.elim
/-- a, b = x, y: no pair is made -/
theorem ms_par {i j : Nat} {x y : Str} {px py pt pt2 : Pos} {kt k2 : Nat} (hc : X.calm = true) (hN : X.N.Nodup) (hi : X.N[i]? = some x) (hj : X.N[j]? = some y) (hij : i ≠ j) (hx : X.env.scope.names.lookup x = some .local) (hy : X.env.scope.names.lookup y = some .local)
    (hsa : notStar a = true) (hsb : notStar b = true) (ha : PE X a (mD Φ G X ia)) (hb : PE X b (mD Φ G X ib)) (hw : swappedStores [.Tuple [.Name x px, .Name y py] kt pt] (.Tuple [a, b] k2 pt2) X.env = pure (some [x, y])) :
    PS X (.Assign [.Tuple [.Name x px, .Name y py] kt pt] (.Tuple [a, b] k2 pt2) pos) (mC Φ G W X (.asg (.tup (.cons (.var i) (.cons (.var j) .nil))) (.tup (.cons ia (.cons ib .nil))))) := by
  refine PS.mono (ps_par hc hN hi hj hij hx hy (pa_cons ha (pa_cons hb pa_nil (star_cons hsb)) (star_cons hsa)) hw) fun D' σ H ⟨ρ, S, m, env, rs, q⟩ => ?_
  simp only [exec, den, denL, R.bind_assoc, R.bind_ok] at q
  refine tF_step env rs q fun m1 H1 S1 x v e1 env1 rs1 r1 p1 => tF_step env1 rs1 p1 fun m2 H2 S2 y u e2 env2 rs2 r2 p2 => ?_
  refine ⟨v, u, rfl, ?_⟩
  rw [lim2, R.bind_ok, denG2] at p2
  have p2 := p2.biteF.biteF
  exact p2 m2 H2 (Ext.refl _ _) rs2 _ ((env2.set (Rep.ext e2 x r1)).set r2)
theorem ms_par3 {i j l : Nat} {x y z : Str} {px py pz pt pt2 : Pos} {kt k2 : Nat} (hc : X.calm = true) (hN : X.N.Nodup) (hi : X.N[i]? = some x) (hj : X.N[j]? = some y) (hl : X.N[l]? = some z) (hij : i ≠ j) (hil : i ≠ l) (hjl : j ≠ l) (hx : X.env.scope.names.lookup x = some .local) (hy : X.env.scope.names.lookup y = some .local) (hz : X.env.scope.names.lookup z = some .local)
    (hsa : notStar a = true) (hsb : notStar b = true) (hsd : notStar d = true) (ha : PE X a (mD Φ G X ia)) (hb : PE X b (mD Φ G X ib)) (hd : PE X d (mD Φ G X id)) (hw : swappedStores [.Tuple [.Name x px, .Name y py, .Name z pz] kt pt] (.Tuple [a, b, d] k2 pt2) X.env = pure (some [x, y, z])) :
    PS X (.Assign [.Tuple [.Name x px, .Name y py, .Name z pz] kt pt] (.Tuple [a, b, d] k2 pt2) pos) (mC Φ G W X (.asg (.tup (.cons (.var i) (.cons (.var j) (.cons (.var l) .nil)))) (.tup (.cons ia (.cons ib (.cons id .nil)))))) := by
  refine PS.mono (ps_par3 hc hN hi hj hl hij hil hjl hx hy hz (pa_cons ha (pa_cons hb (pa_cons hd pa_nil (star_cons hsd)) (star_cons hsb)) (star_cons hsa)) hw) fun D' σ H ⟨ρ, S, m, env, rs, q⟩ => ?_
  simp only [exec, den, denL, R.bind_assoc, R.bind_ok] at q
  refine tF_step env rs q fun m1 H1 S1 x v e1 env1 rs1 r1 p1 => tF_step env1 rs1 p1 fun m2 H2 S2 y u e2 env2 rs2 r2 p2 => tF_step env2 rs2 p2 fun m3 H3 S3 z w e3 env3 rs3 r3 p3 => ?_
  refine ⟨v, u, w, rfl, ?_⟩
  rw [lim3, R.bind_ok, denG3] at p3
  have p3 := p3.biteF.biteF.biteF
  exact p3 m3 H3 (Ext.refl _ _) rs3 _ (((env3.set (Rep.ext (e2.trans e3) x r1)).set (Rep.ext e3 y r2)).set r3)
end
end
end RS

namespace RS
open PySem PySem.Spec L2
variable {Φ : Nat → List D → Hs → R D} {G : Nat → D} {k : Nat}
/-! ### comprehensions -/
section
variable {K : PySem.W.Frag} {m m' : List Addr} {H H' : Hp} {S : Hs}
/-- a list that is not numbered changes -/
theorem Ext0.side {d : Addr} {xs ys : List V} (h : H d = some (.lst xs)) : Ext0 m m H (upd H d (.lst ys)) := ⟨fun h => h, fun a zs e => by
  rw [upd_ne (ne_of e h (by intro z; cases z))]
  exact e⟩
theorem RepS.side (rs : RepS K m H S) {d : Addr} {xs ys : List V} (h : H d = some (.lst xs)) (hd : d ∉ m) : RepS K m (upd H d (.lst ys)) S := by
  refine ⟨rs.len, rs.inj, fun n u a e1 e2 => (rs.obj n u a e1 e2).ext0 (Ext0.side h) (upd_ne fun q => hd (q ▸ List.mem_of_getElem? e2))⟩
/-- what was side is numbered -/
theorem RepS.adopt (rs : RepS K m H S) {d : Addr} {xs : List V} {ds : List D} (h : H d = some (.lst xs)) (hd : d ∉ m) (r : Reps K m H ds xs) : RepS K (m ++ [d]) H (S ++ [.lst ds]) := by
  have e : Ext0 m (m ++ [d]) H H := ⟨fun {n a} h => by rw [List.getElem?_append_left (List.getElem?_eq_some_iff.mp h).1]; exact h, fun _ _ e => e⟩
  refine ⟨by simp [rs.len], ?_, fun n v a e1 e2 => ?_⟩
  · rw [List.nodup_append]
    exact ⟨rs.inj, by simp, fun a ha b hb => by simp at hb; rw [hb]; exact fun q => hd (q ▸ ha)⟩
  · by_cases hn : n < S.length
    · rw [List.getElem?_append_left hn] at e1
      rw [List.getElem?_append_left (by rw [rs.len]; exact hn)] at e2
      exact (rs.obj n v a e1 e2).ext0 e rfl
    · have hn2 : n = S.length := by
        have := (List.getElem?_eq_some_iff.mp e1).1
        simp at this
        omega
      subst hn2
      rw [List.getElem?_append_right (Nat.le_refl _)] at e1
      rw [List.getElem?_append_right (by rw [rs.len]; exact Nat.le_refl _)] at e2
      simp [rs.len] at e1 e2
      rw [← e1, ← e2]
      exact ⟨xs, h, Reps.ext0 e ds r⟩
theorem Ext.side {m0 : List Addr} {H0 : Hp} (e : Ext m0 m H0 H) {d : Addr} {o : HO} (h0 : H0 d = none) (h : H d ≠ none) : Ext m0 m H0 (upd H d o) :=
  ⟨e.pre, fun a u ha q => by rw [upd_ne (ne_of_none q h0)]; exact e.fr a u ha q, fun a xs q => by rw [upd_ne (ne_of_none q h0)]; exact e.tup a xs q, fun a q => by
    by_cases z : a = d
    · rw [z, upd_same] at q; cases q
    · rw [upd_ne z] at q; exact e.al a q⟩
theorem Ext.adopt {m0 : List Addr} {H0 : Hp} (e : Ext m0 m H0 H) {d : Addr} (h0 : H0 d = none) : Ext m0 (m ++ [d]) H0 H := by
  obtain ⟨ms, rfl, h⟩ := e.pre
  refine ⟨⟨ms ++ [d], by simp, fun a ha => ?_⟩, e.fr, e.tup, e.al⟩
  rcases List.mem_append.mp ha with ha | ha
  · exact h a ha
  · simp at ha; rw [ha]; exact h0
theorem Ext.keepSide (e : Ext m m' H H') {d : Addr} {xs : List V} (h : H d = some (.lst xs)) (hd : d ∉ m) : H' d = some (.lst xs) ∧ d ∉ m' := by
  refine ⟨e.fr d _ hd h, fun q => ?_⟩
  obtain ⟨ms, rfl, hm⟩ := e.pre
  rcases List.mem_append.mp q with q | q
  · exact hd q
  · rw [hm d q] at h; cases h
end
theorem wipe_get (σ : St) : ∀ (vs : List Nat) (j : Nat), (L2.wipe σ vs)[j]? = if j ∈ vs ∧ j < σ.length then some none else σ[j]?
  | [], j => by simp [L2.wipe]
  | v :: vs, j => by
    simp only [L2.wipe]
    by_cases h : v = j
    · subst h
      by_cases hl : v < σ.length
      · rw [List.getElem?_set_self (by rw [L2.wipe_length]; exact hl)]
        simp [hl]
      · rw [List.getElem?_eq_none (by simp [L2.wipe_length]; omega)]
        rw [if_neg (by simp; omega), List.getElem?_eq_none (by omega)]
    · rw [List.getElem?_set_ne h, wipe_get σ vs j]
      by_cases h2 : j ∈ vs
      · simp [h2]
      · have : ¬ j = v := fun e => h e.symm
        simp [h2, this]
theorem wipe_eq {σ τ : St} {vs sl : List Nat} (hl : σ.length = τ.length) (h : ∀ j, j ∉ sl → σ[j]? = (L2.wipe τ vs)[j]?) (hs : ∀ j ∈ sl, j ∈ vs) : L2.wipe σ vs = L2.wipe τ vs := by
  apply List.ext_getElem?
  intro j
  rw [wipe_get, wipe_get, hl]
  by_cases hj : j ∈ vs
  · by_cases hlt : j < τ.length
    · rw [if_pos ⟨hj, hlt⟩, if_pos ⟨hj, hlt⟩]
    · rw [if_neg (fun z => hlt z.2), if_neg (fun z => hlt z.2)]
      rw [List.getElem?_eq_none (by omega), List.getElem?_eq_none (by omega)]
  · rw [if_neg (fun z => hj z.1), if_neg (fun z => hj z.1)]
    rw [h j fun z => hj (hs j z), wipe_get, if_neg (fun z => hj z.1)]
section
variable {X : Cx} {elt tg iter : Expr} {ifs : List Expr} {scope : Scope} {own : List (Str × Nat)} {pos : Pos} {ie itg it ic : E}
theorem lc_of (hsl : ∀ j ∈ slotsG itg, j ∈ own.map (·.2)) {σ : St} {H : Hp} {Q : VK} (h : mD Φ G X (.lc (own.map (·.2)) ie itg it ic) σ H Q) :
    tLc (mI Φ G X it) (mG Φ G X itg) (mT Φ G X ic) (mD Φ G X ie) (own.map (·.2)) σ H Q := by
  obtain ⟨ρ, S, m, env, rs, q⟩ := h
  generalize own.map (·.2) = vs at *
  simp only [den] at q
  refine tG_step (relF := relI X.K) env rs q fun m1 H1 S1 src J e1 env1 rs1 wd p1 => ?_
  intro dd hdd
  let turn : D → Hs → R (Option D) := fun d S' => (denG Φ G itg d (wipeR ρ vs) S').bind fun ρ' S2 => (den Φ G ic ρ' S2).bind fun k S3 => tst k ((den Φ G ie ρ' S3).bind fun x S4 => .ok (some x) S4) (.ok none S3)
  refine ⟨fun i k H => k = src.its.length - i ∧ i ≤ src.its.length ∧ ∃ S' m' acc accD, Ext m1 m' H1 H ∧ RepS X.K m' H S' ∧ H dd = some (.lst acc) ∧ dd ∉ m' ∧ Reps X.K m' H accD acc ∧ acc.length ≤ i ∧ src.its.length ≤ sizeLine ∧
    EnvR X.K m' H ρ σ ∧ Post X.K m1 H1 (Rep X.K) ((lcGo src.gs turn (src.its.drop i) S').bind fun r S2 => newO (.lst (accD ++ r)) S2) Q, ⟨_, rfl, Nat.zero_le _, ?_⟩, ?_⟩
  · have hz : src.its.length ≤ sizeLine ∧ Post X.K m1 H1 (Rep X.K) ((lcGo src.gs turn src.its S1).bind fun r S2 => newO (.lst r) S2) Q := by
      cases el : lcGo src.gs turn src.its S1 with
      | ok r S2 =>
        have p2 := p1
        simp only [turn] at el
        rw [el] at p2
        simp only [R.bind_ok] at p2 ⊢
        exact p2.lim
      | ex => have p2 := p1; simp only [turn] at el; rw [el] at p2; exact p2.elim
      | no => have p2 := p1; simp only [turn] at el; rw [el] at p2; exact p2.elim
    refine ⟨S1, m1, [], [], Ext.tupNew rs1 hdd, rs1.tupNew hdd, upd_same, rs1.free hdd, Reps.nil_.mpr rfl, Nat.le_refl _, hz.1, env1.ext (Ext.tupNew rs1 hdd), ?_⟩
    simpa using hz.2
  rintro i k' H ⟨rfl, hi, S', m', acc, accD, e', rs', hd', hdm, racc, hacc, hz, env', p'⟩
  by_cases hlt : i < src.its.length
  · rw [List.drop_eq_getElem_cons hlt] at p'
    simp only [lcGo] at p'
    have hh : held S' src.gs = true := by
      by_cases hh : held S' src.gs = true
      · exact hh
      · rw [if_neg hh] at p'; exact p'.elim
    rw [if_pos hh] at p'
    refine .inr ⟨wd.goes i H hlt ⟨m', S', e', rs', hh⟩, fun H' => ∃ S' m' acc accD, Ext m1 m' H1 H' ∧ RepS X.K m' H' S' ∧ H' dd = some (.lst acc) ∧ dd ∉ m' ∧ Reps X.K m' H' accD acc ∧ acc.length ≤ i + 1 ∧ src.its.length ≤ sizeLine ∧
      EnvR X.K m' H' ρ σ ∧ Post X.K m1 H1 (Rep X.K) ((lcGo src.gs turn (src.its.drop (i + 1)) S').bind fun r S2 => newO (.lst (accD ++ r)) S2) Q, fun H' h => ⟨src.its.length - (i + 1), by omega, rfl, hlt, h⟩, fun x H' y => ?_⟩
    obtain ⟨d, hd, e2, rs2, r2⟩ := wd.yields i H x H' hlt y m' S' e' rs' hh
    have hdi : src.its[i] = d := by
      rw [List.getElem?_eq_getElem hlt] at hd
      exact Option.some.inj hd
    rw [hdi] at p'
    simp only [turn, R.bind_assoc] at p'
    have env2 := env'.ext e2
    refine ⟨d, wipeR ρ vs, S', m', env2.wipe vs, rs2, r2, p'.bindB fun m3 H3 S3 ρ3 σ3 e3 rs3 env3 p3 => ⟨?_, ?_⟩⟩
    · exact wipe_eq (env3.2.1.trans (L2.wipe_length _ _)) env3.2.2 hsl
    obtain ⟨k1, k2⟩ := (e2.trans e3).keepSide hd' hdm
    have r3 := Reps.ext (e2.trans e3) accD racc
    have env0 := env'.ext (e2.trans e3)
    have p3' : Post X.K m1 H1 (Rep X.K) ((den Φ G ic ρ3 S3).bind fun k S3 => tst k ((den Φ G ie ρ3 S3).bind fun x S4 => (lcGo src.gs turn (src.its.drop (i + 1)) S4).bind fun r S2 => newO (.lst (accD ++ x :: r)) S2) ((lcGo src.gs turn (src.its.drop (i + 1)) S3).bind fun r S2 => newO (.lst (accD ++ r)) S2)) Q := by
      revert p3
      cases den Φ G ic ρ3 S3 with
      | ok kk S4 =>
        simp only [R.bind_ok]
        cases kk with
        | bl c => cases c <;> simp only [tst_t, tst_f, R.bind_ok, R.bind_assoc] <;> exact fun p => p
        | _ => exact fun p => p
      | ex => exact fun p => p
      | no => exact fun p => p
    refine tT_stepB env3.1 rs3 p3' fun m4 H4 S4 c e4 env4 rs4 p4 => ?_
    obtain ⟨k3, k4⟩ := e4.keepSide k1 k2
    have r4 := Reps.ext e4 accD r3
    have env5 := env0.ext e4
    have e14 : Ext m1 m4 H1 H4 := e'.trans (e2.trans (e3.trans e4))
    cases c with
    | true =>
      rw [if_pos rfl] at p4 ⊢
      refine ⟨ρ3, S4, m4, env4, rs4, p4.bindB fun m5 H5 S5 z zv e5 rs5 rz p5 => ?_⟩
      obtain ⟨k5, k6⟩ := e5.keepSide k3 k4
      have r5 := Reps.ext e5 accD r4
      have side : Ext0 m5 m5 H5 (upd H5 dd (.lst (acc ++ [zv]))) := Ext0.side k5
      refine ⟨acc, k5, by omega, S5, m5, acc ++ [zv], accD ++ [z], (e14.trans e5).side hdd (by rw [k5]; exact fun z => nomatch z), rs5.side k5 k6, upd_same, k6, Reps.ext0 side _ (r5.append (Reps.one rz)), by simp; exact hacc, hz, (env5.ext e5).ext0 side, ?_⟩
      simpa using p5
    | false =>
      rw [if_neg Bool.false_ne_true] at p4 ⊢
      exact ⟨S4, m4, acc, accD, e14, rs4, k3, k4, r4, by omega, hz, env5, p4⟩
  · have ei : i = src.its.length := by omega
    subst ei
    rw [List.drop_length] at p'
    simp only [lcGo] at p'
    have hh : held S' src.gs = true := by
      by_cases hh : held S' src.gs = true
      · exact hh
      · rw [if_neg hh] at p'; exact p'.elim
    rw [if_pos hh] at p'
    simp only [R.bind_ok, List.append_nil] at p'
    refine .inl ⟨wd.stops H ⟨m', S', e', rs', hh⟩, p' (.ref dd) (m' ++ [dd]) H (e'.adopt hdd) (rs'.adopt hd' hdm racc) ?_⟩
    rw [Rep.ref_]
    exact ⟨dd, by rw [← rs'.len, List.getElem?_append_right (Nat.le_refl _)]; simp, rfl⟩
end
end RS

namespace RS
open PySem PySem.Spec L2
variable {Φ : Nat → List D → Hs → R D} {G : Nat → D} {k : Nat}
/-! ### facts of stores -/
theorem blockKind_of {env : PySem.Env} (h : kindF env.scope = true) : env.scope.kind = .function ∧ env.blockKind = .function := by
  unfold kindF at h
  split at h
  · rename_i e
    exact ⟨e, by unfold PySem.Env.blockKind; rw [e]; rfl⟩
  · cases h
theorem swaps_lc {elt : Expr} {gs : List Comprehension} {scope : Scope} {pos py : Pos} {y : Str} {l : Nat} {env : PySem.Env} (hk : kindF env.scope = true) : swapsWith (.ListComp elt gs scope pos) (some (.Name y py)) l env = pure (swB env.scope y py scope pos) := by
  have hb := (blockKind_of hk).2
  unfold swapsWith swB
  simp only [hb, Expr.pos, PySem.Env.kindOf]
  rfl
theorem swappedStores_eq {ts vs : List Expr} {k k2 : Nat} {p p2 : Pos} {env : PySem.Env} : swappedStores [.Tuple ts k p] (.Tuple vs k2 p2) env =
    (if (!(ts.length == 2 || ts.length == 3) || vs.length != ts.length || env.blockKind != .function) = true then pure none else if starAny vs = true then pure none else
     if ((swNames env.scope ts).length != ts.length || (swNames env.scope ts).eraseDups.length != (swNames env.scope ts).length) = true then pure none else if vs.all (foldedForSure 8) = true then pure none else
     if vs.all (constantsAlone 8) = true then (do unsupported "assign.tuple-of-constant-expressions:order-of-the-stores"; pure (some (swNames env.scope ts))) else pure (some (swNames env.scope ts))) := rfl
theorem swn_of {ts vs : List Expr} {k k2 : Nat} {p p2 : Pos} {env : PySem.Env} {r : Option (List Str)} (hk : kindF env.scope = true) (h : swN env.scope ts vs = some r) : swappedStores [.Tuple ts k p] (.Tuple vs k2 p2) env = pure r := by
  have hb := (blockKind_of hk).2
  rw [swappedStores_eq, hb]
  unfold swN at h
  by_cases c1 : (!(ts.length == 2 || ts.length == 3) || vs.length != ts.length) = true
  · rw [if_pos c1] at h
    cases h
    rw [if_pos (by rw [c1]; rfl)]
  · rw [if_neg c1] at h
    rw [if_neg (by rw [Bool.eq_false_iff.mpr c1]; simp)]
    by_cases c2 : starAny vs = true
    · rw [if_pos c2] at h ⊢
      cases h; rfl
    · rw [if_neg c2] at h ⊢
      by_cases c3 : ((swNames env.scope ts).length != ts.length || (swNames env.scope ts).eraseDups.length != (swNames env.scope ts).length) = true
      · rw [if_pos c3] at h ⊢
        cases h; rfl
      · rw [if_neg c3] at h ⊢
        by_cases c4 : vs.all (foldedForSure 8) = true
        · rw [if_pos c4] at h ⊢
          cases h; rfl
        · rw [if_neg c4] at h ⊢
          by_cases c5 : vs.all (constantsAlone 8) = true
          · rw [if_pos c5] at h; cases h
          · rw [if_neg c5] at h ⊢
            cases h; rfl
theorem sw_none {tg e : Expr} {env : PySem.Env} (h : (isTup tg && isTup e) = false) (h2 : isLst tg = false) : swappedStores [tg] e env = pure none := by
  unfold swappedStores
  cases tg <;> first | rfl | (simp [isLst] at h2; done) | (cases e <;> first | rfl | (simp [isTup] at h))
/-! ### what holds in a block -/
theorem Good.blk {X : Cx} {T : Tab} (g : Good X T Φ G k) (s : Shared) (H : Hp) (scope : Scope) (cl : List (Str × Addr)) (C : Addr) (fp : List Addr) : Good (X.blk s H scope (compEnvC scope cl C X.env) fp) T Φ G k :=
  ⟨g.calm, g.nd, g.room, PassesOwn.never, g.fns, g.blt, g.con⟩
theorem mem_ownNames {scope : Scope} {x : Str} (h : (ownNames scope).contains x = true) : ∃ kk, (x, kk) ∈ scope.names ∧ (kk = .local ∨ kk = .cell) := by
  rw [List.contains_iff_mem] at h
  unfold ownNames at h
  obtain ⟨⟨y, kk⟩, hm, e⟩ := List.mem_filterMap.mp h
  cases kk <;> simp at e <;> subst e
  · exact ⟨_, hm, .inl rfl⟩
  · exact ⟨_, hm, .inr rfl⟩
theorem GC.blk {X : Cx} {c : Cc} (gc : GC X c) {scope : Scope} (ok : BlkOk X.N X.env.scope scope (ownOf c.N scope)) (s : Shared) (H : Hp) (cl : List (Str × Addr)) (C : Addr) (fp : List Addr) :
    GC (X.blk s H scope (compEnvC scope cl C X.env) fp) { c with sc := relS scope c.sc, wr := ownNames scope } := by
  refine ⟨gc.N, ?_, fun x hx => ?_⟩
  · show relabel scope X.env = relS scope c.sc
    rw [← gc.sc]
    rfl
  · obtain ⟨kk, hm, hk⟩ := mem_ownNames hx
    have hu := ok.uniq _ hm
    have hr : (relS scope X.env.scope).names.lookup x = some kk := lookup_relS_keep (sc := X.env.scope) (names := scope.names) (by rcases hk with e | e <;> rw [e] <;> exact fun z => nomatch z) hu
    rcases hk with rfl | rfl
    · exact ⟨.inl hr, .inr hr⟩
    · refine ⟨.inr hr, .inl ?_⟩
      show (scope.names.lookup x == some .cell) = true
      rw [hu]; rfl

/-! ### the whole -/
theorem compL_stars : ∀ {es : List Expr} {n : Nat} {c : Cc} {il : E}, compL n c es = some il → noStars es
  | [], _, _, _, _ => fun _ h => by cases h
  | e :: es, 0, c, il, h => by simp [compL] at h
  | e :: es, n + 1, c, il, h => by
    simp only [compL] at h
    split at h
    · rename_i hs
      split at h
      · rename_i a b h1 h2
        intro e' he
        rcases List.mem_cons.mp he with rfl | he
        · exact hs
        · exact compL_stars h2 _ he
      · cases h
    · cases h
theorem biOf_nm {x : Str} {b : Bi} (h : biOf x = some b) : x = b.nm ∧ b ∈ [Bi.len, .int, .list, .tuple, .sum, .all, .any, .max, .min] := by
  unfold biOf at h
  repeat' split at h
  all_goals first | (cases h; done) | (cases h; rename_i e; exact ⟨e, by decide⟩)
section
variable {X : Cx} {c : Cc}
structure OkN (Φ : Nat → List D → Hs → R D) (G : Nat → D) (k n : Nat) : Prop where
  Ex : ∀ (X : Cx) (c : Cc), Good X c.T Φ G k → GC X c → ∀ e ir, compE n c e = some ir → PE X e (mD Φ G X ir) ∧ PT X e (mT Φ G X ir) ∧ (∀ o es p, e = .BoolOp o es p → PW X e (mT Φ G X ir))
  Ls : ∀ (X : Cx) (c : Cc), Good X c.T Φ G k → GC X c → ∀ es ir, compL n c es = some ir → PA X es (mL Φ G X ir)
  Sl : ∀ (X : Cx) (c : Cc), Good X c.T Φ G k → GC X c → ∀ e ir, compO n c e = some ir → PO X e (mO Φ G X ir)
  Ts : ∀ (X : Cx) (c : Cc), Good X c.T Φ G k → GC X c → ∀ es ir, compT n c es = some ir → PTs X es (mT Φ G X ir)
  Tg : ∀ (X : Cx) (c : Cc), Good X c.T Φ G k → GC X c → ∀ e ir, compG n c e = some ir → PG X e (mG Φ G X ir)
  Tgs : ∀ (X : Cx) (c : Cc), Good X c.T Φ G k → GC X c → ∀ es ir, compGs n c es = some ir → PGs X es (mGs Φ G X ir)
  It : ∀ (X : Cx) (c : Cc), Good X c.T Φ G k → GC X c → ∀ tg e ir, compI n c tg e = some ir → PI X tg e (mI Φ G X ir)
theorem Good.hu {T : Tab} (g : Good X T Φ G k) : X.A.units + 64 < cLine := g.room.units
theorem okn0 : OkN Φ G k 0 := ⟨fun _ _ _ _ e ir h => by simp [compE] at h, fun _ _ _ _ e ir h => by simp [compL] at h, fun _ _ _ _ e ir h => by simp [compO] at h, fun _ _ _ _ e ir h => by simp [compT] at h, fun _ _ _ _ e ir h => by simp [compG] at h, fun _ _ _ _ e ir h => by simp [compGs] at h, fun _ _ _ _ tg e ir h => by simp [compI] at h⟩
/-- a value that is no test of its own kind -/
theorem both {e : Expr} {ir : E} (h : PE X e (mD Φ G X ir)) (hp : plainTest e = true) : PE X e (mD Φ G X ir) ∧ PT X e (mT Φ G X ir) ∧ (∀ o es p, e = .BoolOp o es p → PW X e (mT Φ G X ir)) :=
  ⟨h, mt_plain h hp, fun o es p q => by subst q; simp [plainTest] at hp⟩
/-- a built-in's call -/
theorem me_blt (g : Good X c.T Φ G k) {b : Bi} (hb : b ∈ [Bi.len, .int, .list, .tuple, .sum, .all, .any, .max, .min]) (hg : Gl X b.nm) (hf : c.T.fns.contains b.nm = false) (hc : c.T.cons.contains b.nm = false) {e : Expr} {es : List Expr} {il : E} {p pos : Pos} (hs : noStars (e :: es)) (h : PA X (e :: es) (mL Φ G X il)) :
    PE X (.Call (.Name b.nm p) (e :: es) [] pos) (mD Φ G X (.bi b il)) := by
  have hm : ∀ b : Bi, b ∈ [Bi.len, .int, .list, .tuple, .sum, .all, .any, .max, .min] → b.nm ∈ bltNames ∧ nameOk b.nm = true := by decide +kernel
  have hm1 := g.blt b.nm (hm b hb).1 hf hc
  have hn := (hm b hb).2
  simp only [List.mem_cons, List.mem_nil_iff, or_false] at hb
  rcases hb with rfl | rfl | rfl | rfl | rfl | rfl | rfl | rfl | rfl
  · exact me_biB call_len' hg hm1 (by first | exact PyProof.Rows.boot_len | exact PySem.boot_len) hn hs h
  · exact me_biT call_int' hg hm1 (by first | exact PyProof.Rows.boot_int | exact PySem.boot_int) hn hs h
  · exact me_biT (call_list' g.calm) hg hm1 (by first | exact PyProof.Rows.boot_list | exact PySem.boot_list) hn hs h
  · exact me_biT call_tuple' hg hm1 (by first | exact PyProof.Rows.boot_tuple | exact PySem.boot_tuple) hn hs h
  · exact me_biB (call_sum' g.calm) hg hm1 (by first | exact PyProof.Rows.boot_sum | exact PySem.boot_sum) hn hs h
  · exact me_biB (call_all' g.calm) hg hm1 (by first | exact PyProof.Rows.boot_all | exact PySem.boot_all) hn hs h
  · exact me_biB (call_any' g.calm) hg hm1 (by first | exact PyProof.Rows.boot_any | exact PySem.boot_any) hn hs h
  · exact me_biB (call_max' g.calm) hg hm1 (by first | exact PyProof.Rows.boot_max | exact PySem.boot_max) hn hs h
  · exact me_biB (call_min' g.calm) hg hm1 (by first | exact PyProof.Rows.boot_min | exact PySem.boot_min) hn hs h
end
end RS

/-! J1: sets of ints, truths, texts, None: made of a list, a tuple, a text; walked; sorted -/
namespace RS
open PySem PySem.Spec L2 PyProof.Rows
inductive Pr {α β : Type} (F : α → β → Prop) : List α → List β → Prop
  | nil : Pr F [] []
  | cons {a b as bs} : F a b → Pr F as bs → Pr F (a :: as) (b :: bs)
theorem Pr.len {α β : Type} {F : α → β → Prop} : ∀ {as : List α} {bs : List β}, Pr F as bs → as.length = bs.length
  | _, _, .nil => rfl
  | _, _, .cons _ t => by simp [t.len]
theorem Pr.perm {α β : Type} {F : α → β → Prop} {l l' : List α} (p : l'.Perm l) : ∀ {ks : List β}, Pr F l ks → ∃ ks', Pr F l' ks' ∧ ks'.Perm ks := by
  induction p with
  | nil => intro ks h; exact ⟨ks, h, .refl _⟩
  | cons x _ ih =>
    intro ks h
    cases h with
    | cons h1 h2 =>
      obtain ⟨ks', a, b⟩ := ih h2
      exact ⟨_, .cons h1 a, b.cons _⟩
  | swap x y l =>
    intro ks h
    cases h with
    | cons h1 h2 =>
      cases h2 with
      | cons h3 h4 => exact ⟨_, .cons h3 (.cons h1 h4), .swap _ _ _⟩
  | trans _ _ ih1 ih2 =>
    intro ks h
    obtain ⟨k1, a1, b1⟩ := ih2 h
    obtain ⟨k2, a2, b2⟩ := ih1 a1
    exact ⟨k2, a2, b2.trans b1⟩
theorem Pr.memL {α β : Type} {F : α → β → Prop} {a : α} : ∀ {l : List α} {ks : List β}, Pr F l ks → a ∈ l → ∃ b ∈ ks, F a b
  | _, _, .cons h t, m => by
    rcases List.mem_cons.mp m with rfl | m
    · exact ⟨_, by simp, h⟩
    · obtain ⟨b, h1, h2⟩ := t.memL m
      exact ⟨b, by simp [h1], h2⟩
theorem Pr.memR {α β : Type} {F : α → β → Prop} {b : β} : ∀ {l : List α} {ks : List β}, Pr F l ks → b ∈ ks → ∃ a ∈ l, F a b
  | _, _, .cons h t, m => by
    rcases List.mem_cons.mp m with rfl | m
    · exact ⟨_, by simp, h⟩
    · obtain ⟨c, h1, h2⟩ := t.memR m
      exact ⟨c, by simp [h1], h2⟩
theorem Pr.map {α β γ : Type} {F : α → β → Prop} {G : γ → β → Prop} (f : α → γ) (h : ∀ a b, F a b → G (f a) b) : ∀ {l : List α} {ks : List β}, Pr F l ks → Pr G (l.map f) ks
  | _, _, .nil => .nil
  | _, _, .cons a t => .cons (h _ _ a) (t.map f h)
section
variable {P : Program} {w : World}
/-- a leaf, by its value -/
def LfX (k : Leaf) (v : Value) : Prop := match k with
  | .none => v = .none
  | .num i => ∃ t, v = .int i t
  | .text x => ∃ t, v = .str x t
def LfIs (P : Program) (w : World) (k : Leaf) (v : Value) : Prop := (leafKind P w).is k v = true ∧ v.scannable = true ∧ LfX k v
theorem LfIs.of {k : Leaf} {v : Value} (h : LfX k v) : LfIs P w k v := by
  cases k with
  | none => rw [show v = .none from h]; exact ⟨rfl, rfl, rfl⟩
  | num i => obtain ⟨t, rfl⟩ := h; exact ⟨(show PySem.Leaf.isOf (.num i) (.int i t) = true by simp [PySem.Leaf.isOf]), rfl, t, rfl⟩
  | text x => obtain ⟨t, rfl⟩ := h; exact ⟨(show PySem.Leaf.isOf (.text x) (.str x t) = true by simp [PySem.Leaf.isOf, Value.isStrOf]), rfl, t, rfl⟩
/-- an entry of a set and its key -/
def EnIs (P : Program) (w : World) (e : Int × Value) (k : Leaf) : Prop := LfIs P w k e.2 ∧ e.1 = (leafKind P w).hash k
theorem en_elems {l : List (Int × Value)} {ks : List Leaf} (h : Pr (EnIs P w) l ks) : ElemsOf (leafKind P w) l := fun e he => by
  obtain ⟨k, _, h1, h2⟩ := h.memL he
  exact ⟨⟨k, h1.1, h2⟩, h1.2.1⟩
theorem en_at {l : List (Int × Value)} {ks : List Leaf} (h : Pr (EnIs P w) l ks) (k : Leaf) : k ∈ ks ↔ ∃ e ∈ l, (leafKind P w).is k e.2 = true := by
  constructor
  · intro hk
    obtain ⟨e, he, h1, _⟩ := h.memR hk
    exact ⟨e, he, h1.1⟩
  · rintro ⟨e, he, hk⟩
    obtain ⟨k', hk', h1, _⟩ := h.memL he
    rw [(leafKind P w).inj _ _ _ hk h1.1]; exact hk'
/-- the set at a: what was put in, in any order; its table rises -/
def SG (P : Program) (w : World) (h : Heap) (a : Addr) (l : List Leaf) : Prop :=
  ∃ (o : Obj) (es : Array (Int × Value)) (ep : Nat) (t : SetTable) (ks : List Leaf), h.get? a = some o ∧ o.ExactSet ∧ o.data = .set es ep t ∧ Pr (EnIs P w) es.toList ks ∧ ks.Nodup ∧ (∀ k, k ∈ ks ↔ k ∈ l) ∧
    es.size ≤ l.length ∧ l.length < scanBound ∧ t.fits es.size = true ∧ Ris t.place.toList ∧ (w.params.followText "set-order" = true ∨ t.led = true)
theorem SG.at {h h' : Heap} {a : Addr} {l : List Leaf} (g : SG P w h a l) (k : ∀ o, h.get? a = some o → h'.get? a = some o) : SG P w h' a l := by
  obtain ⟨o, es, ep, t, ks, ho, rest⟩ := g
  exact ⟨o, es, ep, t, ks, k o ho, rest⟩
variable {A : Around} {E : Value → Shared → Prop} {s : Shared} {a : Addr} {l : List Leaf}
/-- what is written behind an entry more -/
theorem sg_tail {g : Bool → Sem Unit} (hg : ∀ (b : Bool) (s₁ : Shared) (Q' : Unit → Shared → Prop), Q' () s₁ → wpAny (model P w) A (g b) Q' E s₁)
    {o : Obj} {es : Array (Int × Value)} {ep : Nat} {t : SetTable} (at_ : s.heap.get? a = some o) (ex : o.ExactSet) (da : o.data = .set es ep t)
    {e1 : Array (Int × Value)} {t2 : SetTable} {ks : List Leaf} {l2 : List Leaf} (pr : Pr (EnIs P w) e1.toList ks) (nd : ks.Nodup) (me : ∀ k, k ∈ ks ↔ k ∈ l2)
    (sz : e1.size ≤ l2.length) (bd : l2.length < scanBound) (ft : t2.fits e1.size = true) (ri : Ris t2.place.toList) (le : w.params.followText "set-order" = true ∨ t2.led = true) {wd : Bool} {R : Option Bool → Shared → Prop}
    (fin : ∀ h', Heap.SameBut a s.heap h' → SG P w h' a l2 → R (some true) { s with heap := h' }) :
    wpAny (model P w) A (do
        storeSet a e1 t2
        if (!wd && t2.tooFull) = true then do
            g (relayAll t2 e1 (SetTable.grown e1.size)).2.2
            storeSet a (relayAll t2 e1 (SetTable.grown e1.size)).1 (relayAll t2 e1 (SetTable.grown e1.size)).2.1
            pure (some true)
          else pure (some true)) R E s := by
  have b1 : e1.size < scanBound := Nat.lt_of_le_of_lt sz bd
  refine wpAny_bind (wpAny_storeSet_of at_ da ?_ (fits_of_scanBound b1))
  have at1 := store_at (es' := e1) (t' := t2) at_ da
  have same1 := Heap.SameBut.update s.heap a (Obj.putSet e1 t2)
  split
  · have pm := relayAll_perm t2 e1 (SetTable.grown e1.size)
    have f3 := relayAll_fits t2 e1 (SetTable.grown e1.size)
    have r3 := relayAll_ris t2 e1 (SetTable.grown e1.size)
    have l3 := relayAll_led t2 e1 (SetTable.grown e1.size)
    generalize relayAll t2 e1 (SetTable.grown e1.size) = Z at pm f3 r3 l3 ⊢
    obtain ⟨e2, t3, gave⟩ := Z
    dsimp only at pm f3 r3 l3 ⊢
    have sz2 : e2.size = e1.size := by rw [← Array.length_toList, pm.length_eq, Array.length_toList]
    obtain ⟨ks2, pr2, pk⟩ := pr.perm pm
    refine wpAny_bind (hg _ _ _ ?_)
    refine wpAny_bind (wpAny_storeSet_of at1 rfl ?_ (fits_of_scanBound (by rw [sz2]; exact b1)))
    have at2 := store_at (es' := e2) (t' := t3) at1 rfl
    exact wpAny_pure (fin _ (same1.trans (Heap.SameBut.update _ a _)) ⟨_, e2, _, t3, ks2, at2, ex, rfl, pr2, pk.nodup_iff.mpr nd, fun k => pk.mem_iff.trans (me k), by rw [sz2]; exact sz, bd, f3, r3, le.imp id fun z => by rw [l3]; exact z⟩)
  · exact wpAny_pure (fin _ same1 ⟨_, e1, _, t2, ks, at1, ex, rfl, pr, nd, me, sz, bd, ft, ri, le⟩)
/-- one more is put in -/
theorem sg_add {k : Leaf} {v : Value} {Q : Bool → Shared → Prop} (g : SG P w s.heap a l) (hv : LfIs P w k v) (room : l.length + 1 < scanBound)
    (fin : ∀ (b : Bool) (h' : Heap), Heap.SameBut a s.heap h' → SG P w h' a (l ++ [k]) → Q b { s with heap := h' }) :
    wpAny (model P w) A (setAddHashed a v ((leafKind P w).hash k)) Q E s := by
  obtain ⟨o, es, ep, t, ks, ho, ex, da, pr, nd, me, sz, bd, ft, ri, le⟩ := g
  have el := en_elems pr
  have hb : es.size < scanBound := Nat.lt_of_le_of_lt sz bd
  have l2 : (l ++ [k]).length < scanBound := by rw [List.length_append]; exact room
  unfold setAddHashed setAddHashedIn
  refine wpAny_holding (wpAny_bind (wpAny_setState_of ho da ft ?_))
  dsimp only
  rw [byScan_of hv.2.1 hb el]
  simp only [↓reduceIte]
  unfold setAddByScan
  refine wpAny_bind ?_
  refine wpAny_bind (wpAny_rule ?_)
  refine wpAny_bind (wpAny_setScan_of hv.1 ho da ft el ?_)
  cases fi : List.findIdx? (fun e => (leafKind P w).is k e.2) es.toList with
  | some j =>
    dsimp only
    obtain ⟨hj, pj, _⟩ := List.findIdx?_eq_some_iff_getElem.mp fi
    have kin : k ∈ ks := (en_at pr k).2 ⟨es.toList[j], List.getElem_mem hj, pj⟩
    refine wpAny_pure (wpAny_pure ?_)
    refine fin false s.heap (Heap.SameBut.refl a s.heap) ⟨o, es, ep, t, ks, ho, ex, da, pr, nd, fun i => ?_, by rw [List.length_append]; omega, l2, ft, ri, le⟩
    rw [List.mem_append, List.mem_singleton, me i]
    exact ⟨.inl, fun z => z.elim id fun z => by rw [z]; exact (me k).mp kin⟩
  | none =>
    dsimp only
    have kno : k ∉ ks := fun z => by
      obtain ⟨e, he, q⟩ := (en_at pr k).1 z
      have c := List.findIdx?_eq_none_iff.mp fi e he
      rw [q] at c
      cases c
    have gw : ∀ (b : Bool) {s₁ : Shared} {Q' : Unit → Shared → Prop}, Q' () s₁ → wpAny (model P w) A (match b with | true => rule "set.scan.the-table-gave-way" | false => pure ()) Q' E s₁ :=
      fun b s₁ Q' q => by cases b <;> first | exact wpAny_pure q | exact wpAny_rule q
    have pm := layNew_perm t es ((leafKind P w).hash k) v
    have f1 := layNew_fits t es ((leafKind P w).hash k) v
    have r1 := layNew_ris t es ((leafKind P w).hash k) v ri
    have le1 := layNew_led t es ((leafKind P w).hash k) v
    generalize layNew t es ((leafKind P w).hash k) v = Z at pm f1 r1 le1 ⊢
    obtain ⟨e1, t1, wd, gave⟩ := Z
    dsimp only at pm f1 r1 le1 ⊢
    rw [Array.toList_push] at pm
    have pc : e1.toList.Perm (((leafKind P w).hash k, v) :: es.toList) := pm.trans (List.perm_append_singleton _ _)
    have pr0 : Pr (EnIs P w) (((leafKind P w).hash k, v) :: es.toList) (k :: ks) := .cons ⟨hv, rfl⟩ pr
    obtain ⟨ks1, pr1, pk⟩ := pr0.perm pc
    have nd1 : ks1.Nodup := pk.nodup_iff.mpr (List.nodup_cons.mpr ⟨kno, nd⟩)
    have me1 : ∀ i, i ∈ ks1 ↔ i ∈ l ++ [k] := fun i => by
      rw [pk.mem_iff, List.mem_cons, List.mem_append, List.mem_singleton, me i]
      exact Or.comm
    have sz1 : e1.size ≤ (l ++ [k]).length := by
      have : e1.size = es.size + 1 := by rw [← Array.length_toList, pc.length_eq, List.length_cons, Array.length_toList]
      rw [this, List.length_append]
      show es.size + 1 ≤ l.length + 1
      omega
    have led1 : w.params.followText "set-order" = true ∨ t1.led = true := le.imp id fun z => by rw [le1]; exact z
    refine wpAny_bind (gw _ ?_)
    split
    · refine wpAny_bind ?_
      rw [hashByValue_scannable 8 hv.2.1]
      refine wpAny_pure ?_
      refine sg_tail ?_ ho ex da pr1 nd1 me1 sz1 l2 ?_ ?_ ?_ ?_
      · intro b s₁ Q' q; cases b <;> first | exact wpAny_pure q | exact wpAny_rule q
      · first | (split <;> first | exact f1 | exact SetTable.fits_plain_off f1) | exact f1
      · first | (split <;> exact r1) | exact r1
      · first | (split <;> exact led1) | exact led1
      · intro h' sb r; dsimp only; exact wpAny_pure (fin true h' sb r)
    · refine wpAny_bind (wpAny_pure ?_)
      simp only [↓reduceIte]
      refine sg_tail ?_ ho ex da pr1 nd1 me1 sz1 l2 f1 r1 led1 ?_
      · intro b s₁ Q' q; cases b <;> first | exact wpAny_pure q | exact wpAny_rule q
      · intro h' sb r; dsimp only; exact wpAny_pure (fin true h' sb r)
theorem sg_fresh {h : Heap} (ho : h.get? a = some { cls := .type "set", dict := none, data := .set #[] 0 (.fresh 0 0 (!w.params.followText "set-order")) }) : SG P w h a [] :=
  ⟨_, #[], 0, _, [], ho, ⟨rfl, rfl, rfl⟩, rfl, .nil, List.nodup_nil, fun k => .rfl, Nat.le_refl _, by decide, by rfl, List.Pairwise.nil, by
    show _ ∨ (!w.params.followText "set-order") = true
    cases w.params.followText "set-order"
    · exact .inr rfl
    · exact .inl rfl⟩
/-- a walk's items are put in -/
theorem sg_update {I : Addr} {fp wr : List Addr} {G : Array GenState → Array GenState → Prop} {n : Nat} {Pv : Nat → Value → Prop} {St : Nat → Shared → Prop} {R : Result → Shared → Prop}
    (W : WalksS P w A.in1 I fp wr G n Pv St) (S : Addr) (hS : S ∉ fp) (ks : List Leaf) (hn : n = ks.length) (bd : ks.length + 1 < scanBound) (hval : ∀ i v, Pv i v → ∃ k, ks[i]? = some k ∧ LfIs P w k v) :
    ∀ (m i : Nat) (s : Shared), n - i = m → i ≤ n → St i s → SG P w s.heap S (ks.take i) →
      (∀ s', Moved (S :: wr) G s s' → SG P w s'.heap S ks → R (.ok (.ret .none)) s') →
      codeAny (model P w) A (.builtin "set.update.loop" ⟨[.ref S, .ref I], []⟩) R s := by
  have nw : S ∉ wr := fun h => hS (W.sub _ h)
  have sub : ∀ b ∈ wr, b ∈ S :: wr := fun b hb => List.mem_cons_of_mem _ hb
  intro m
  induction m with
  | zero =>
    intro i s hm hi st sg fin
    have hin : i = n := by omega
    subst hin
    refine codeAny_builtin PyProof.Rows.F.entry_set_update_loop ?_
    rw [Around.under_plainId PyProof.Rows.F.plain_set_update_loop _]
    show wpAny _ A.in1 (pyNext (.ref I) >>= _) _ _ s
    refine wpAny_bind (W.done s _ _ st fun s' mv => ?_)
    show wpAny _ A.in1 (ret Value.none) _ _ s'
    rw [List.take_of_length_le (show ks.length ≤ i by omega)] at sg
    exact wpAny_pure (fin s' (mv.mono sub) (sg.at fun o e => mv.heap S o nw e))
  | succ m ih =>
    intro i s hm hi st sg fin
    have lt : i < n := by omega
    refine codeAny_builtin PyProof.Rows.F.entry_set_update_loop ?_
    rw [Around.under_plainId PyProof.Rows.F.plain_set_update_loop _]
    show wpAny _ A.in1 (pyNext (.ref I) >>= _) _ _ s
    refine wpAny_bind (W.item i s _ _ lt st fun v s' hP st' mv => ?_)
    obtain ⟨k, hk, hv⟩ := hval i v hP
    have sg' : SG P w s'.heap S (ks.take i) := sg.at fun o e => mv.heap S o nw e
    show wpAny _ A.in1 (holding [v] (setAdd S v) >>= _) _ _ s'
    refine wpAny_bind (wpAny_holding ?_)
    unfold setAdd
    refine wpAny_holding ?_
    refine wpAny_bind ((leafKind P w).pyHash (k := k) hv.1 ?_)
    refine sg_add (s := { s' with toks := s'.toks + 1 }) sg' hv (by rw [List.length_take]; omega) fun b h' sb sg2 => ?_
    have sg3 : SG P w h' S (ks.take (i + 1)) := by rw [List.take_add_one, hk]; exact sg2
    refine wpAny_pure ⟨plainId_quiet PyProof.Rows.F.plain_set_update_loop _, ih (i + 1) _ (by omega) lt (W.frame _ s' _ _ st' (Nat.le_succ _) fun b hb o e => ?_) sg3 fun s2 mv2 sg4 => ?_⟩
    · rw [sb.2 b (fun z : b = S => hS (by rw [← z]; exact hb))]; exact e
    · refine fin s2 (Moved.trans W.gtrans ((mv.mono sub).then_heap (Nat.le_succ _) fun b o hb e => ?_) mv2) sg4
      rw [sb.2 b (fun z : b = S => hb (by rw [z]; exact List.mem_cons_self))]; exact e
end
end RS

/-! J2: set(..) of a list, a tuple, a text -/
namespace RS
open PySem PySem.Spec L2
section
variable {P : Program} {w : World} {A : Around} {E : Value → Shared → Prop} {s : Shared}
theorem set_of_list {l : Addr} {items : Array Value} {ks : List Leaf} {Q : Value → Shared → Prop} (hh : A.handled = none) (src : s.heap.IsList l items) (hit : Pr (fun v k => LfIs P w k v) items.toList ks) (bd : ks.length + 1 < scanBound)
    (fin : ∀ (h' : Heap) (tk : Nat), SG P w h' s.heap.objs.size ks → (∀ b o, s.heap.get? b = some o → h'.get? b = some o) → Q (.ref s.heap.objs.size) { s with heap := h', toks := tk }) :
    wpAny (model P w) A (call (.type "set") [.ref l]) Q E s := by
  obtain ⟨c0, tl0, mro0⟩ := PySem.F.called_set.mro
  have made0 := PySem.F.called_set.made
  have sub0 := PySem.F.called_set.sub
  have t0 := PySem.F.called_set.notType
  have c1 := PySem.F.called_set.canCreate
  have tc := PySem.F.typeCall_set_1 (.ref l)
  refine wpAny_call (codeAny_of_tree ?_)
  show wpAny _ _ (callAny (.type "set") _) _ _ _
  refine wpAny_pure ⟨Code.quiet_builtin _ (by decide +kernel), codeAny_builtin PySem.F.entry_type_call ?_⟩
  rw [Around.under_plain (weight_type_call_type "set" [.ref l] []) rfl]
  repeat (any_goals (first | assumption | wp_step))
  refine codeAny_mono (code_set_led1 (.ref l) (E := E) (Q₁ := fun obj s₁ => obj = .ref s.heap.objs.size ∧ s₁ = { s with heap := s.heap.push { cls := .type "set", dict := none, data := .set #[] 0 (.fresh 0 0 (!w.params.followText "set-order")) } }) ⟨rfl, rfl⟩) fun r s₁ hr => ?_
  cases r with
  | error e => exact hr
  | ok fl =>
    cases fl with
    | ret obj =>
      obtain ⟨rfl, rfl⟩ := hr
      generalize hz : s.heap.push { cls := .type "set", dict := none, data := .set #[] 0 (.fresh 0 0 (!w.params.followText "set-order")) } = H1
      have zS : H1.get? s.heap.objs.size = some { cls := .type "set", dict := none, data := .set #[] 0 (.fresh 0 0 (!w.params.followText "set-order")) } := by rw [← hz]; exact Heap.get?_push_size _ rfl
      have keep1 : ∀ b o, s.heap.get? b = some o → H1.get? b = some o := fun b o e => by rw [← hz]; exact Heap.get?_push_of_some _ e
      have size1 : H1.objs.size = s.heap.objs.size + 1 := by rw [← hz]; exact Heap.size_push ..
      have ty : Shared.TypeIs { s with heap := H1 } (.ref s.heap.objs.size) "set" := ⟨_, zS, rfl⟩
      have li := PySem.F.called_set.init.lookup
      have bi := PySem.F.called_set.init.bind (.ref s.heap.objs.size)
      repeat (any_goals (first | assumption | wp_step))
      refine codeAny_mono (codeAny_call_builtin (R := wants (fun r s₂ => r = .none ∧ ∃ h' tk, s₂ = { s with heap := h', toks := tk } ∧ SG P w h' s.heap.objs.size ks ∧ (∀ b o, s.heap.get? b = some o → h'.get? b = some o)) E)
        PySem.F.called_set.init.plain PySem.F.entry_set_init (PySem.check_set_init_1 ty ?_)) fun r₂ s₂ hr₂ => ?_
      · obtain ⟨ol, hol, hcl, nl, hdl⟩ := src
        obtain ⟨ocls, odict, odata, oslots⟩ := ol
        simp only at hcl hdl
        subst hcl; subst hdl
        have hol1 := keep1 l _ hol
        have nsub := PySem.F.sub_list_set
        have nfrz := PySem.F.sub_list_frozenset
        have ndic : (Value.type "list" == Value.type "dict") = false := by decide
        have isl : Heap.IsList H1 l items := ⟨_, hol1, rfl, nl, rfl⟩
        unfold Builtin.«set.__init__» noKeywords Builtin.Frozenset.updateFrom
        generalize hPI : pyIter = PI
        wp_walk
        subst hPI
        refine wpAny_pyIter_list isl ?_
        refine wpAny_bind (wpAny_runValue ?_)
        have lS : l < s.heap.objs.size := Heap.lt_size hol
        have h3 : A.in1.in1.in1.handled = none := by simp [hh]
        have neI : l ≠ H1.objs.size := by rw [size1]; exact Nat.ne_of_lt (Nat.lt_succ_of_lt lS)
        have notfp : s.heap.objs.size ∉ [H1.objs.size, l] := by
          rw [size1]; intro m
          rcases List.mem_cons.mp m with m | m
          · exact Nat.ne_of_lt (Nat.lt_succ_self _) m
          · exact Nat.ne_of_gt lS (List.mem_singleton.mp m)
        have isz : items.size = ks.length := by rw [← hit.len, Array.length_toList]
        refine sg_update ((Walks.list h3 _ l neI items).toS) s.heap.objs.size notfp ks isz bd (fun i v hv => ?_) (items.size - 0) 0 _ (by omega) (Nat.zero_le _)
          ⟨⟨_, Heap.get?_push_size _ rfl, rfl, rfl⟩, (isl.push _)⟩ (sg_fresh (Heap.get?_push_of_some _ zS)) fun s' mv sg => ?_
        · have hg : ∀ (j : Nat) {vs : List Value} {ms : List Leaf} {u : Value}, Pr (fun v k => LfIs P w k v) vs ms → vs[j]? = some u → ∃ k, ms[j]? = some k ∧ LfIs P w k u := by
            intro j vs ms u pr
            induction pr generalizing j with
            | nil => intro e; simp at e
            | cons h1 _ ih =>
              intro e
              cases j with
              | zero => simp at e; subst e; exact ⟨_, rfl, h1⟩
              | succ j => simpa using ih j (by simpa using e)
          exact hg i hit (by rw [Array.getElem?_toList]; exact hv)
        · obtain ⟨h', g2, d', tk', os'⟩ := s'
          have eg : g2 = s.gens := mv.gens
          have ed : d' = s.drawn := mv.drawn
          have eo : os' = s.os := mv.os
          subst eg; subst ed; subst eo
          show wpAny _ _ _ _ _ _
          refine wpAny_pure ?_
          show wpAny _ _ (ret Value.none) _ _ _
          refine wpAny_pure ⟨rfl, h', tk', rfl, sg, fun b o e => ?_⟩
          have b0 : b < s.heap.objs.size := Heap.lt_size e
          refine mv.heap b o ?_ (Heap.get?_push_of_some _ (keep1 b o e))
          rw [size1]; intro m
          rcases List.mem_cons.mp m with m | m
          · exact Nat.ne_of_lt b0 m
          · exact Nat.ne_of_lt (Nat.lt_succ_of_lt b0) (List.mem_singleton.mp m)
      · cases r₂ with
        | error e => exact hr₂
        | ok fl₂ =>
          cases fl₂ with
          | ret r =>
            obtain ⟨rfl, h', tk, rfl, sg, kp⟩ := hr₂
            repeat (any_goals (first | assumption | wp_step))
            exact fin _ _ sg kp
          | _ => exact hr₂.elim
    | _ => exact hr.elim
theorem set_of_str {x : Str} {t : Tok} {ks : List Leaf} {Q : Value → Shared → Prop} (hh : A.handled = none) (hks : ks = x.cps.toList.map fun c => Leaf.text ⟨#[c]⟩) (bd : ks.length + 1 < scanBound)
    (fin : ∀ (h' : Heap) (tk : Nat), SG P w h' s.heap.objs.size ks → (∀ b o, s.heap.get? b = some o → h'.get? b = some o) → Q (.ref s.heap.objs.size) { s with heap := h', toks := tk }) :
    wpAny (model P w) A (call (.type "set") [.str x t]) Q E s := by
  obtain ⟨c0, tl0, mro0⟩ := PySem.F.called_set.mro
  have made0 := PySem.F.called_set.made
  have sub0 := PySem.F.called_set.sub
  have t0 := PySem.F.called_set.notType
  have c1 := PySem.F.called_set.canCreate
  have tc := PySem.F.typeCall_set_1 (.str x t)
  refine wpAny_call (codeAny_of_tree ?_)
  show wpAny _ _ (callAny (.type "set") _) _ _ _
  refine wpAny_pure ⟨Code.quiet_builtin _ (by decide +kernel), codeAny_builtin PySem.F.entry_type_call ?_⟩
  rw [Around.under_plain (weight_type_call_type "set" [.str x t] []) rfl]
  repeat (any_goals (first | assumption | wp_step))
  refine codeAny_mono (code_set_led1 (.str x t) (E := E) (Q₁ := fun obj s₁ => obj = .ref s.heap.objs.size ∧ s₁ = { s with heap := s.heap.push { cls := .type "set", dict := none, data := .set #[] 0 (.fresh 0 0 (!w.params.followText "set-order")) } }) ⟨rfl, rfl⟩) fun r s₁ hr => ?_
  cases r with
  | error e => exact hr
  | ok fl =>
    cases fl with
    | ret obj =>
      obtain ⟨rfl, rfl⟩ := hr
      generalize hz : s.heap.push { cls := .type "set", dict := none, data := .set #[] 0 (.fresh 0 0 (!w.params.followText "set-order")) } = H1
      have zS : H1.get? s.heap.objs.size = some { cls := .type "set", dict := none, data := .set #[] 0 (.fresh 0 0 (!w.params.followText "set-order")) } := by rw [← hz]; exact Heap.get?_push_size _ rfl
      have keep1 : ∀ b o, s.heap.get? b = some o → H1.get? b = some o := fun b o e => by rw [← hz]; exact Heap.get?_push_of_some _ e
      have size1 : H1.objs.size = s.heap.objs.size + 1 := by rw [← hz]; exact Heap.size_push ..
      have ty : Shared.TypeIs { s with heap := H1 } (.ref s.heap.objs.size) "set" := ⟨_, zS, rfl⟩
      have li := PySem.F.called_set.init.lookup
      have bi := PySem.F.called_set.init.bind (.ref s.heap.objs.size)
      repeat (any_goals (first | assumption | wp_step))
      refine codeAny_mono (codeAny_call_builtin (R := wants (fun r s₂ => r = .none ∧ ∃ h' tk, s₂ = { s with heap := h', toks := tk } ∧ SG P w h' s.heap.objs.size ks ∧ (∀ b o, s.heap.get? b = some o → h'.get? b = some o)) E)
        PySem.F.called_set.init.plain PySem.F.entry_set_init (PySem.check_set_init_1 ty ?_)) fun r₂ s₂ hr₂ => ?_
      · have nsub := PySem.F.sub_str_set
        have nfrz := PySem.F.sub_str_frozenset
        have ndic : (Value.type "str" == Value.type "dict") = false := by decide
        unfold Builtin.«set.__init__» noKeywords Builtin.Frozenset.updateFrom
        generalize hPI : pyIter = PI
        wp_walk
        subst hPI
        refine wpAny_pyIter_str fun oI St W st => ?_
        refine wpAny_bind (wpAny_runValue ?_)
        have h3 : A.in1.in1.in1.handled = none := by simp [hh]
        have notfp : s.heap.objs.size ∉ [H1.objs.size] := by
          rw [size1]; intro m
          exact Nat.ne_of_lt (Nat.lt_succ_self _) (List.mem_singleton.mp m)
        have isz : x.cps.size = ks.length := by rw [hks, List.length_map, Array.length_toList]
        refine sg_update ((W _ h3).toS) s.heap.objs.size notfp ks isz bd (fun i v hv => ?_) (x.cps.size - 0) 0 _ (by omega) (Nat.zero_le _)
          st (sg_fresh (Heap.get?_push_of_some _ zS)) fun s' mv sg => ?_
        · obtain ⟨c, u, h1, rfl⟩ := hv
          refine ⟨.text ⟨#[c]⟩, ?_, LfIs.of ⟨u, rfl⟩⟩
          rw [hks, List.getElem?_map, Array.getElem?_toList, h1]; rfl
        · obtain ⟨h', g2, d', tk', os'⟩ := s'
          have eg : g2 = s.gens := mv.gens
          have ed : d' = s.drawn := mv.drawn
          have eo : os' = s.os := mv.os
          subst eg; subst ed; subst eo
          show wpAny _ _ _ _ _ _
          refine wpAny_pure ?_
          show wpAny _ _ (ret Value.none) _ _ _
          refine wpAny_pure ⟨rfl, h', tk', rfl, sg, fun b o e => ?_⟩
          have b0 : b < s.heap.objs.size := Heap.lt_size e
          refine mv.heap b o ?_ (Heap.get?_push_of_some _ (keep1 b o e))
          rw [size1]; intro m
          rcases List.mem_cons.mp m with m | m
          · exact Nat.ne_of_lt b0 m
          · exact Nat.ne_of_lt (Nat.lt_succ_of_lt b0) (List.mem_singleton.mp m)
      · cases r₂ with
        | error e => exact hr₂
        | ok fl₂ =>
          cases fl₂ with
          | ret r =>
            obtain ⟨rfl, h', tk, rfl, sg, kp⟩ := hr₂
            repeat (any_goals (first | assumption | wp_step))
            exact fin _ _ sg kp
          | _ => exact hr₂.elim
    | _ => exact hr.elim
end
end RS

/-! J3: sorted(a set); set and sorted as rules -/
namespace RS
open PySem PySem.Spec L2 PyProof.Rows PySem.W
def lfD : Leaf → PyData
  | .none => .none
  | .num i => .int i
  | .text x => .str x
def lfV : Leaf → V
  | .none => .non
  | .num i => .int i
  | .text x => .str x
def allNum (l : List Leaf) : Bool := l.all fun k => match k with | .num _ => true | _ => false
def allText (l : List Leaf) : Bool := l.all fun k => match k with | .text _ => true | _ => false
/-- strictly in order -/
def lfLt (a b : Leaf) : Prop := dataLt (lfD a) (lfD b) = true
theorem lf_rel {k : Leaf} {v : Value} (h : LfX k v) : RelV (lfV k) v := by
  cases k with
  | none => rw [show v = .none from h]; rfl
  | num i => obtain ⟨t, rfl⟩ := h; exact ⟨t, rfl⟩
  | text x => obtain ⟨t, rfl⟩ := h; exact ⟨t, rfl⟩
theorem lf_reads {k : Leaf} {v : Value} (h : LfX k v) (hp : Heap) : ∃ as, Reads hp v (lfD k) as := by
  cases k with
  | none => rw [show v = .none from h]; exact ⟨_, .none⟩
  | num i => obtain ⟨t, rfl⟩ := h; exact ⟨_, .int _ _⟩
  | text x => obtain ⟨t, rfl⟩ := h; exact ⟨_, .str _ _⟩
theorem Pr.each {α β : Type} {F : α → β → Prop} : ∀ {as : List α} {bs : List β}, Pr F as bs → EachIs F as bs
  | _, _, .nil => .nil
  | _, _, .cons h t => .cons h t.each
theorem each_pr {α β : Type} {F : α → β → Prop} : ∀ {as : List α} {bs : List β}, EachIs F as bs → Pr F as bs
  | _, _, .nil => .nil
  | _, _, .cons h t => .cons h (each_pr t)
theorem homog_alike {l : List Leaf} (h : (allNum l || allText l) = true) : AllAlike (l.map lfD) ∧ Sortable (l.map lfD) ∧ ∀ k ∈ l, (lfD k).depth = 0 := by
  rw [Bool.or_eq_true] at h
  unfold allNum allText at h
  rw [List.all_eq_true, List.all_eq_true] at h
  rcases h with h | h
  · have h' : ∀ k ∈ l, ∃ i, k = .num i := fun k hk => by
      have := h k hk
      cases k <;> first | exact ⟨_, rfl⟩ | cases this
    refine ⟨fun d hd d' hd' => ?_, .inr fun d hd => ?_, fun k hk => ?_⟩
    · obtain ⟨k, hk, rfl⟩ := List.mem_map.mp hd
      obtain ⟨k', hk', rfl⟩ := List.mem_map.mp hd'
      obtain ⟨i, rfl⟩ := h' k hk
      obtain ⟨j, rfl⟩ := h' k' hk'
      rfl
    · obtain ⟨k, hk, rfl⟩ := List.mem_map.mp hd
      obtain ⟨i, rfl⟩ := h' k hk
      exact ⟨(fun z => nomatch z), (fun xs z => nomatch z)⟩
    · obtain ⟨i, rfl⟩ := h' k hk; rfl
  · have h' : ∀ k ∈ l, ∃ i, k = .text i := fun k hk => by
      have := h k hk
      cases k <;> first | exact ⟨_, rfl⟩ | cases this
    refine ⟨fun d hd d' hd' => ?_, .inr fun d hd => ?_, fun k hk => ?_⟩
    · obtain ⟨k, hk, rfl⟩ := List.mem_map.mp hd
      obtain ⟨k', hk', rfl⟩ := List.mem_map.mp hd'
      obtain ⟨i, rfl⟩ := h' k hk
      obtain ⟨j, rfl⟩ := h' k' hk'
      rfl
    · obtain ⟨k, hk, rfl⟩ := List.mem_map.mp hd
      obtain ⟨i, rfl⟩ := h' k hk
      exact ⟨(fun z => nomatch z), (fun xs z => nomatch z)⟩
    · obtain ⟨i, rfl⟩ := h' k hk; rfl
theorem homog_sub {l l' : List Leaf} (h : (allNum l || allText l) = true) (hs : ∀ k ∈ l', k ∈ l) : (allNum l' || allText l') = true := by
  rw [Bool.or_eq_true] at h ⊢
  unfold allNum allText at h ⊢
  rw [List.all_eq_true, List.all_eq_true] at h
  rw [List.all_eq_true, List.all_eq_true]
  rcases h with h | h
  · exact .inl fun k hk => h k (hs k hk)
  · exact .inr fun k hk => h k (hs k hk)
/-- of unlike ones of one sort one is less -/
theorem lf_tri {l : List Leaf} (h : (allNum l || allText l) = true) {a b : Leaf} (ha : a ∈ l) (hb : b ∈ l) (ne : a ≠ b) (le : dataLe false lfD a b = true) : lfLt a b := by
  rw [dataLe_eq] at le
  simp only [cond_false, Bool.not_eq_true'] at le
  rw [Bool.or_eq_true] at h
  unfold allNum allText at h
  rw [List.all_eq_true, List.all_eq_true] at h
  unfold lfLt
  rcases h with h | h
  · have h1 := h a ha
    have h2 := h b hb
    cases a <;> first | cases h1 | skip
    cases b <;> first | cases h2 | skip
    rename_i i j
    simp only [lfD, dataLt_int, decide_eq_true_eq, decide_eq_false_iff_not] at le ⊢
    have : i ≠ j := fun z => ne (by rw [z])
    omega
  · have h1 := h a ha
    have h2 := h b hb
    cases a <;> first | cases h1 | skip
    cases b <;> first | cases h2 | skip
    rename_i x y
    simp only [lfD, dataLt_str, decide_eq_true_eq, decide_eq_false_iff_not] at le ⊢
    have n : x.cps.toList ≠ y.cps.toList := fun z => ne (by rw [str_of_cps z])
    refine Classical.byContradiction fun q => n ?_
    exact List.le_antisymm (List.not_lt.mp le) (List.not_lt.mp q)
section
variable {P : Program} {w : World} {A : Around} {E : Value → Shared → Prop} {s : Shared} {a : Addr} {l : List Leaf}
theorem sg_sorted {Q : Value → Shared → Prop} (g : SG P w s.heap a l) (hh : A.handled = none) (hom : (allNum l || allText l) = true) (hu : A.units + 64 < cLine)
    (fin : ∀ s' p (out : List Value) (c : Nat) (ls : List Leaf), (∀ b o, s.heap.get? b = some o → s'.heap.get? b = some o) → s'.gens = s.gens → s'.os = s.os → s.heap.objs.size ≤ p →
      s'.heap.get? p = some (seqObj "list" out.toArray c) → Pr (fun v k => LfX k v) out ls → ls.Pairwise lfLt → (∀ k, k ∈ ls ↔ k ∈ l) → ls.length ≤ sizeLine → Q (.ref p) s') :
    wpAny (model P w) A (call (.builtin "sorted") [.ref a]) Q E s := by
  obtain ⟨o, es, ep, t, ks, ho, ex, da, pr, nd, me, sz, bd, ft, ri, le⟩ := g
  have hb : es.size < scanBound := Nat.lt_of_le_of_lt sz bd
  refine Calls.call_function_entry kind_sorted plain_sorted entry_sorted (args_sorted1 _) ?_
  unfold Builtin.«sorted»
  refine wpAny_bind (m := checkCount "sorted" 1 1 _) (wpAny_pure ?_)
  refine wpAny_bind (collect_set (A := A.in1) hh ⟨o, ho, ex.1, da⟩ ft hb ri le fun s1 vs k1 hz g1 o1 pm => ?_)
  obtain ⟨ks2, pr2, pk⟩ := (pr.map (G := fun v k => LfIs P w k v) Prod.snd fun e k h => h.1).perm pm
  have hl : vs.length ≤ sizeLine := by
    rw [pm.length_eq, List.length_map, Array.length_toList]
    exact fits_of_scanBound hb
  have hom2 := homog_sub hom (l' := ks2) fun k hk => (me k).mp (pk.mem_iff.mp hk)
  obtain ⟨al, so, dp⟩ := homog_alike hom2
  refine wpAny_bind (wpAny_newList ?_ hl)
  have at1 : (s1.heap.push (seqObj "list" vs.toArray 0)).get? s1.heap.objs.size = some (seqObj "list" vs.toArray 0) := Heap.get?_push_size _ rfl
  have er : EachIs (fun v b => ∃ as, Reads (sortingHeap (s1.heap.push (seqObj "list" vs.toArray 0)) s1.heap.objs.size vs) v (lfD b) as) vs ks2 := pr2.each.mono fun v k h => lf_reads h.2.2 _
  have e0 : EachIs (fun v k => LfX k v) vs ks2 := pr2.each.mono fun v k h => h.2.2
  refine wpAny_bind (wpAny_holding (wpAny_call_entry slot_list_sort ⟨_, at1, rfl⟩ entry_list_sort (list_sort_vals (κ := dataKind (sortingHeap (s1.heap.push (seqObj "list" vs.toArray 0)) s1.heap.objs.size vs) (ks2.map lfD)) at1
    (SortsAt.data (s := { s1 with heap := sortingHeap (s1.heap.push (seqObj "list" vs.toArray 0)) s1.heap.objs.size vs }) (each_map (R := fun v d => ∃ as, Reads (sortingHeap (s1.heap.push (seqObj "list" vs.toArray 0)) s1.heap.objs.size vs) v d as) lfD er) al so fun d hd => ?_) hl ⟨_, rfl, ?_⟩) (args_list_sort _)))
  · obtain ⟨k, hk, rfl⟩ := List.mem_map.mp hd
    rw [dp k hk]
    show A.units + 1 + 1 + 0 < cLine
    omega
  · have out := sortVals_data (h' := sortingHeap (s1.heap.push (seqObj "list" vs.toArray 0)) s1.heap.objs.size vs) false e0 er al
    generalize hso : sortVals (dataKind (sortingHeap (s1.heap.push (seqObj "list" vs.toArray 0)) s1.heap.objs.size vs) (ks2.map lfD)) false vs vs = so2 at out ⊢
    obtain ⟨c, hc⟩ := sortedHeap_at (vs := vs) (out := so2.toArray) at1
    have pmS := List.mergeSort_perm ks2 (dataLe false lfD)
    have nd2 : (ks2.mergeSort (dataLe false lfD)).Nodup := pmS.nodup_iff.mpr (pk.nodup_iff.mpr nd)
    have so3 : (ks2.mergeSort (dataLe false lfD)).Pairwise fun a b => dataLe false lfD a b = true := sort_pairwise (sortLe_total _ _ _) _
    have hom3 := homog_sub hom2 (l' := ks2.mergeSort (dataLe false lfD)) fun k hk => pmS.mem_iff.mp hk
    refine wpAny_pure ⟨_, rfl, fin _ s1.heap.objs.size so2 c (ks2.mergeSort (dataLe false lfD)) (fun b u e => ?_) g1 o1 hz hc (each_pr out) ?_ (fun k => pmS.mem_iff.trans (pk.mem_iff.trans (me k))) ?_⟩
    · have q := k1 b u e
      have lt := Heap.lt_size q
      show (sortedHeap (s1.heap.push (seqObj "list" vs.toArray 0)) s1.heap.objs.size vs so2.toArray).get? b = some u
      rw [sortedHeap_old (Nat.ne_of_lt lt) (by rw [PyProof.Rows.size_push']; exact Nat.lt_succ_of_lt lt)]
      exact Heap.get?_push_of_some _ q
    · generalize ks2.mergeSort (dataLe false lfD) = L at nd2 so3 hom3
      clear out pmS
      induction L with
      | nil => exact .nil
      | cons x L ih =>
        rw [List.pairwise_cons] at so3 ⊢
        rw [List.nodup_cons] at nd2
        exact ⟨fun y hy => lf_tri hom3 (by simp) (by simp [hy]) (fun z => nd2.1 (z ▸ hy)) (so3.1 y hy), ih nd2.2 so3.2 (homog_sub hom3 fun k hk => by simp [hk])⟩
    · rw [pmS.length_eq, ← pr2.len]; exact hl
/-! ### as rules -/
def sgO (P : Program) (w : World) (a : Addr) (l : List Leaf) : HO := .ext fun h => SG P w h a l
theorem sgO_new {H : Hp} {h : Heap} (g : SG P w h a l) : ObjOk P w H h a (sgO P w a l) := by
  have g2 := g
  obtain ⟨o, _, _, _, _, ho, _⟩ := g2
  exact ⟨g, ⟨o, ho⟩, fun h1 h2 p k => p.at k⟩
end
section
variable {X : Cx}
theorem sgO_get {pins : List (Addr × Obj)} {σ : L2.St} {H : Hp} {s : Shared} {a : Addr} {l : List Leaf} (I : Inv X pins σ H s) (ha : H a = some (sgO X.prog X.w a l)) : SG X.prog X.w s.heap a l := (I.hok a _ ha).1
def rSetG (X : Cx) : List V → Hp → VK → Prop := fun vs H Q => ∃ ks : List Leaf, ks.length + 1 < scanBound ∧ ((∃ a, vs = [.ref a] ∧ SqL X.K H a (ks.map lfV)) ∨ (∃ x : Str, vs = [.str x] ∧ ks = x.cps.toList.map fun c => Leaf.text ⟨#[c]⟩)) ∧
  ∀ p, H p = none → Q (.ref p) (upd H p (sgO X.prog X.w p ks))
theorem lf_of_rel {k : Leaf} {v : Value} (h : RelV (lfV k) v) : LfX k v := by
  cases k with
  | none => exact h
  | num i => exact h
  | text x => exact h
theorem lfs_of : ∀ {ks : List Leaf} {us : List Value} {P : Program} {w : World}, Vals (ks.map lfV) us → Pr (fun v k => LfIs P w k v) us ks
  | [], _, _, _, r => by cases r; exact .nil
  | k :: ks, _, _, _, r => by cases r with | cons h t => exact .cons (LfIs.of (lf_of_rel h)) (lfs_of t)
theorem cr_setG (hc : X.calm = true) : CallR X (.type "set") (rSetG X) := by
  intro pins s σ H vs us Q I r h
  obtain ⟨ks, bd, src, q⟩ := h
  rcases src with ⟨a, rfl, hs⟩ | ⟨x, rfl, hk⟩
  · obtain ⟨its, rv, hl, _⟩ := I.list hs
    rw [Vals.ref1 r]
    refine set_of_list (I.ok.hd hc) hl.isList (lfs_of (by simpa using rv)) bd fun h' tk sg k => ?_
    exact ⟨.ref _, upd H s.heap.objs.size (sgO X.prog X.w s.heap.objs.size ks), I.laid k (Nat.le_refl _) (sgO_new sg), rfl, q _ (I.hok.fresh (Nat.le_refl _))⟩
  · obtain ⟨u, rfl, t, rfl⟩ := vals1 r
    refine set_of_str (I.ok.hd hc) hk bd fun h' tk sg k => ?_
    exact ⟨.ref _, upd H s.heap.objs.size (sgO X.prog X.w s.heap.objs.size ks), I.laid k (Nat.le_refl _) (sgO_new sg), rfl, q _ (I.hok.fresh (Nat.le_refl _))⟩
def rSortedG (X : Cx) : List V → Hp → VK → Prop := fun vs H Q => ∃ (a : Addr) (l : List Leaf), vs = [V.ref a] ∧ H a = some (sgO X.prog X.w a l) ∧ (allNum l || allText l) = true ∧
  ∀ (ls : List Leaf) (p : Addr), ls.Pairwise lfLt → (∀ k, k ∈ ls ↔ k ∈ l) → H p = none → Q (.ref p) (upd H p (.lst (ls.map lfV)))
theorem vals_lf : ∀ {out : List Value} {ls : List Leaf}, Pr (fun v k => LfX k v) out ls → Vals (ls.map lfV) out
  | _, _, .nil => .nil
  | _, _, .cons h t => .cons (lf_rel h) (vals_lf t)
theorem cr_sortedG (hc : X.calm = true) (hu : X.A.units + 64 < cLine) : CallR X (.builtin "sorted") (rSortedG X) := by
  intro pins s σ H vs us Q I r h
  obtain ⟨a, l, rfl, ha, hom, q⟩ := h
  rw [Vals.ref1 r]
  refine sg_sorted (sgO_get I ha) (I.ok.hd hc) hom hu fun s' p out c ls k g o hp hg pr so me hl => ?_
  have hn : H p = none := I.hok.fresh hp
  have J : Inv X pins σ (upd H p (.lst (ls.map lfV))) { s with heap := s'.heap, gens := s'.gens, drawn := s'.drawn, toks := s'.toks } :=
    I.call (ch := []) (Un.laid k hp hn) (I.hok.laid k hp ⟨by rw [List.length_map]; exact hl, out, c, vals_lf pr, hg⟩) (by rw [g]; exact I.bare) (fun _ z => nomatch z)
  have e : s' = { s with heap := s'.heap, gens := s'.gens, drawn := s'.drawn, toks := s'.toks } := by
    cases s'
    cases s
    cases o
    rfl
  rw [e]
  exact ⟨.ref p, _, J, rfl, q ls p so me hn⟩
end
end RS

/-! J4: sorted(set(..)), x.split(y) in the language -/
namespace RS
open PySem PySem.Spec L2
/-! ### sorted, each once -/
section
variable {α : Type} {lt : α → α → Bool}
theorem insS_mem {x k : α} (h : ∀ a b, lt a b = false → lt b a = false → a = b) : ∀ {l : List α}, k ∈ insS lt x l ↔ k = x ∨ k ∈ l
  | [] => by simp [insS]
  | y :: ys => by
    unfold insS
    split
    · simp
    · split
      · rw [List.mem_cons, insS_mem h, List.mem_cons]
        constructor
        · rintro (z | z | z)
          · exact .inr (.inl z)
          · exact .inl z
          · exact .inr (.inr z)
        · rintro (z | z | z)
          · exact .inr (.inl z)
          · exact .inl z
          · exact .inr (.inr z)
      · rename_i h1 h2
        have := h x y (by simpa using h1) (by simpa using h2)
        subst this
        simp
theorem sortS_mem {k : α} (h : ∀ a b, lt a b = false → lt b a = false → a = b) : ∀ {l : List α}, k ∈ sortS lt l ↔ k ∈ l
  | [] => by simp [sortS]
  | x :: xs => by rw [sortS, insS_mem h, sortS_mem h, List.mem_cons]
theorem insS_pw {x : α} (h : ∀ a b, lt a b = false → lt b a = false → a = b) (ht : ∀ a b c, lt a b = true → lt b c = true → lt a c = true) : ∀ {l : List α}, l.Pairwise (fun a b => lt a b = true) → (insS lt x l).Pairwise (fun a b => lt a b = true)
  | [], _ => by simp [insS]
  | y :: ys, hp => by
    rw [List.pairwise_cons] at hp
    unfold insS
    split
    · rename_i h1
      rw [List.pairwise_cons, List.pairwise_cons]
      refine ⟨fun z hz => ?_, hp⟩
      rcases List.mem_cons.mp hz with rfl | hz
      · exact h1
      · exact ht _ _ _ h1 (hp.1 z hz)
    · split
      · rename_i h1 h2
        rw [List.pairwise_cons]
        refine ⟨fun z hz => ?_, insS_pw h ht hp.2⟩
        rcases (insS_mem h).mp hz with rfl | hz
        · exact h2
        · exact hp.1 z hz
      · rw [List.pairwise_cons]; exact hp
theorem sortS_pw (h : ∀ a b, lt a b = false → lt b a = false → a = b) (ht : ∀ a b c, lt a b = true → lt b c = true → lt a c = true) : ∀ {l : List α}, (sortS lt l).Pairwise (fun a b => lt a b = true)
  | [] => by simp [sortS]
  | x :: xs => by rw [sortS]; exact insS_pw h ht (sortS_pw h ht)
/-- strictly sorted lists of the same members are equal -/
theorem pw_uniq {r : α → α → Prop} (as : ∀ a b, r a b → r b a → False) : ∀ {l l' : List α}, l.Pairwise r → l'.Pairwise r → (∀ k, k ∈ l ↔ k ∈ l') → l = l'
  | [], [], _, _, _ => rfl
  | [], b :: l', _, _, h => by have := (h b).mpr (by simp); simp at this
  | a :: l, [], _, _, h => by have := (h a).mp (by simp); simp at this
  | a :: l, b :: l', h1, h2, h => by
    rw [List.pairwise_cons] at h1 h2
    have e : a = b := by
      have q1 := (h a).mp (by simp)
      have q2 := (h b).mpr (by simp)
      rcases List.mem_cons.mp q1 with z | z
      · exact z
      · rcases List.mem_cons.mp q2 with y | y
        · exact y.symm
        · exact (as _ _ (h2.1 a z) (h1.1 b y)).elim
    subst e
    have nr : ∀ k, r a k → k ≠ a := fun k hk e => by subst e; exact as _ _ hk hk
    rw [pw_uniq as h1.2 h2.2 fun k => ⟨fun hk => ?_, fun hk => ?_⟩]
    · rcases List.mem_cons.mp ((h k).mp (List.mem_cons_of_mem _ hk)) with z | z
      · exact absurd z (nr k (h1.1 k hk))
      · exact z
    · rcases List.mem_cons.mp ((h k).mpr (List.mem_cons_of_mem _ hk)) with z | z
      · exact absurd z (nr k (h2.1 k hk))
      · exact z
end
section
open PySem.W PyProof.Rows
theorem ltI1 (a b : Int) (h : decide (a < b) = false) (h' : decide (b < a) = false) : a = b := by simp at h h'; omega
theorem ltI2 (a b c : Int) (h : decide (a < b) = true) (h' : decide (b < c) = true) : decide (a < c) = true := by simp at *; omega
theorem ltC1 (a b : Nat) (h : decide (a < b) = false) (h' : decide (b < a) = false) : a = b := by simp at h h'; omega
theorem ltC2 (a b c : Nat) (h : decide (a < b) = true) (h' : decide (b < c) = true) : decide (a < c) = true := by simp at *; omega
theorem ltX1 (a b : Str) (h : decide (a.cps.toList < b.cps.toList) = false) (h' : decide (b.cps.toList < a.cps.toList) = false) : a = b := by
  simp only [decide_eq_false_iff_not] at h h'
  exact str_of_cps (List.le_antisymm (List.not_lt.mp h') (List.not_lt.mp h))
theorem ltX2 (a b c : Str) (h : decide (a.cps.toList < b.cps.toList) = true) (h' : decide (b.cps.toList < c.cps.toList) = true) : decide (a.cps.toList < c.cps.toList) = true := by
  simp only [decide_eq_true_eq] at *
  exact List.lt_trans h h'
theorem lf_asym (a b : Leaf) (h : lfLt a b) (h' : lfLt b a) : False := by
  unfold lfLt dataLt at h h'
  have := lex_trans _ _ _ h h'
  rw [lex_irrefl] at this
  cases this
theorem sortC_mem {k : Nat} {l : List Nat} : k ∈ sortC l ↔ k ∈ l := sortS_mem ltC1
theorem sortI_mem {k : Int} {l : List Int} : k ∈ sortI l ↔ k ∈ l := sortS_mem ltI1
theorem sortX_mem {k : Str} {l : List Str} : k ∈ sortX l ↔ k ∈ l := sortS_mem ltX1
theorem setC_eq {l : List Nat} {ls : List Leaf} (hp : ls.Pairwise lfLt) (hm : ∀ k, k ∈ ls ↔ k ∈ l.map fun c => Leaf.text ⟨#[c]⟩) : ls.map lfV = ((sortC l).map fun c => V.str ⟨#[c]⟩) := by
  have : ls = (sortC l).map fun c => Leaf.text ⟨#[c]⟩ := by
    refine pw_uniq lf_asym hp ?_ fun k => ?_
    · rw [List.pairwise_map]
      refine List.Pairwise.imp ?_ (sortS_pw (l := l) ltC1 ltC2)
      intro a b h
      unfold lfLt
      simp only [lfD, dataLt_str, decide_eq_true_eq] at h ⊢
      show [a] < [b]
      exact List.Lex.rel h
    · rw [hm, List.mem_map, List.mem_map]
      exact ⟨fun ⟨c, h1, h2⟩ => ⟨c, sortC_mem.mpr h1, h2⟩, fun ⟨c, h1, h2⟩ => ⟨c, sortC_mem.mp h1, h2⟩⟩
  rw [this, List.map_map]; rfl
theorem setI_eq {l : List Int} {ls : List Leaf} (hp : ls.Pairwise lfLt) (hm : ∀ k, k ∈ ls ↔ k ∈ l.map Leaf.num) : ls.map lfV = (sortI l).map V.int := by
  have : ls = (sortI l).map Leaf.num := by
    refine pw_uniq lf_asym hp ?_ fun k => ?_
    · rw [List.pairwise_map]
      refine List.Pairwise.imp ?_ (sortS_pw (l := l) ltI1 ltI2)
      intro a b h
      unfold lfLt
      simp only [lfD, dataLt_int]
      exact h
    · rw [hm, List.mem_map, List.mem_map]
      exact ⟨fun ⟨c, h1, h2⟩ => ⟨c, sortI_mem.mpr h1, h2⟩, fun ⟨c, h1, h2⟩ => ⟨c, sortI_mem.mp h1, h2⟩⟩
  rw [this, List.map_map]; rfl
theorem setX_eq {l : List Str} {ls : List Leaf} (hp : ls.Pairwise lfLt) (hm : ∀ k, k ∈ ls ↔ k ∈ l.map Leaf.text) : ls.map lfV = (sortX l).map V.str := by
  have : ls = (sortX l).map Leaf.text := by
    refine pw_uniq lf_asym hp ?_ fun k => ?_
    · rw [List.pairwise_map]
      refine List.Pairwise.imp ?_ (sortS_pw (l := l) ltX1 ltX2)
      intro a b h
      unfold lfLt
      simp only [lfD, dataLt_str]
      exact h
    · rw [hm, List.mem_map, List.mem_map]
      exact ⟨fun ⟨c, h1, h2⟩ => ⟨c, sortX_mem.mpr h1, h2⟩, fun ⟨c, h1, h2⟩ => ⟨c, sortX_mem.mp h1, h2⟩⟩
  rw [this, List.map_map]; rfl
end
theorem reps_c {K : PySem.W.Frag} {m : List Addr} {H : Hp} : ∀ l : List Nat, Reps K m H (l.map fun c => D.str ⟨#[c]⟩) (l.map fun c => V.str ⟨#[c]⟩)
  | [] => by simp [Reps.nil_]
  | c :: l => by simp only [List.map_cons]; rw [Reps.cons_]; exact ⟨_, _, rfl, Rep.str_.mpr rfl, reps_c l⟩
theorem reps_x {K : PySem.W.Frag} {m : List Addr} {H : Hp} : ∀ l : List Str, Reps K m H (l.map D.str) (l.map V.str)
  | [] => by simp [Reps.nil_]
  | c :: l => by simp only [List.map_cons]; rw [Reps.cons_]; exact ⟨_, _, rfl, Rep.str_.mpr rfl, reps_x l⟩
theorem reps_i {K : PySem.W.Frag} {m : List Addr} {H : Hp} : ∀ l : List Int, Reps K m H (l.map D.int) (l.map V.int)
  | [] => by simp [Reps.nil_]
  | c :: l => by simp only [List.map_cons]; rw [Reps.cons_]; exact ⟨_, _, rfl, Rep.int_.mpr rfl, reps_i l⟩
theorem upd_get {H : Hp} {p : Addr} {o : HO} : upd H p o p = some o := upd_same
theorem Post.no_bind {K : PySem.W.Frag} {m : List Addr} {H : Hp} {α β γ : Type} {rel : List Addr → Hp → α → β → Prop} {r : R γ} {g : γ → Hs → R α} {Q : β → Hp → Prop} (h : ∀ a S, g a S = .no) (p : Post K m H rel (r.bind g) Q) : False := by
  cases r with
  | ok a S => rw [R.bind_ok, h] at p; exact p
  | ex => exact p
  | no => exact p
theorem two_new {K : PySem.W.Frag} {m : List Addr} {H : Hp} {S : Hs} {ds : List D} {xs : List V} {Q : VK} (h : Post K m H (Rep K) (newO (.lst ds) S) Q) (rs : RepS K m H S) {p p' : Addr} {o : HO} (hp : H p = none) (hp' : upd H p o p' = none) (r : ∀ m H, Reps K m H ds xs) : Q (.ref p') (upd (upd H p o) p' (.lst xs)) := by
  have rs2 := rs.tupNew (o := o) hp
  refine h.ok ((Ext.tupNew rs hp).trans (Ext.new rs2 hp')) (rs2.newList hp' (r _ _)) ?_
  rw [Rep.ref_]
  exact ⟨p', by rw [← rs.len, List.getElem?_append_right (Nat.le_refl _)]; simp, rfl⟩
section
variable {Φ : Nat → List D → Hs → R D} {G : Nat → D} {k : Nat}
variable {X : Cx} {a b d e : Expr} {ia ib id ie : E} {pos p : Pos} {es : List Expr} {il : E}
theorem me_split {apos : Pos} (ho : PE X a (mD Φ G X ia)) (hb : plainBase a = true) (hl : (apos.endLine == pos.line) = true) (hs : noStars [e]) (h : PA X [e] (mL Φ G X il)) : PE X (.Call (.Attribute a "split" apos) [e] [] pos) (mD Φ G X (.bi .split (.cons ia il))) := by
  refine PE.mono (pe_bm F.plainAttrs_str F.slot_str_split F.type_str_split mt_split ho h (plain_base hb) (few_ok hs (by simp)) hl (star_cons (hs e List.mem_cons_self)) (star_any fun e' he' => hs e' (List.mem_cons_of_mem _ he'))) fun σ H Q ⟨ρ, S, m, env, rs, q⟩ => ?_
  simp only [den, denL, R.bind_assoc, R.bind_ok] at q
  refine tG_step env rs q fun m1 H1 S1 x v e1 env1 rs1 r1 p1 => ?_
  cases x with
  | str z =>
    rw [Rep.str_] at r1
    subst r1
    refine ⟨rfl, tG_step env1 rs1 p1 fun m2 H2 S2 ds vs e2 env2 rs2 r2 p2 => ?_⟩
    match ds, r2, p2 with
    | [], _, p2 => exact p2.elim
    | _ :: _ :: _, _, p2 => exact (by simpa [biF, Post] using p2 : False).elim
    | [y], r2, p2 =>
      obtain ⟨u, rfl, r⟩ := r2.one_
      cases y with
      | str y =>
        rw [Rep.str_] at r
        subst r
        simp only [biF] at p2
        obtain ⟨⟨h1, h2⟩, p2⟩ := p2.ite
        exact ⟨z, y, rfl, rfl, h1, h2, fun p hp => p2.lstNew rs2 (reps_x _) hp⟩
      | _ => exact (by simpa [biF, Post] using p2 : False).elim
  | _ => exact (p1.no_bind fun a S => by simp [biF]).elim
theorem me_srs (hc : X.calm = true) (hu : X.A.units + 64 < cLine) (hg : Gl X "set") (hm : X.mg "set" = none) (hg2 : Gl X "sorted") (hm2 : X.mg "sorted" = none) (hs : notStar a = true) (ha : PE X a (mD Φ G X ia)) {p2 pos2 : Pos} :
    PE X (.Call (.Name "sorted" p2) [.Call (.Name "set" p) [a] [] pos] [] pos2) (mD Φ G X (.bi .sortedSet (.cons ia .nil))) := by
  have h0 : PE X (.Call (.Name "set" p) [a] [] pos) _ := pe_callTy (cr_setG hc) hg hm (by first | exact PyProof.Rows.boot_set | exact PySem.boot_set) (pa_cons ha pa_nil (star_cons hs)) (by decide) (by decide) (star_cons hs) rfl
  refine PE.mono (pe_callB (cr_sortedG hc hu) hg2 hm2 (by first | exact PyProof.Rows.boot_sorted | exact PySem.boot_sorted) (pa_cons h0 pa_nil (star_cons rfl)) (by decide) (by decide) (star_cons rfl) rfl) fun σ H Q ⟨ρ, S, m, env, rs, q⟩ => ?_
  simp only [den, denL, R.bind_assoc, R.bind_ok] at q
  refine tG_step env rs q fun m1 H1 S1 x v e1 env1 rs1 r1 p1 => ?_
  simp only [biF] at p1
  split at p1
  · rename_i ds hd
    cases x with
    | str z =>
      rw [Rep.str_] at r1
      subst r1
      simp only [setD] at hd
      split at hd
      · rename_i hl
        cases hd
        refine ⟨z.cps.toList.map fun c => Leaf.text ⟨#[c]⟩, ?_, .inr ⟨z, rfl, rfl⟩, fun p hp => ⟨p, _, rfl, upd_get, ?_, fun ls p' hls hmem hp' => ?_⟩⟩
        · rw [List.length_map]; exact hl
        · simp [allText]
        · rw [setC_eq hls hmem]
          exact two_new p1 rs1 hp hp' fun _ _ => reps_c _
      · cases hd
    | ref n =>
      simp only [setD] at hd
      split at hd
      · rename_i ds0 hq
        obtain ⟨q, xs, rfl, hs1, r⟩ := seqL_rep rs1 r1 hq
        split at hd
        · rename_i hl
          split at hd
          · rename_i is hi
            cases hd
            have ev := ints_rep r hi
            subst ev
            have ln : is.length = ds0.length := by have := r.len; simpa using this.symm
            refine ⟨is.map Leaf.num, ?_, .inl ⟨q, rfl, by rw [List.map_map]; exact hs1⟩, fun p hp => ⟨p, _, rfl, upd_get, ?_, fun ls p' hls hmem hp' => ?_⟩⟩
            · rw [List.length_map, ln]; exact hl
            · simp [allNum]
            · rw [setI_eq hls hmem]
              exact two_new p1 rs1 hp hp' fun _ _ => reps_i _
          · split at hd
            · rename_i is hi
              cases hd
              have ev := strs_rep r hi
              subst ev
              have ln : is.length = ds0.length := by have := r.len; simpa using this.symm
              refine ⟨is.map Leaf.text, ?_, .inl ⟨q, rfl, by rw [List.map_map]; exact hs1⟩, fun p hp => ⟨p, _, rfl, upd_get, ?_, fun ls p' hls hmem hp' => ?_⟩⟩
              · rw [List.length_map, ln]; exact hl
              · simp [allText]
              · rw [setX_eq hls hmem]
                exact two_new p1 rs1 hp hp' fun _ _ => reps_x _
            · cases hd
        · cases hd
      · cases hd
    | _ => simp [setD] at hd
  · exact p1.elim
end
end RS

namespace RS
open PySem PySem.Spec L2
variable {Φ : Nat → List D → Hs → R D} {G : Nat → D} {k : Nat}
section
variable {X : Cx} {a b d e tg : Expr} {ia ib id ie : E} {pos p : Pos} {es : List Expr} {il : E}
/-! ### list(range(..)), zip -/
theorem rg_rep {K : PySem.W.Frag} {m : List Addr} {H : Hp} {lo hi : Int} : Reps K m H (rangeD lo (hi - lo).toNat) (rgV lo hi) := by
  have : rgV lo hi = (List.range (hi - lo).toNat).map fun (i : Nat) => V.int (lo + i) := by
    unfold rgV
    rfl
  rw [this]
  unfold rangeD
  generalize List.range (hi - lo).toNat = l
  induction l with
  | nil => simp [Reps.nil_]
  | cons c l ih => simp only [List.map_cons]; rw [Reps.cons_]; exact ⟨_, _, rfl, Rep.int_.mpr rfl, ih⟩
theorem me_lrg1 (hc : X.calm = true) (hg : Gl X "range") (hm : X.mg "range" = none) (hg2 : Gl X "list") (hm2 : X.mg "list" = none) (hs : notStar a = true) (ha : PE X a (mD Φ G X ia)) {p2 pos2 : Pos} :
    PE X (.Call (.Name "list" p2) [.Call (.Name "range" p) [a] [] pos] [] pos2) (mD Φ G X (.lrg (.cons ia .nil))) := by
  refine PE.mono (pe_listRg hc hg2 hm2 (prg_1 hg hm ha (star_cons hs)) (star_cons rfl)) fun σ H Q ⟨ρ, S, m, env, rs, q⟩ => ?_
  simp only [den, denL, R.bind_assoc, R.bind_ok] at q
  refine tG_step env rs q fun m1 H1 S1 x v e1 env1 rs1 r1 p1 => ?_
  cases x with
  | int j =>
    rw [Rep.int_] at r1
    subst r1
    simp only [lrD] at p1
    obtain ⟨⟨hb, hz⟩, p1⟩ := p1.ite
    obtain ⟨h1, h2⟩ := big62_ok hb
    have hr : Reps X.K m1 H1 (rangeD 0 j.toNat) (rgV 0 j) := by simpa using rg_rep (K := X.K) (m := m1) (H := H1) (lo := 0) (hi := j)
    refine ⟨j, rfl, ⟨by decide, by decide, h1, h2, by simpa using hz⟩, fun q hq => p1.lstNew rs1 hr hq⟩
  | _ => exact p1.elim
theorem me_lrg2 (hc : X.calm = true) (hg : Gl X "range") (hm : X.mg "range" = none) (hg2 : Gl X "list") (hm2 : X.mg "list" = none) (hs : notStar a = true) (hs2 : notStar b = true) (ha : PE X a (mD Φ G X ia)) (hb : PE X b (mD Φ G X ib)) {p2 pos2 : Pos} :
    PE X (.Call (.Name "list" p2) [.Call (.Name "range" p) [a, b] [] pos] [] pos2) (mD Φ G X (.lrg (.cons ia (.cons ib .nil)))) := by
  refine PE.mono (pe_listRg hc hg2 hm2 (prg_2 hg hm ha hb (star_cons hs) (star_cons hs2) (star_any fun e' he' => by simp at he'; rw [he']; exact hs2)) (star_cons rfl)) fun σ H Q ⟨ρ, S, m, env, rs, q⟩ => ?_
  simp only [den, denL, R.bind_assoc, R.bind_ok] at q
  refine tG_step env rs q fun m1 H1 S1 x v e1 env1 rs1 r1 p1 => tG_step env1 rs1 p1 fun m2 H2 S2 y u e2 env2 rs2 r2 p2 => ?_
  cases x <;> cases y <;> first | exact p2.elim | skip
  rename_i i j
  rw [Rep.int_] at r1 r2
  subst r1 r2
  simp only [lrD] at p2
  obtain ⟨⟨hb1, hb2, hz⟩, p2⟩ := p2.ite
  obtain ⟨h1, h2⟩ := big62_ok hb1
  obtain ⟨h3, h4⟩ := big62_ok hb2
  exact ⟨i, j, rfl, rfl, ⟨h1, h2, h3, h4, hz⟩, fun q hq => p2.lstNew rs2 rg_rep hq⟩
theorem wd_zipT {K : PySem.W.Frag} {m : List Addr} {H : Hp} {ad bd : Addr} {xs ys : List V} {ds es : List D} (t : TupAt K H ad xs) (r : Reps K m H ds xs) (t' : TupAt K H bd ys) (r' : Reps K m H es ys) : WD K m H (RZ.ItzT K ad bd) ⟨[], pairsUp ds es⟩ := by
  refine ⟨fun i H1 hi ⟨m', S', e, rs, hh⟩ => ?_, fun H1 ⟨m', S', e, rs, hh⟩ => ?_, fun i H1 x H' hi y m' S' e rs hh => ?_⟩
  · have hi' : i < min ds.length es.length := by simpa [pairsUp_len] using hi
    have i1 : i < xs.length := by rw [← r.len]; omega
    have i2 : i < ys.length := by rw [← r'.len]; omega
    exact ⟨xs, ys, xs[i], ys[i], (t.ext e).sq, (t'.ext e).sq, by simp [i1], by simp [i2]⟩
  · refine ⟨xs, ys, (t.ext e).sq, (t'.ext e).sq, ?_⟩
    show xs.length ≤ (pairsUp ds es).length ∨ ys.length ≤ (pairsUp ds es).length
    rw [pairsUp_len, ← r.len, ← r'.len]
    omega
  · obtain ⟨T, z, w, rfl, hT, rfl, y1, y2⟩ := y
    have hi' : i < min ds.length es.length := by simpa [pairsUp_len] using hi
    have hd : ds[i]? = some (ds[i]'(by omega)) := List.getElem?_eq_getElem _
    have he : es[i]? = some (es[i]'(by omega)) := List.getElem?_eq_getElem _
    obtain ⟨v, r1, r2⟩ := (Reps.ext e ds r).get hd
    obtain ⟨u, r3, r4⟩ := (Reps.ext e es r').get he
    have z1 := y1 xs (t.ext e).sq
    have z2 := y2 ys (t'.ext e).sq
    rw [r1] at z1; rw [r3] at z2
    cases z1; cases z2
    obtain ⟨p1, p2, p3⟩ := pair_new rs hT r2 r4
    exact ⟨_, pairsUp_get ds es i _ _ hd he, p1, p2, p3⟩
theorem mi_zip {elts : List Expr} {kk : Nat} {tpos : Pos} (hg : Gl X "zip") (hm : X.mg "zip" = none) (hs : notStar a = true) (hs2 : notStar b = true) (ha : PE X a (mD Φ G X ia)) (hb : PE X b (mD Φ G X ib)) : PI X (.Tuple elts kk tpos) (.Call (.Name "zip" p) [a, b] [] pos) (mI Φ G X (.zip false (.cons ia (.cons ib .nil)))) := by
  refine PI.mono (RZ.pi_zipA hg hm (pa_cons ha (pa_cons hb pa_nil (star_cons hs2)) (star_cons hs)) (star_cons hs) (star_any fun e' he' => by simp at he'; rw [he']; exact hs2)) fun σ H RR ⟨ρ, S, m, env, rs, q⟩ => ?_
  simp only [denI, denL, R.bind_assoc, R.bind_ok] at q
  refine tG_step env rs q fun m1 H1 S1 x v e1 env1 rs1 r1 p1 => tG_step env1 rs1 p1 fun m2 H2 S2 y u e2 env2 rs2 r2 p2 => ?_
  have r1 := Rep.ext e2 x r1
  simp only [zpD] at p2
  cases x with
  | tup ds =>
    cases y with
    | tup es =>
      rw [Rep.tup_] at r1 r2
      obtain ⟨ad, xs, rfl, t, r⟩ := r1
      obtain ⟨bd, ys, rfl, t', r'⟩ := r2
      refine ⟨ad, bd, xs, ys, rfl, .inr ⟨t.sq, t'.sq, ?_⟩⟩
      simp only [zpD_, Bool.false_and, Bool.false_eq_true, if_false, ofO] at p2
      exact p2.ok0 rs2 (wd_zipT t r t' r')
    | _ => exact p2.elim
  | ref n =>
    cases y with
    | ref n' =>
      have f : ∀ n ds gs, srcOf S2 (.ref n) = some ⟨gs, ds⟩ → gs = [(n, ds)] ∧ seqOf S2 (.ref n) = some ds := by
        intro n ds gs h
        simp only [srcOf] at h
        split at h
        · rename_i es e; cases h; exact ⟨rfl, by simp only [seqOf, e]⟩
        · rename_i es e; cases h; exact ⟨rfl, by simp only [seqOf, e]⟩
        · cases h
      simp only [zpD] at p2
      split at p2
      · rename_i s t hs ht
        obtain ⟨g1, i1⟩ := s
        obtain ⟨g2, i2⟩ := t
        obtain ⟨rfl, q1⟩ := f _ _ _ hs
        obtain ⟨rfl, q2⟩ := f _ _ _ ht
        have r1' := r1
        have r2' := r2
        rw [Rep.ref_] at r1 r2
        obtain ⟨ad, hn, rfl⟩ := r1
        obtain ⟨bd, hn', rfl⟩ := r2
        obtain ⟨_, xs, z1, z2, z3⟩ := seqL_rep rs2 r1' q1
        obtain ⟨_, ys, w1, w2, w3⟩ := seqL_rep rs2 r2' q2
        cases z1; cases w1
        refine ⟨ad, bd, xs, ys, rfl, .inl ⟨z2, w2, ?_⟩⟩
        simp only [zpD_, Bool.false_and, Bool.false_eq_true, if_false, ofO] at p2
        exact p2.ok0 rs2 (wd_zip hn hn')
      · exact p2.elim
    | _ => exact p2.elim
  | _ => exact (by cases y <;> exact p2 : False).elim
end

/-! ### the induction -/
theorem blt_free {X : Cx} {c : Cc} (g : Good X c.T Φ G k) (gc : GC X c) {x : Str} (h : bltB c x = true) (hx : x ∈ bltNames) : Gl X x ∧ X.mg x = none := by
  simp only [bltB, Bool.and_eq_true, Bool.not_eq_true'] at h
  obtain ⟨⟨h1, h2⟩, h3⟩ := h
  rw [← gc.sc] at h1
  exact ⟨glB_gl h1, g.blt x hx h2 h3⟩
theorem compL_one {n : Nat} {c : Cc} {a : Expr} {il : E} (h : compL n c [a] = some il) : ∃ m ia, n = m + 2 ∧ il = .cons ia .nil ∧ compE (m + 1) c a = some ia ∧ notStar a = true := by
  cases n with
  | zero => simp [compL] at h
  | succ n =>
    simp only [compL] at h
    split at h
    · rename_i hs
      cases n with
      | zero => simp [compE] at h
      | succ m =>
        split at h
        · rename_i x y h1 h2
          cases h
          simp only [compL, Option.some.injEq] at h2
          subst h2
          exact ⟨m, x, rfl, rfl, h1, hs⟩
        · cases h
    · cases h
theorem compL_two {n : Nat} {c : Cc} {a b : Expr} {il : E} (h : compL n c [a, b] = some il) : ∃ m ia ib, n = m + 3 ∧ il = .cons ia (.cons ib .nil) ∧ compE (m + 2) c a = some ia ∧ compE (m + 1) c b = some ib ∧ notStar a = true ∧ notStar b = true := by
  cases n with
  | zero => simp [compL] at h
  | succ n =>
    simp only [compL] at h
    split at h
    · rename_i hs
      split at h
      · rename_i x y h1 h2
        cases h
        obtain ⟨m, ib, rfl, rfl, h3, h4⟩ := compL_one h2
        exact ⟨m, x, ib, rfl, rfl, h1, h3, hs, h4⟩
      · cases h
    · cases h
theorem compL_three {n : Nat} {c : Cc} {a b d : Expr} {il : E} (h : compL n c [a, b, d] = some il) : ∃ m ia ib id, n = m + 4 ∧ il = .cons ia (.cons ib (.cons id .nil)) ∧ compE (m + 3) c a = some ia ∧ compE (m + 2) c b = some ib ∧ compE (m + 1) c d = some id ∧ notStar a = true ∧ notStar b = true ∧ notStar d = true := by
  cases n with
  | zero => simp [compL] at h
  | succ n =>
    simp only [compL] at h
    split at h
    · rename_i hs
      split at h
      · rename_i x y h1 h2
        cases h
        obtain ⟨m, ib, id, rfl, rfl, h3, h4, h5, h6⟩ := compL_two h2
        exact ⟨m, x, ib, id, rfl, rfl, h1, h3, h4, hs, h5, h6⟩
      · cases h
    · cases h
/-- all that is smaller holds -/
def OkB (Φ : Nat → List D → Hs → R D) (G : Nat → D) (k n : Nat) : Prop := ∀ j, j ≤ n → OkN Φ G k j
section
variable {X : Cx} {c : Cc} {n : Nat}
theorem ixOf_none {x : Str} : ∀ {l : List Str} {i : Nat}, ixOf x l i = none → l.contains x = false
  | [], _, _ => rfl
  | y :: ys, i, h => by
    simp only [ixOf] at h
    split at h
    · cases h
    · rename_i hne
      have := ixOf_none h
      rw [List.contains_cons, this, Bool.or_false]
      exact beq_eq_false_iff_ne.mpr fun e => hne e.symm
theorem step_call (ok : OkB Φ G k n) (g : Good X c.T Φ G k) (gc : GC X c) {x : Str} {p pos : Pos} {es : List Expr} {ir : E} (h : compE (n + 1) c (.Call (.Name x p) es [] pos) = some ir) : PE X (.Call (.Name x p) es [] pos) (mD Φ G X ir) := by
  simp only [compE] at h
  split at h
  · rename_i hc
    rw [Bool.and_eq_true] at hc
    have hgl : Gl X x := by have := hc.2; rw [← gc.sc] at this; exact glB_gl this
    split at h
    · rename_i f hf
      have hf' := ixOf_get0 hf
      cases es with
      | nil =>
        cases n with
        | zero => simp [compL] at h
        | succ n =>
          simp only [compL, Option.map_some, Option.some.injEq] at h
          subst h
          exact me_cal0 g hf' hgl hc.1
      | cons e es =>
        obtain ⟨il, h1, rfl⟩ := Option.map_eq_some_iff.mp h
        exact me_cal g hf' hgl hc.1 (compL_stars h1) ((ok n (Nat.le_refl _)).Ls X c g gc _ _ h1)
    · rename_i hf
      split at h
      · cases h
      · rename_i hcon
        have hfns : c.T.fns.contains x = false := ixOf_none hf
        have hcons : c.T.cons.contains x = false := Bool.eq_false_iff.mpr hcon
        split at h
        · rename_i hl
          obtain ⟨rfl, hr⟩ := hl
          have hm2 := g.blt "list" (by decide +kernel) hfns hcons
          have rg : ∀ y p2 es2 pos2, isRange c [.Call (.Name y p2) es2 [] pos2] = true → y = ("range" : Str) ∧ Gl X y ∧ X.mg y = none := by
            intro y p2 es2 pos2 hr
            simp only [isRange, Bool.and_eq_true, decide_eq_true_eq] at hr
            obtain ⟨rfl, hb⟩ := hr
            exact ⟨rfl, blt_free g gc hb (by decide +kernel)⟩
          split at h
          · rename_i y p2 a pos2
            obtain ⟨rfl, hg2, hm3⟩ := rg _ _ _ _ hr
            obtain ⟨il, h1, rfl⟩ := Option.map_eq_some_iff.mp h
            obtain ⟨m, ia, rfl, rfl, h2, h3⟩ := compL_one h1
            exact me_lrg1 g.calm hg2 hm3 hgl hm2 h3 ((ok (m + 1) (by omega)).Ex X c g gc _ _ h2).1
          · rename_i y p2 a b pos2
            obtain ⟨rfl, hg2, hm3⟩ := rg _ _ _ _ hr
            obtain ⟨il, h1, rfl⟩ := Option.map_eq_some_iff.mp h
            obtain ⟨m, ia, ib, rfl, rfl, h2, h3, h4, h5⟩ := compL_two h1
            exact me_lrg2 g.calm hg2 hm3 hgl hm2 h4 h5 ((ok (m + 2) (by omega)).Ex X c g gc _ _ h2).1 ((ok (m + 1) (by omega)).Ex X c g gc _ _ h3).1
          · cases h
        · split at h
          · rename_i hl
            obtain ⟨rfl, hr⟩ := hl
            have hm2 := g.blt "sorted" (by decide +kernel) hfns hcons
            split at h
            · rename_i y p2 a pos2
              simp only [isSet, Bool.and_eq_true, decide_eq_true_eq] at hr
              obtain ⟨rfl, hb⟩ := hr
              obtain ⟨hg2, hm3⟩ := blt_free g gc hb (by decide +kernel)
              obtain ⟨il, h1, rfl⟩ := Option.map_eq_some_iff.mp h
              obtain ⟨m, ia, rfl, rfl, h2, h3⟩ := compL_one h1
              exact me_srs g.calm g.hu hg2 hm3 hgl hm2 h3 ((ok (m + 1) (by omega)).Ex X c g gc _ _ h2).1
            · cases h
          split at h
          · rename_i hx
            subst hx
            have hm2 := g.blt "isinstance" (by decide +kernel) hfns hcons
            match es, h with
            | [], h => cases h
            | [_], h => cases h
            | _ :: _ :: _ :: _, h => cases h
            | [a, t], h =>
              simp only at h
              split at h
              · rename_i ia ts h1 h2
                have hs : notStar a = true := by
                  cases a <;> first | rfl | (cases n <;> simp [compE] at h1)
                have ha := ((ok n (Nat.le_refl _)).Ex X c g gc _ _ h1).1
                by_cases hz : (ts.isEmpty || decide (1000 < ts.length)) = true
                · rw [if_pos hz] at h; cases h
                · rw [if_neg hz] at h
                  cases h
                  simp only [Bool.or_eq_true, List.isEmpty_iff, decide_eq_true_eq, not_or, Nat.not_lt] at hz
                  have one : (tyName c t).map (fun t => [t]) = some ts → PE X (.Call (.Name "isinstance" p) [a, t] [] pos) (mD Φ G X (.isi ts ia)) := by
                    intro h2
                    obtain ⟨t', h3, rfl⟩ := Option.map_eq_some_iff.mp h2
                    exact me_isi1 gc g hgl hm2 hs ha h3
                  cases t <;> first | exact one h2 | exact me_isiT gc g hgl hm2 hs ha h2 hz.1 hz.2
              · cases h
          · have fin : ∀ b e es', biOf x = some b → es = e :: es' → (compL n c es).map (.bi b) = some ir → PE X (.Call (.Name x p) es [] pos) (mD Φ G X ir) := by
              intro b e es' hb he hh
              obtain ⟨il, h1, rfl⟩ := Option.map_eq_some_iff.mp hh
              obtain ⟨hx1, hb2⟩ := biOf_nm hb
              subst hx1 he
              exact me_blt g hb2 hgl hfns hcons (compL_stars h1) ((ok n (Nat.le_refl _)).Ls X c g gc _ _ h1)
            split at h
            · exact fin _ _ [] (by assumption) rfl h
            · exact fin _ _ [_] (by assumption) rfl h
            · exact fin _ _ [_] (by assumption) rfl h
            · cases h
  · cases h
theorem mtOf_nm {x : Str} {m : Mt} (h : mtOf x = some m) : (x = "append" ∧ m = .append) ∨ (x = "insert" ∧ m = .insert) ∨ (x = "pop" ∧ m = .pop) ∨ (x = "extend" ∧ m = .extend) ∨ (x = "join" ∧ m = .join) := by
  unfold mtOf at h
  split at h
  · cases h; exact .inl ⟨by assumption, rfl⟩
  · split at h
    · cases h; exact .inr (.inl ⟨by assumption, rfl⟩)
    · split at h
      · cases h; exact .inr (.inr (.inl ⟨by assumption, rfl⟩))
      · split at h
        · cases h; exact .inr (.inr (.inr (.inl ⟨by assumption, rfl⟩)))
        · split at h
          · cases h; exact .inr (.inr (.inr (.inr ⟨by assumption, rfl⟩)))
          · cases h
theorem step_meth (ok : OkB Φ G k n) (g : Good X c.T Φ G k) (gc : GC X c) {o : Expr} {nm : Str} {apos pos : Pos} {es : List Expr} {ir : E} (h : compE (n + 1) c (.Call (.Attribute o nm apos) es [] pos) = some ir) : PE X (.Call (.Attribute o nm apos) es [] pos) (mD Φ G X ir) := by
  simp only [compE] at h
  split at h
  · rename_i hc
    simp only [Bool.and_eq_true, decide_eq_true_eq] at hc
    obtain ⟨hb, hl⟩ := hc
    split at h
    · rename_i hx
      subst hx
      split at h
      · split at h
        · rename_i io il h2 h3
          cases h
          exact me_split ((ok n (Nat.le_refl _)).Ex X c g gc _ _ h2).1 hb hl (compL_stars h3) ((ok n (Nat.le_refl _)).Ls X c g gc _ _ h3)
        · cases h
      · cases h
    split at h
    · rename_i io il h1 h2 h3
      have ho := ((ok n (Nat.le_refl _)).Ex X c g gc _ _ h2).1
      have hL := (ok n (Nat.le_refl _)).Ls X c g gc _ _ h3
      rcases mtOf_nm h1 with ⟨rfl, q⟩ | ⟨rfl, q⟩ | ⟨rfl, q⟩ | ⟨rfl, q⟩ | ⟨rfl, q⟩ <;> (try cases q)
      split at h
      · cases n with
        | zero => simp [compL] at h3
        | succ n =>
          simp only [compL, Option.some.injEq] at h3
          subst h3
          cases h
          exact me_mt0 F.plainAttrs_list F.slot_list_pop F.type_list_pop mt_pop' (.inr ⟨by decide, rfl⟩) ho hb hl
      · cases h
        exact me_mt F.plainAttrs_list F.slot_list_pop F.type_list_pop mt_pop' (.inr ⟨by decide, rfl⟩) ho hb hl (compL_stars h3) (by simp) hL
      · cases h
    · rename_i io il h1 h2 h3
      have ho := ((ok n (Nat.le_refl _)).Ex X c g gc _ _ h2).1
      have hL := (ok n (Nat.le_refl _)).Ls X c g gc _ _ h3
      rcases mtOf_nm h1 with ⟨rfl, q⟩ | ⟨rfl, q⟩ | ⟨rfl, q⟩ | ⟨rfl, q⟩ | ⟨rfl, q⟩ <;> (try cases q)
      split at h
      · cases h
        exact me_mt F.plainAttrs_list F.slot_list_insert F.type_list_insert mt_insert' (.inr ⟨by decide, rfl⟩) ho hb hl (compL_stars h3) (by simp) hL
      · cases h
    · rename_i m io il n1 n2 h1 h2 h3
      have ho := ((ok n (Nat.le_refl _)).Ex X c g gc _ _ h2).1
      have hL := (ok n (Nat.le_refl _)).Ls X c g gc _ _ h3
      split at h
      · cases h
        rcases mtOf_nm h1 with ⟨rfl, rfl⟩ | ⟨rfl, rfl⟩ | ⟨rfl, rfl⟩ | ⟨rfl, rfl⟩ | ⟨rfl, rfl⟩
        · exact me_mt F.plainAttrs_list F.slot_list_append F.type_list_append mt_append' (.inr ⟨by decide, rfl⟩) ho hb hl (compL_stars h3) (by simp) hL
        · exact me_mt F.plainAttrs_list F.slot_list_insert F.type_list_insert mt_insert' (.inr ⟨by decide, rfl⟩) ho hb hl (compL_stars h3) (by simp) hL
        · exact me_mt F.plainAttrs_list F.slot_list_pop F.type_list_pop mt_pop' (.inr ⟨by decide, rfl⟩) ho hb hl (compL_stars h3) (by simp) hL
        · exact me_mt F.plainAttrs_list F.slot_list_extend F.type_list_extend mt_extend' (.inr ⟨by decide, rfl⟩) ho hb hl (compL_stars h3) (by simp) hL
        · exact me_mt F.plainAttrs_str F.slot_str_join F.type_str_join mt_join' (.inl ⟨rfl, rfl⟩) ho hb hl (compL_stars h3) (by simp) hL
      · cases h
    · cases h
  · cases h
theorem step_lc (ok : OkB Φ G k n) (g : Good X c.T Φ G k) (gc : GC X c) {e : Expr} {gs : List Comprehension} {scope : Scope} {pos : Pos} {ir : E} (h : compE (n + 1) c (.ListComp e gs scope pos) = some ir) :
    ∃ tg it ifs itg iit ic ie, gs = [⟨tg, it, ifs, 0⟩] ∧ ir = .lc ((ownOf c.N scope).map (·.2)) ie itg iit ic ∧ notSet it = true ∧ BlkOk X.N X.env.scope scope (ownOf c.N scope) ∧ PI X tg it (mI Φ G X iit) ∧
      (∀ j ∈ slotsG itg, j ∈ (ownOf c.N scope).map (·.2)) ∧
      (∀ (s : Shared) (H : Hp) (C : Addr) (cl : List (Str × Addr)) (fp : List Addr), PG (X.blk s H scope (compEnvC scope cl C X.env) fp) tg (mG Φ G X itg)) ∧
      (∀ (s : Shared) (H : Hp) (C : Addr) (cl : List (Str × Addr)) (fp : List Addr), PTs (X.blk s H scope (compEnvC scope cl C X.env) fp) ifs (mT Φ G X ic)) ∧
      (∀ (s : Shared) (H : Hp) (C : Addr) (cl : List (Str × Addr)) (fp : List Addr), PE (X.blk s H scope (compEnvC scope cl C X.env) fp) e (mD Φ G X ie)) := by
  match gs, h with
  | [⟨tg, it, ifs, asy⟩], h =>
    simp only [compE] at h
    split at h
    · rename_i hc
      rw [Bool.and_eq_true, Bool.and_eq_true, decide_eq_true_eq] at hc
      obtain ⟨⟨rfl, hc1⟩, hc2⟩ := hc
      have hb : BlkOk X.N X.env.scope scope (ownOf c.N scope) := by
        rw [gc.N, gc.sc]
        exact blkOk_by hc2
      split at h
      · rename_i iit itg ic ie h1 h2 h3 h4
        split at h
        · rename_i hs
          cases h
          rw [Bool.and_eq_true] at hs
          refine ⟨tg, it, ifs, itg, iit, ic, ie, rfl, rfl, hc1, hb, (ok n (Nat.le_refl _)).It X c g gc _ _ _ h1, fun j hj => ?_, fun s H C cl fp => ?_, fun s H C cl fp => ?_, fun s H C cl fp => ?_⟩
          · have := List.all_eq_true.mp hs.2 j hj
            simpa using this
          · exact (ok n (Nat.le_refl _)).Tg _ { c with sc := relS scope c.sc, wr := ownNames scope } (g.blk s H scope cl C fp) (gc.blk hb s H cl C fp) _ _ h2
          · exact (ok n (Nat.le_refl _)).Ts _ { c with sc := relS scope c.sc, wr := ownNames scope } (g.blk s H scope cl C fp) (gc.blk hb s H cl C fp) _ _ h3
          · exact ((ok n (Nat.le_refl _)).Ex _ { c with sc := relS scope c.sc, wr := ownNames scope } (g.blk s H scope cl C fp) (gc.blk hb s H cl C fp) _ _ h4).1
        · cases h
      · cases h
    · cases h
  | [], h => simp [compE] at h
  | _ :: _ :: _, h => simp [compE] at h
end
end RS

namespace RS
open PySem PySem.Spec L2
variable {Φ : Nat → List D → Hs → R D} {G : Nat → D} {k : Nat}
section
variable {X : Cx} {c : Cc} {n : Nat}
theorem step_name (g : Good X c.T Φ G k) (gc : GC X c) {x : Str} {pos : Pos} {ir : E} (h : compE (n + 1) c (.Name x pos) = some ir) : PE X (.Name x pos) (mD Φ G X ir) := by
  simp only [compE] at h
  split at h
  · rename_i hn
    split at h
    · rename_i i hi
      split at h
      · rename_i hv
        cases h
        have h1 := ixOf_get0 hi
        rw [← gc.N] at h1
        rw [← gc.sc] at hv
        exact me_var h1 (visB_vis hv) hn
      · cases h
    · split at h
      · rename_i hg
        obtain ⟨j, hj, rfl⟩ := Option.map_eq_some_iff.mp h
        rw [← gc.sc] at hg
        obtain ⟨u, v, h1, h2, h3⟩ := g.con j x (ixOf_get0 hj)
        exact me_glb (glB_gl hg) h1 h2 h3 hn
      · cases h
  · cases h
theorem step_sub (ok : OkB Φ G k n) (g : Good X c.T Φ G k) (gc : GC X c) {a i : Expr} {pos : Pos} {ir : E} (h : compE (n + 1) c (.Subscript a i pos) = some ir) : PE X (.Subscript a i pos) (mD Φ G X ir) := by
  have ix : (if notSlice i then (match compE n c a, compE n c i with | some a, some i => some (E.ix a i) | _, _ => none) else none) = some ir → PE X (.Subscript a i pos) (mD Φ G X ir) := by
    intro h
    split at h
    · rename_i hs
      split at h
      · rename_i x y h1 h2
        cases h
        exact me_ix ((ok n (Nat.le_refl _)).Ex X c g gc _ _ h1).1 ((ok n (Nat.le_refl _)).Ex X c g gc _ _ h2).1 hs
      · cases h
    · cases h
  by_cases hs : notSlice i = true
  · refine ix ?_
    rw [← h]
    cases i <;> first | rfl | (simp [notSlice] at hs)
  · cases i with
    | Slice lo hi st p =>
      cases st with
      | none =>
        simp only [compE] at h
        split at h
        · rename_i x l u h1 h2 h3
          cases h
          exact me_sl ((ok n (Nat.le_refl _)).Ex X c g gc _ _ h1).1 ((ok n (Nat.le_refl _)).Sl X c g gc _ _ h2) ((ok n (Nat.le_refl _)).Sl X c g gc _ _ h3)
        · cases h
      | some st =>
        by_cases hst : lo = none ∧ hi = none ∧ ∃ kk p1 p2, st = .UnaryOp .USub (.Constant (.int 1) kk p1) p2
        · obtain ⟨rfl, rfl, kk, p1, p2, rfl⟩ := hst
          simp only [compE] at h
          obtain ⟨x, h1, rfl⟩ := Option.map_eq_some_iff.mp h
          exact me_rvs ((ok n (Nat.le_refl _)).Ex X c g gc _ _ h1).1
        · unfold compE at h
          split at h <;> rename_i heq <;> (try (cases heq; done)) <;> (try (cases heq; exact absurd ⟨rfl, rfl, _, _, _, rfl⟩ hst)) <;> (try (cases heq; simp [notSlice] at h; done)) <;> (try (cases h; done))
    | _ => exact absurd rfl hs
theorem step_cmp1 (ok : OkB Φ G k n) (g : Good X c.T Φ G k) (gc : GC X c) {a b : Expr} {o : CmpOp} {pos : Pos} {ir : E} (h : compE (n + 1) c (.Compare a [o] [b] pos) = some ir) : PE X (.Compare a [o] [b] pos) (mD Φ G X ir) ∧ PT X (.Compare a [o] [b] pos) (mT Φ G X ir) := by
  have gen : (match copOf o, compE n c a, compE n c b with | some o', some a, some b' => (if behindInMarks o b then none else some (E.cmp o' a b')) | _, _, _ => none) = some ir → PE X (.Compare a [o] [b] pos) (mD Φ G X ir) ∧ PT X (.Compare a [o] [b] pos) (mT Φ G X ir) := by
    intro h
    split at h
    · rename_i o' x y h1 h2 h3
      split at h
      · cases h
      · rename_i hm
        cases h
        have hm := Bool.eq_false_iff.mpr hm
        have ha := ((ok n (Nat.le_refl _)).Ex X c g gc _ _ h2).1
        have hb := ((ok n (Nat.le_refl _)).Ex X c g gc _ _ h3).1
        exact ⟨me_cmp g.hu h1 ha hb hm, mt_cmp g.hu h1 ha hb hm⟩
    · cases h
  by_cases hb : ∃ j p, b = .Constant .none j p
  · obtain ⟨j, p, rfl⟩ := hb
    cases o with
    | Is =>
      simp only [compE] at h
      obtain ⟨x, h1, rfl⟩ := Option.map_eq_some_iff.mp h
      have ha := ((ok n (Nat.le_refl _)).Ex X c g gc _ _ h1).1
      exact ⟨me_isN ha, mt_isN ha⟩
    | IsNot =>
      simp only [compE] at h
      obtain ⟨x, h1, rfl⟩ := Option.map_eq_some_iff.mp h
      have ha := ((ok n (Nat.le_refl _)).Ex X c g gc _ _ h1).1
      exact ⟨me_nsN ha, mt_nsN ha⟩
    | _ => exact gen (by rw [← h]; rfl)
  · refine gen ?_
    rw [← h]
    cases o <;> first | rfl | skip
    all_goals
      cases b <;> first | rfl | skip
      rename_i kk j p
      cases kk <;> first | rfl | (exact absurd ⟨_, _, rfl⟩ hb)
theorem mt_ife {t a b : Expr} {it ia ib : E} {pos : Pos} (ht : PT X t (mT Φ G X it)) (ha : PT X a (mT Φ G X ia)) (hb : PT X b (mT Φ G X ib)) : PT X (.IfExp t a b pos) (mT Φ G X (.ife it ia ib)) := by
  refine ⟨fun pins s σ H Q I h => ?_⟩
  obtain ⟨ρ, S, m, env, rs, p⟩ := h
  simp only [den] at p
  show wpAny _ _ (do if ← isTrue t X.env (eval t X.env) then isTrue a X.env (eval a X.env) else isTrue b X.env (eval b X.env)) _ _ _
  refine wpAny_bind (thn (ht.run pins s σ H _ I (tT_stepT env rs p (Q' := fun c H1 => if c = true then mT Φ G X ia σ H1 Q else mT Φ G X ib σ H1 Q) fun m1 H1 S1 c e1 env1 rs1 p1 => ?_)) fun c s1 ⟨H1, I1, q1⟩ => ?_)
  · cases c with
    | true => rw [if_pos rfl] at p1 ⊢; exact ⟨ρ, S1, m1, env1, rs1, p1⟩
    | false => rw [if_neg Bool.false_ne_true] at p1 ⊢; exact ⟨ρ, S1, m1, env1, rs1, p1⟩
  · cases c with
    | true => exact ha.run pins s1 σ H1 Q I1 q1
    | false => exact hb.run pins s1 σ H1 Q I1 q1
theorem step_E (ok : OkB Φ G k n) (g : Good X c.T Φ G k) (gc : GC X c) (e : Expr) (ir : E) (h : compE (n + 1) c e = some ir) : PE X e (mD Φ G X ir) ∧ PT X e (mT Φ G X ir) ∧ (∀ o es p, e = .BoolOp o es p → PW X e (mT Φ G X ir)) := by
  have okn := ok n (Nat.le_refl _)
  cases e with
  | Name x pos => exact both (step_name g gc h) rfl
  | Constant kk j pos =>
    simp only [compE] at h
    split at h
    · cases h; exact both me_non rfl
    · cases h; exact both me_bl rfl
    · cases h; exact both me_int rfl
    · cases h; exact both me_str rfl
    · cases h
  | Tuple es j pos =>
    simp only [compE] at h
    obtain ⟨il, h1, rfl⟩ := Option.map_eq_some_iff.mp h
    exact both (me_tup (okn.Ls X c g gc _ _ h1)) rfl
  | List es pos =>
    simp only [compE] at h
    obtain ⟨il, h1, rfl⟩ := Option.map_eq_some_iff.mp h
    exact both (me_lst (okn.Ls X c g gc _ _ h1)) rfl
  | BinOp a o b pos =>
    simp only [compE] at h
    split at h
    · rename_i o' x y h1 h2 h3
      cases h
      exact both (me_bin h1 (okn.Ex X c g gc _ _ h2).1 (okn.Ex X c g gc _ _ h3).1) rfl
    · cases h
  | UnaryOp o a pos =>
    simp only [compE] at h
    split at h
    · rename_i x h1
      cases h
      exact both (me_neg (okn.Ex X c g gc _ _ h1).1) rfl
    · rename_i x h1
      cases h
      obtain ⟨h2, h3, _⟩ := okn.Ex X c g gc _ _ h1
      exact ⟨me_not h2, mt_not h3, fun _ _ _ z => nomatch z⟩
    · cases h
  | Compare a ops bs pos =>
    match ops, bs, h with
    | [o], [b], h =>
      obtain ⟨h1, h2⟩ := step_cmp1 ok g gc h
      exact ⟨h1, h2, fun _ _ _ z => nomatch z⟩
    | [o, p], [b, d], h =>
      simp only [compE] at h
      split at h
      · rename_i o' p' x y z h1 h2 h3 h4 h5
        split at h
        · cases h
        · rename_i hm
          cases h
          have hm := Bool.eq_false_iff.mpr hm
          have ha := (okn.Ex X c g gc _ _ h3).1
          have hb := (okn.Ex X c g gc _ _ h4).1
          have hd := (okn.Ex X c g gc _ _ h5).1
          exact ⟨me_chn g.hu h1 h2 ha hb hd hm, mt_chn g.hu h1 h2 ha hb hd hm, fun _ _ _ z => nomatch z⟩
      · cases h
    | [], _, h => simp [compE] at h
    | [_], [], h => simp [compE] at h
    | [_], _ :: _ :: _, h => simp [compE] at h
    | [_, _], [], h => simp [compE] at h
    | [_, _], [_], h => simp [compE] at h
    | [_, _], _ :: _ :: _ :: _, h => simp [compE] at h
    | _ :: _ :: _ :: _, _, h => simp [compE] at h
  | BoolOp o es pos =>
    match es, h with
    | [], h => simp [compE] at h
    | [a], h =>
      simp only [compE] at h
      obtain ⟨h1, h2, _⟩ := okn.Ex X c g gc _ _ h
      have w : PW X (.BoolOp o [a] pos) (mT Φ G X ir) := by
        cases o
        · exact pw_and1 h2
        · exact pw_or1 h2
      exact ⟨pe_one h1, w.pt, fun _ _ _ _ => w⟩
    | a :: b :: es, h =>
      simp only [compE] at h
      split at h
      · rename_i x y h1 h2
        cases h
        obtain ⟨p1, p2, _⟩ := okn.Ex X c g gc _ _ h1
        obtain ⟨q1, _, q3⟩ := okn.Ex X c g gc _ _ h2
        have q3 := q3 _ _ _ rfl
        cases o
        · have w := mw_and p2 q3
          exact ⟨me_and p1 q1, w.pt, fun _ _ _ _ => w⟩
        · have w := mw_or p2 q3
          exact ⟨me_or p1 q1, w.pt, fun _ _ _ _ => w⟩
      · cases h
  | IfExp t a b pos =>
    simp only [compE] at h
    split at h
    · rename_i x y z h1 h2 h3
      cases h
      have he := me_ife (pos := pos) (okn.Ex X c g gc _ _ h1).2.1 (okn.Ex X c g gc _ _ h2).1 (okn.Ex X c g gc _ _ h3).1
      exact ⟨he, mt_ife (okn.Ex X c g gc _ _ h1).2.1 (okn.Ex X c g gc _ _ h2).2.1 (okn.Ex X c g gc _ _ h3).2.1, fun _ _ _ z => nomatch z⟩
    · cases h
  | Call f es ks pos =>
    cases ks with
    | cons kk ks => cases f <;> simp [compE] at h
    | nil =>
      cases f with
      | Name x p => exact both (step_call ok g gc h) rfl
      | Attribute o m p => exact both (step_meth ok g gc h) rfl
      | _ => simp [compE] at h
  | Subscript a i pos => exact both (step_sub ok g gc h) rfl
  | ListComp e gs scope pos =>
    obtain ⟨tg, it, ifs, itg, iit, ic, ie, rfl, rfl, h1, h2, h3, h4, h5, h6, h7⟩ := step_lc ok g gc h
    exact both (PE.mono (pe_lc g.calm g.nd h3 h2 h5 h6 h7 (not_set h1)) fun σ H Q q => lc_of h4 q) rfl
  | _ => simp [compE] at h
theorem step_I (ok : OkB Φ G k n) (g : Good X c.T Φ G k) (gc : GC X c) (tg e : Expr) (ir : E) (h : compI (n + 1) c tg e = some ir) : PI X tg e (mI Φ G X ir) := by
  have okn := ok n (Nat.le_refl _)
  have gen : (compE n c e).map (fun e => E.cons e .nil) = some ir → PI X tg e (mI Φ G X ir) := by
    intro h
    obtain ⟨x, h1, rfl⟩ := Option.map_eq_some_iff.mp h
    exact mi_val (okn.Ex X c g gc _ _ h1).1
  cases e with
  | Call f es ks pos =>
    cases f with
    | Name x p =>
      simp only [compI] at h
      split at h
      · rename_i hc
        simp only [Bool.and_eq_true, decide_eq_true_eq] at hc
        obtain ⟨⟨hb, _⟩, rfl⟩ := hc
        obtain ⟨hg, hm⟩ := blt_free g gc hb (by decide +kernel)
        split at h
        · obtain ⟨il, h1, rfl⟩ := Option.map_eq_some_iff.mp h
          obtain ⟨m, ia, rfl, rfl, h2, h3⟩ := compL_one h1
          exact mi_rng1 hg hm h3 ((ok (m + 1) (by omega)).Ex X c g gc _ _ h2).1
        · obtain ⟨il, h1, rfl⟩ := Option.map_eq_some_iff.mp h
          obtain ⟨m, ia, ib, rfl, rfl, h2, h3, h4, h5⟩ := compL_two h1
          exact mi_rng2 hg hm h4 h5 ((ok (m + 2) (by omega)).Ex X c g gc _ _ h2).1 ((ok (m + 1) (by omega)).Ex X c g gc _ _ h3).1
        · obtain ⟨il, h1, rfl⟩ := Option.map_eq_some_iff.mp h
          obtain ⟨m, ia, ib, id, rfl, rfl, h2, h3, h4, h5, h6, h7⟩ := compL_three h1
          exact mi_rng3 hg hm h5 h6 h7 ((ok (m + 3) (by omega)).Ex X c g gc _ _ h2).1 ((ok (m + 2) (by omega)).Ex X c g gc _ _ h3).1 ((ok (m + 1) (by omega)).Ex X c g gc _ _ h4).1
        · cases h
      · split at h
        · rename_i hc
          simp only [Bool.and_eq_true, decide_eq_true_eq] at hc
          obtain ⟨⟨⟨hb, _⟩, rfl⟩, ht⟩ := hc
          obtain ⟨hg, hm⟩ := blt_free g gc hb (by decide +kernel)
          split at h
          · obtain ⟨il, h1, rfl⟩ := Option.map_eq_some_iff.mp h
            obtain ⟨m, ia, rfl, rfl, h2, h3⟩ := compL_one h1
            cases tg <;> simp [isTupE] at ht
            exact mi_enm hg hm h3 ((ok (m + 1) (by omega)).Ex X c g gc _ _ h2).1
          · cases h
        · split at h
          · rename_i hc
            simp only [Bool.and_eq_true, decide_eq_true_eq] at hc
            obtain ⟨⟨⟨hb, _⟩, rfl⟩, ht⟩ := hc
            obtain ⟨hg, hm⟩ := blt_free g gc hb (by decide +kernel)
            split at h
            · obtain ⟨il, h1, rfl⟩ := Option.map_eq_some_iff.mp h
              obtain ⟨m, ia, ib, rfl, rfl, h2, h3, h4, h5⟩ := compL_two h1
              cases tg <;> simp [isTupE] at ht
              exact mi_zip hg hm h4 h5 ((ok (m + 2) (by omega)).Ex X c g gc _ _ h2).1 ((ok (m + 1) (by omega)).Ex X c g gc _ _ h3).1
            · cases h
          · exact gen h
    | _ => exact gen (by simpa only [compI] using h)
  | _ => exact gen (by simpa only [compI] using h)
theorem step_all (ok : OkB Φ G k n) : OkN Φ G k (n + 1) := by
  have okn := ok n (Nat.le_refl _)
  refine ⟨fun X c g gc e ir h => step_E ok g gc e ir h, fun X c g gc es ir h => ?_, fun X c g gc e ir h => ?_, fun X c g gc es ir h => ?_, fun X c g gc e ir h => ?_, fun X c g gc es ir h => ?_, fun X c g gc tg e ir h => step_I ok g gc tg e ir h⟩
  · cases es with
    | nil =>
      simp only [compL, Option.some.injEq] at h
      subst h
      exact ml_nil
    | cons e es =>
      simp only [compL] at h
      split at h
      · rename_i hs
        split at h
        · rename_i x y h1 h2
          cases h
          exact ml_cons hs (okn.Ex X c g gc _ _ h1).1 (okn.Ls X c g gc _ _ h2)
        · cases h
      · cases h
  · cases e with
    | none =>
      simp only [compO, Option.some.injEq] at h
      subst h
      exact mo_none
    | some e =>
      simp only [compO] at h
      obtain ⟨x, h1, rfl⟩ := Option.map_eq_some_iff.mp h
      exact mo_some (okn.Ex X c g gc _ _ h1).1
  · match es, h with
    | [], h =>
      simp only [compT, Option.some.injEq] at h
      subst h
      exact ⟨fun pins s σ H Q I ⟨ρ, S, m, env, rs, p⟩ => pts_nil.run pins s σ H Q I (PostT.ok0 p rs)⟩
    | [e], h =>
      simp only [compT] at h
      exact pts_one (okn.Ex X c g gc _ _ h).2.1
    | _ :: _ :: _, h => simp [compT] at h
  · cases e with
    | Name x pos =>
      simp only [compG] at h
      split at h
      · rename_i hw
        obtain ⟨i, hi, rfl⟩ := Option.map_eq_some_iff.mp h
        have h1 := ixOf_get0 hi
        rw [← gc.N] at h1
        obtain ⟨w1, w2⟩ := gc.wr x hw
        exact mg_name g.nd h1 w1 w2
      · cases h
    | Tuple es j pos =>
      simp only [compG] at h
      obtain ⟨il, h1, rfl⟩ := Option.map_eq_some_iff.mp h
      obtain ⟨q1, q2⟩ := cnt_gs h1
      exact mg_tup g.calm q2 q1 (okn.Tgs X c g gc _ _ h1)
    | Subscript a i pos =>
      simp only [compG] at h
      split at h
      · rename_i hs
        split at h
        · rename_i x y h1 h2
          cases h
          exact mg_sub (okn.Ex X c g gc _ _ h1).1 (okn.Ex X c g gc _ _ h2).1 hs
        · cases h
      · cases h
    | _ => simp [compG] at h
  · cases es with
    | nil =>
      simp only [compGs, Option.some.injEq] at h
      subst h
      exact mgs_nil
    | cons e es =>
      simp only [compGs] at h
      split at h
      · rename_i hs
        split at h
        · rename_i x y h1 h2
          cases h
          exact mgs_cons hs (okn.Tg X c g gc _ _ h1) (okn.Tgs X c g gc _ _ h2)
        · cases h
      · cases h
theorem okB : ∀ n, OkB Φ G k n
  | 0, j, hj => by
    have : j = 0 := by omega
    subst this
    exact okn0
  | n + 1, j, hj => by
    by_cases h : j ≤ n
    · exact okB n j h
    · have : j = n + 1 := by omega
      subst this
      exact step_all (okB n)
/-- every expression that is carried runs by its meaning -/
theorem sound_all (n : Nat) : OkN Φ G k n := okB n n (Nat.le_refl _)

/-! ### statements -/
theorem sound_lc {W : Nat} (g : Good X c.T Φ G k) (gc : GC X c) (hk : kindF c.sc = true) {e : Expr} {gs : List Comprehension} {scope : Scope} {p py pos : Pos} {y : Str} {i : Nat} {ie : E} (hy : c.wr.contains y = true) (hi : ixOf y c.N 0 = some i) (h : compE n c (.ListComp e gs scope p) = some ie) :
    PS X (.Assign [.Name y py] (.ListComp e gs scope p) pos) (mC Φ G W X (.asg (.var i) ie)) := by
  cases n with
  | zero => simp [compE] at h
  | succ n =>
    have hN := ixOf_get0 hi
    rw [← gc.N] at hN
    obtain ⟨w1, w2⟩ := gc.wr y hy
    have hk' : kindF X.env.scope = true := by rw [gc.sc]; exact hk
    cases hb : swB X.env.scope y py scope p with
    | false =>
      have he := (sound_all (Φ := Φ) (G := G) (k := k) (n + 1)).Ex X c g gc _ _ h
      refine ms_asg he.1 (mg_name g.nd hN w1 w2) ?_ ?_ rfl
      · have e1 : swapsWithSole [.Name y py] (.ListComp e gs scope p) pos.line X.env = swapsWith (.ListComp e gs scope p) (some (.Name y py)) pos.line X.env := rfl
        rw [e1, swaps_lc hk', hb]
      · exact sw_none rfl rfl
    | true =>
      obtain ⟨tg, it, ifs, itg, iit, ic, ie', rfl, rfl, h1, h2, h3, h4, h5, h6, h7⟩ := step_lc (okB n) g gc h
      have hyl : X.env.scope.names.lookup y = some .local := by
        simp only [swB, Bool.and_eq_true] at hb
        simpa using hb.1.1
      refine PS.mono (ps_setLc g.calm g.nd hN hyl (by rw [swaps_lc hk', hb]) h3 h2 h5 h6 h7 (not_set h1)) fun D' σ H q => ?_
      have q2 := asg_of q
      obtain ⟨ρ, S, m, env, rs, qq⟩ := q
      have : mD Φ G X (.lc ((ownOf c.N scope).map (·.2)) ie' itg iit ic) σ H (fun x H1 => gName i x σ H1 D'.nx) := by
        refine ⟨ρ, S, m, env, rs, ?_⟩
        simp only [exec] at qq
        refine qq.bind (relF := Rep X.K) fun m1 H1 S1 x v e1 rs1 r1 p1 => ?_
        simp only [denG, R.bind_assoc] at p1
        by_cases hl : i < ρ.length
        · rw [if_pos hl] at p1
          simp only [R.bind_ok] at p1
          exact p1 m1 H1 (Ext.refl _ _) rs1 _ ((env.ext e1).set r1)
        · rw [if_neg hl] at p1
          exact p1.elim
      exact lc_of h4 this
structure OkS (Φ : Nat → List D → Hs → R D) (G : Nat → D) (k W n : Nat) : Prop where
  St : ∀ (X : Cx) (c : Cc), Good X c.T Φ G k → GC X c → ∀ s ir, compS n c s = some ir → PS X s (mC Φ G W X ir)
  Bl : ∀ (X : Cx) (c : Cc), Good X c.T Φ G k → GC X c → ∀ ss ir, compB n c ss = some ir → PSs X ss (mC Φ G W X ir)
theorem name_tgt {n : Nat} {x : Str} {p : Pos} {ir : E} (h : compG n c (.Name x p) = some ir) : ∃ i, ir = .var i ∧ ixOf x c.N 0 = some i ∧ c.wr.contains x = true := by
  cases n with
  | zero => simp [compG] at h
  | succ n =>
    simp only [compG] at h
    split at h
    · rename_i hw
      obtain ⟨i, hi, rfl⟩ := Option.map_eq_some_iff.mp h
      exact ⟨i, rfl, hi, hw⟩
    · cases h
theorem compGs_cons {n : Nat} {e : Expr} {es : List Expr} {ir : E} (h : compGs n c (e :: es) = some ir) : ∃ m a b, n = m + 1 ∧ ir = .cons a b ∧ compG m c e = some a ∧ compGs m c es = some b := by
  cases n with
  | zero => simp [compGs] at h
  | succ n =>
    simp only [compGs] at h
    split at h
    · split at h
      · rename_i a b h1 h2
        cases h
        exact ⟨n, a, b, rfl, rfl, h1, h2⟩
      · cases h
    · cases h
theorem compGs_nil {n : Nat} {ir : E} (h : compGs n c [] = some ir) : ir = .nil := by
  cases n with
  | zero => simp [compGs] at h
  | succ n => simp only [compGs, Option.some.injEq] at h; exact h.symm
theorem compG_tup {n : Nat} {es : List Expr} {j : Nat} {p : Pos} {ir : E} (h : compG n c (.Tuple es j p) = some ir) : ∃ m il, n = m + 1 ∧ ir = .tup il ∧ compGs m c es = some il := by
  cases n with
  | zero => simp [compG] at h
  | succ n =>
    simp only [compG] at h
    obtain ⟨il, h1, rfl⟩ := Option.map_eq_some_iff.mp h
    exact ⟨n, il, rfl, rfl, h1⟩
theorem compE_tup {n : Nat} {es : List Expr} {j : Nat} {p : Pos} {ir : E} (h : compE n c (.Tuple es j p) = some ir) : ∃ m il, n = m + 1 ∧ ir = .tup il ∧ compL m c es = some il := by
  cases n with
  | zero => simp [compE] at h
  | succ n =>
    simp only [compE] at h
    obtain ⟨il, h1, rfl⟩ := Option.map_eq_some_iff.mp h
    exact ⟨n, il, rfl, rfl, h1⟩
theorem ne_ix {N : List Str} {x y : Str} {i j : Nat} (h1 : ixOf x N 0 = some i) (h2 : ixOf y N 0 = some j) (h : x ≠ y) : i ≠ j := fun e => by
  have a := ixOf_get0 h1
  have b := ixOf_get0 h2
  rw [e, b] at a
  exact h (Option.some.inj a).symm
theorem step_asg {W : Nat} (g : Good X c.T Φ G k) (gc : GC X c) {tg e : Expr} {pos : Pos} {ir : C} (h : compA n c tg e = some ir) : PS X (.Assign [tg] e pos) (mC Φ G W X ir) := by
  have okn := sound_all (Φ := Φ) (G := G) (k := k) n
  have gen : (if notComp e && notStar tg && !(isTup tg && isTup e) && !(isLst tg) then (match compG n c tg, compE n c e with | some g, some e => some (C.asg g e) | _, _ => none) else none) = some ir → PS X (.Assign [tg] e pos) (mC Φ G W X ir) := by
    intro h
    split at h
    · rename_i hc
      simp only [Bool.and_eq_true, Bool.not_eq_true'] at hc
      obtain ⟨⟨⟨h1, h2⟩, h3⟩, h4⟩ := hc
      split at h
      · rename_i x y q1 q2
        cases h
        have e1 : swapsWithSole [tg] e pos.line X.env = swapsWith e (some tg) pos.line X.env := rfl
        exact ms_asg (okn.Ex X c g gc _ _ q2).1 (okn.Tg X c g gc _ _ q1) (by rw [e1]; exact not_comp h1) (sw_none h3 h4) h2
      · cases h
    · cases h
  by_cases h1 : ∃ y py e' gs scope p, tg = .Name y py ∧ e = .ListComp e' gs scope p
  · obtain ⟨y, py, e', gs, scope, p, rfl, rfl⟩ := h1
    simp only [compA] at h
    split at h
    · rename_i hc
      rw [Bool.and_eq_true] at hc
      split at h
      · rename_i i ie q1 q2
        cases h
        exact sound_lc g gc hc.1 hc.2 q1 q2
      · cases h
    · cases h
  · by_cases h2 : ∃ ts j p vs j2 p2, tg = .Tuple ts j p ∧ e = .Tuple vs j2 p2
    · obtain ⟨ts, j, p, vs, j2, p2, rfl, rfl⟩ := h2
      simp only [compA] at h
      split at h
      · rename_i hk
        have hk' : kindF X.env.scope = true := by rw [gc.sc]; exact hk
        split at h
        · rename_i x y q1 q2 q3
          cases h
          rw [← gc.sc] at q3
          exact ms_asg (okn.Ex X c g gc _ _ q2).1 (okn.Tg X c g gc _ _ q1) rfl (swn_of hk' q3) rfl
        · rename_i gi ei ns q1 q2 q3
          rw [← gc.sc] at q3
          obtain ⟨m1, il, rfl, rfl, q4⟩ := compG_tup q1
          obtain ⟨m2, jl, hm2, rfl, q5⟩ := compE_tup q2
          split at h
          · rename_i x px y py a b x' y'
            split at h
            · rename_i hd
              cases h
              simp only [Bool.and_eq_true, decide_eq_true_eq] at hd
              obtain ⟨⟨⟨⟨rfl, rfl⟩, hxy⟩, hx⟩, hy⟩ := hd
              obtain ⟨_, g1, r1, rfl, rfl, t1, u1⟩ := compGs_cons q4
              obtain ⟨_, g2, r2, rfl, rfl, t2, u2⟩ := compGs_cons u1
              obtain rfl := compGs_nil u2
              obtain ⟨i, rfl, hi, _⟩ := name_tgt t1
              obtain ⟨i2, rfl, hi2, _⟩ := name_tgt t2
              obtain ⟨m3, ia, ib, rfl, rfl, v1, v2, s1, s2⟩ := compL_two q5
              have n1 := ixOf_get0 hi
              have n2 := ixOf_get0 hi2
              rw [← gc.N] at n1 n2
              rw [← gc.sc] at hx hy
              exact ms_par g.calm g.nd n1 n2 (ne_ix hi hi2 hxy) hx hy s1 s2 ((sound_all _).Ex X c g gc _ _ v1).1 ((sound_all _).Ex X c g gc _ _ v2).1 (swn_of hk' q3)
            · cases h
          · rename_i x px y py z pz a b d x' y' z'
            split at h
            · rename_i hd
              cases h
              simp only [Bool.and_eq_true, decide_eq_true_eq] at hd
              obtain ⟨⟨⟨⟨⟨⟨⟨⟨rfl, rfl⟩, rfl⟩, hxy⟩, hxz⟩, hyz⟩, hx⟩, hy⟩, hz⟩ := hd
              obtain ⟨_, g1, r1, rfl, rfl, t1, u1⟩ := compGs_cons q4
              obtain ⟨_, g2, r2, rfl, rfl, t2, u2⟩ := compGs_cons u1
              obtain ⟨_, g3, r3, rfl, rfl, t3, u3⟩ := compGs_cons u2
              obtain rfl := compGs_nil u3
              obtain ⟨i, rfl, hi, _⟩ := name_tgt t1
              obtain ⟨i2, rfl, hi2, _⟩ := name_tgt t2
              obtain ⟨i3, rfl, hi3, _⟩ := name_tgt t3
              obtain ⟨m3, ia, ib, id, rfl, rfl, v1, v2, v3, s1, s2, s3⟩ := compL_three q5
              have n1 := ixOf_get0 hi
              have n2 := ixOf_get0 hi2
              have n3 := ixOf_get0 hi3
              rw [← gc.N] at n1 n2 n3
              rw [← gc.sc] at hx hy hz
              exact ms_par3 g.calm g.nd n1 n2 n3 (ne_ix hi hi2 hxy) (ne_ix hi hi3 hxz) (ne_ix hi2 hi3 hyz) hx hy hz s1 s2 s3 ((sound_all _).Ex X c g gc _ _ v1).1 ((sound_all _).Ex X c g gc _ _ v2).1 ((sound_all _).Ex X c g gc _ _ v3).1 (swn_of hk' q3)
            · cases h
          · cases h
        · cases h
      · cases h
    · refine gen ?_
      rw [← h]
      cases tg <;> first | rfl | skip
      · cases e <;> first | rfl | (exact absurd ⟨_, _, _, _, _, _, rfl, rfl⟩ h1)
      · cases e <;> first | rfl | (exact absurd ⟨_, _, _, _, _, _, rfl, rfl⟩ h2)
theorem step_S {W : Nat} (ok : OkS Φ G k W n) : OkS Φ G k W (n + 1) := by
  have okn := sound_all (Φ := Φ) (G := G) (k := k) n
  refine ⟨fun X c g gc s ir h => ?_, fun X c g gc ss ir h => ?_⟩
  · cases s with
    | Assign tgs e pos =>
      simp only [compS] at h
      split at h
      · exact step_asg g gc h
      · cases h
    | AugAssign t o e pos =>
      cases t with
      | Name x p =>
        simp only [compS] at h
        split at h
        · rename_i hw
          obtain ⟨w1, w2⟩ := gc.wr x hw
          split at h
          · rename_i i ie q1 q2
            cases h
            have n1 := ixOf_get0 q1
            rw [← gc.N] at n1
            exact ms_aug (.inl ⟨rfl, rfl⟩) g.nd n1 w1 w2 (okn.Ex X c g gc _ _ q2).1
          · rename_i i ie q1 q2
            cases h
            have n1 := ixOf_get0 q1
            rw [← gc.N] at n1
            exact ms_aug (.inr ⟨rfl, rfl⟩) g.nd n1 w1 w2 (okn.Ex X c g gc _ _ q2).1
          · cases h
        · cases h
      | _ => simp [compS] at h
    | Expr e pos =>
      simp only [compS] at h
      split at h
      · rename_i hc
        obtain ⟨ie, q1, rfl⟩ := Option.map_eq_some_iff.mp h
        exact ms_exp (okn.Ex X c g gc _ _ q1).1 hc
      · cases h
    | Return e pos =>
      cases e with
      | none => simp only [compS, Option.some.injEq] at h; subst h; exact ms_retN
      | some e =>
        simp only [compS] at h
        obtain ⟨ie, q1, rfl⟩ := Option.map_eq_some_iff.mp h
        exact ms_ret (okn.Ex X c g gc _ _ q1).1
    | Raise e2 c2 pos =>
      simp only [compS, Option.some.injEq] at h
      subst h
      exact ⟨fun pins s σ H D' I ⟨ρ, S, m, env, rs, p⟩ => p.elim⟩
    | Pass pos => simp only [compS, Option.some.injEq] at h; subst h; exact ms_pas
    | Break pos => simp only [compS, Option.some.injEq] at h; subst h; exact ms_brk
    | Continue pos => simp only [compS, Option.some.injEq] at h; subst h; exact ms_cnt
    | If t a b pos =>
      simp only [compS] at h
      split at h
      · rename_i it ia ib q1 q2 q3
        cases h
        exact ms_ife (okn.Ex X c g gc _ _ q1).2.1 (ok.Bl X c g gc _ _ q2) (ok.Bl X c g gc _ _ q3)
      · cases h
    | For tg it b els pos =>
      cases els with
      | nil =>
        simp only [compS] at h
        split at h
        · rename_i hs
          split at h
          · rename_i gi ii ib q1 q2 q3
            cases h
            exact ms_for g.po g.calm (okn.It X c g gc _ _ _ q2) (okn.Tg X c g gc _ _ q1) (ok.Bl X c g gc _ _ q3) hs
          · cases h
        · cases h
      | cons => simp [compS] at h
    | While t b els pos =>
      cases els with
      | nil =>
        simp only [compS] at h
        split at h
        · rename_i it ib q1 q2
          cases h
          exact ms_whl g.po (okn.Ex X c g gc _ _ q1).2.1 (ok.Bl X c g gc _ _ q2)
        · cases h
      | cons => simp [compS] at h
    | _ => simp [compS] at h
  · cases ss with
    | nil => simp only [compB, Option.some.injEq] at h; subst h; exact mss_nil
    | cons s ss =>
      simp only [compB] at h
      split at h
      · rename_i a b q1 q2
        cases h
        exact mss_cons (ok.St X c g gc _ _ q1) (ok.Bl X c g gc _ _ q2)
      · cases h
theorem sound_S {W : Nat} : ∀ n, OkS Φ G k W n
  | 0 => ⟨fun _ _ _ _ s ir h => by simp [compS] at h, fun _ _ _ _ ss ir h => by simp [compB] at h⟩
  | n + 1 => step_S (sound_S n)
end
end RS

namespace RS
open PySem PySem.Spec L2
/-! ### defs -/
theorem scope_of {N P : List Str} {sc : Scope} (h : scopeB N P sc = true) : FnScope N P sc := by
  unfold scopeB at h
  simp only [Bool.and_eq_true, Bool.not_eq_true', decide_eq_true_eq, List.all_eq_true] at h
  obtain ⟨⟨⟨⟨⟨⟨h1, h2⟩, h3⟩, h4⟩, h5⟩, h6⟩, h7⟩ := h
  refine ⟨?_, h2, h3, h4, h5, fun x hx => ?_, fun y hy e => ?_⟩
  · unfold kindF at h1
    split at h1
    · assumption
    · cases h1
  · have := h6 x hx
    split at this
    · exact .inl (by assumption)
    · exact .inr (by assumption)
    · cases this
  · have := h7 y hy
    rw [e] at this
    cases this
section
variable {P : Program} {w : World} {K : PySem.W.Frag} {mg : Str → Option Value} {base : Heap}
/-- a def: its name, the text, the parameters, all names by slot -/
structure Dfn where
  x : Str
  st : Stmt
  ps : List Str
  N : List Str
/-- a def as it stands behind the top -/
def FnAt (K : PySem.W.Frag) (mg : Str → Option Value) (d : Dfn) : Prop := ∃ (a : Addr) (fd : FuncData), mg d.x = some (.ref a) ∧ Fun K d.x d.x d.st a fd ∧ ∀ us : List Value, us.length = d.ps.length → bindArgs fd ⟨us, []⟩ = pure (d.ps.zip us)
/-- what stands behind the top, for a text -/
structure Top (K : PySem.W.Frag) (mg : Str → Option Value) (T : Tab) (ds : List Dfn) (fs : List Fn) (G : Nat → D) (fuel : Nat) : Prop where
  nm : T.fns = ds.map (·.x)
  fn : ∀ d ∈ ds, FnAt K mg d
  cp : ds.map (fun d => compF fuel T d.N d.ps (defScope d.st) (defBody d.st)) = fs.map some
  blt : ∀ x ∈ bltNames, T.fns.contains x = false → T.cons.contains x = false → mg x = none
  con : ∀ (g : Nat) (x : Str), T.cons[g]? = some x → ∃ (u : Value) (v : V), mg x = some u ∧ RelV v u ∧ ∀ m H, Rep K m H (G g) v
theorem env_start {m : List Addr} {H : Hp} : ∀ {ds : List D} {vs : List V} {N : List Str}, Reps K m H ds vs → ds.length ≤ N.length → EnvR K m H (ds.map some ++ List.replicate (N.length - ds.length) none) (L2.start N vs) := by
  intro ds vs N r hl
  refine ⟨by simp [L2.start, r.len], fun i d h => ?_⟩
  by_cases hi : i < ds.length
  · rw [List.getElem?_append_left (by simpa using hi), List.getElem?_map] at h
    cases e : ds[i]? with
    | none => rw [e] at h; simp at h
    | some d' =>
      rw [e] at h
      simp at h
      subst h
      obtain ⟨v, q1, q2⟩ := r.get e
      refine ⟨v, ?_, q2⟩
      unfold L2.start
      rw [List.getElem?_append_left (by rw [List.length_map, ← r.len]; exact hi), List.getElem?_map, q1]
      rfl
  · rw [List.getElem?_append_right (by simpa using hi), List.getElem?_replicate] at h
    split at h <;> cases h
theorem cp_at {T : Tab} {ds : List Dfn} {fs : List Fn} {fuel f : Nat} {d : Dfn} (h : ds.map (fun d => compF fuel T d.N d.ps (defScope d.st) (defBody d.st)) = fs.map some) (hd : ds[f]? = some d) : ∃ fn, compF fuel T d.N d.ps (defScope d.st) (defBody d.st) = some fn ∧ fs[f]? = some fn := by
  have e := congrArg (fun l => l[f]?) h
  simp only [List.getElem?_map, hd, Option.map_some] at e
  cases q : fs[f]? with
  | none => rw [q] at e; cases e
  | some fn => rw [q] at e; exact ⟨fn, Option.some.inj e, rfl⟩
theorem fns_ok {T : Tab} {ds : List Dfn} {fs : List Fn} {G : Nat → D} {W fuel : Nat} (t : Top K mg T ds fs G fuel) : ∀ (n : Nat), ∀ (f : Nat) (d : Dfn), ds[f]? = some d → ∃ (a : Addr) (fd : FuncData), mg d.x = some (.ref a) ∧ PySem.W.keepIn K (.ref a) = true ∧ (∀ us : List Value, us.length = d.ps.length → bindArgs fd ⟨us, []⟩ = pure (d.ps.zip us)) ∧ (∀ vs S, run fs G W n f vs S = .no ∨ vs.length = d.ps.length) ∧
    ∀ base : Heap, FnOk P w K mg base CX0 n a fd d.ps (spD K d.ps.length (run fs G W n f))
  | 0, f, d, hf => by
    obtain ⟨a, fd, h1, h2, h3⟩ := t.fn d (List.mem_of_getElem? hf)
    refine ⟨a, fd, h1, h2.kp, h3, fun _ _ => .inl rfl, fun base => ⟨fun vs H Q E h => h.1, fun A outer s H args us vs Q E hr e0 hb r h => ?_⟩⟩
    obtain ⟨_, ds, S, m, _, _, p⟩ := h
    exact p.elim
  | n + 1, f, d, hf => by
    obtain ⟨a, fd, h1, h2, h3⟩ := t.fn d (List.mem_of_getElem? hf)
    obtain ⟨fn, h4, h5⟩ := cp_at t.cp hf
    unfold compF at h4
    split at h4
    · rename_i hs
      obtain ⟨cb, h6, rfl⟩ := Option.map_eq_some_iff.mp h4
      have sc := scope_of hs
      have hpl : d.ps.length ≤ d.N.length := by have := congrArg List.length sc.pre; rw [List.length_take] at this; omega
      have hrun : ∀ vs S, run fs G W (n + 1) f vs S = runF (run fs G W n) G W ⟨d.ps.length, d.N.length, cb⟩ vs S := fun vs S => by
        show (match fs[f]? with | some f => runF (run fs G W n) G W f vs S | none => R.no) = _
        rw [h5]
      refine ⟨a, fd, h1, h2.kp, h3, fun vs S => ?_, fun base => ?_⟩
      · rw [hrun]
        unfold runF
        by_cases e : vs.length = d.ps.length
        · exact .inr e
        · rw [if_neg e]; exact .inl rfl
      refine h2.ok sc (fun vs H Q E h => h.1) fun cdv A outer s H vs Q E hr h => ?_
      obtain ⟨hl, ds', S, m, rs, r, p⟩ := h
      have g : Good (cxOf CX0 P w K mg base d.N d.x (defScope d.st) a cdv A outer s H E).nox T (run fs G W n) G n :=
        ⟨rfl, sc.nd, hr, PassesOwn.never, fun f' x' hf' => by
          rw [t.nm, List.getElem?_map] at hf'
          cases q : ds[f']? with
          | none => rw [q] at hf'; cases hf'
          | some d' =>
            rw [q] at hf'
            cases Option.some.inj hf'
            obtain ⟨a', fd', z1, z2, z3, z4, z5⟩ := fns_ok t n f' d' q
            exact ⟨a', fd', d'.ps, z1, z2, .all z3, z4, z5 base⟩, t.blt, t.con⟩
      have gc : GC (cxOf CX0 P w K mg base d.N d.x (defScope d.st) a cdv A outer s H E).nox { T := T, N := d.N, sc := defScope d.st, wr := d.N.filter fun x => locB (defScope d.st) x } := by
        refine ⟨rfl, rfl, fun y hy => ?_⟩
        rw [List.contains_iff_mem, List.mem_filter] at hy
        refine ⟨?_, .inl rfl⟩
        have hy2 := hy.2
        unfold locB at hy2
        split at hy2
        · exact .inl (by assumption)
        · exact .inr (by assumption)
        · cases hy2
      refine ⟨_, (sound_S (Φ := run fs G W n) (G := G) (k := n) (W := W) fuel).Bl _ _ g gc _ _ h6, ?_⟩
      rw [hrun] at p
      unfold runF at p
      obtain ⟨he, p⟩ := p.ite
      have he : ds'.length = d.ps.length := he
      refine ⟨_, S, m, env_start r (by omega), rs, ?_⟩
      revert p
      cases exec (run fs G W n) G W cb (ds'.map some ++ List.replicate (d.N.length - ds'.length) none) S with
      | ok fl S1 =>
        intro p m1 H1 e1 rs1
        cases fl with
        | nx ρ => exact fun σ1 _ => p .non m1 H1 e1 rs1 (Rep.non_.mpr rfl)
        | rt d => exact fun v rv => p v m1 H1 e1 rs1 rv
        | bk ρ => exact p.elim
        | ct ρ => exact p.elim
      | ex => exact fun p => p
      | no => exact fun p => p
    · cases h4
end
/-- no list is written in the part -/
def noLists (K : PySem.W.Frag) : Bool := K.all fun p => match p.2.cls with
  | .type "list" => false
  | _ => true
theorem lookup_mem {K : PySem.W.Frag} {a : Addr} {o : Obj} (h : K.lookup a = some o) : ∃ p ∈ K, p.2 = o := by
  induction K with
  | nil => simp at h
  | cons q K ih =>
    obtain ⟨b, u⟩ := q
    rw [List.lookup_cons] at h
    split at h
    · cases h; exact ⟨_, List.mem_cons_self, rfl⟩
    · obtain ⟨p, hp, e⟩ := ih h
      exact ⟨p, List.mem_cons_of_mem _ hp, e⟩
theorem noLists_of {K : PySem.W.Frag} (h : noLists K = true) {a : Addr} {o : Obj} (hl : K.lookup a = some o) : o.cls ≠ .type "list" := fun e => by
  obtain ⟨p, hp, rfl⟩ := lookup_mem hl
  have := List.all_eq_true.mp h p hp
  rw [e] at this
  cases this
/-- the law's promise: the script in, True out -/
def spLaw (K : PySem.W.Frag) : Sp := fun vs H Q _ => ∃ (a : Addr) (ns : List Int), vs = [.ref a] ∧ Only H ∧ SqL K H a (ns.map V.int) ∧ ns.length ≤ 63 ∧ ∀ H', Q (.bl true) H'
theorem ints_reps {K : PySem.W.Frag} {m : List Addr} {H : Hp} : ∀ ns : List Int, Reps K m H (ns.map D.int) (ns.map V.int)
  | [] => by simp [Reps.nil_]
  | n :: ns => by simp only [List.map_cons]; rw [Reps.cons_]; exact ⟨_, _, rfl, Rep.int_.mpr rfl, ints_reps ns⟩
theorem law_ok {P : Program} {w : World} {K : PySem.W.Frag} {mg : Str → Option Value} {T : Tab} {ds : List Dfn} {fs : List Fn} {G : Nat → D} {W fuel n f : Nat} {d : Dfn} {x : Str} {fa : Addr} (t : Top K mg T ds fs G fuel) (nl : noLists K = true) (hf : ds[f]? = some d) (hp : d.ps = [x]) (hm : mg d.x = some (.ref fa))
    (hrun : ∀ ns : List Int, ns.length ≤ 63 → ∃ S, run fs G W n f [.ref 0] [.scr (ns.map D.int)] = .ok (.bl true) S) :
    ∃ fd : FuncData, (∀ (s : Shared) (u : Value), BindsTo s fd ⟨[u], []⟩ [(x, u)]) ∧ ∀ base : Heap, FnOk P w K mg base CX0 n fa fd [x] (spLaw K) := by
  obtain ⟨a, fd, h1, h2, h3, h4, F⟩ := fns_ok (P := P) (w := w) (W := W) t n f d hf
  rw [hm] at h1
  cases h1
  refine ⟨fd, fun s u => .of_eq (by rw [h3 [u] (by rw [hp]; rfl), hp]; rfl), fun base => ?_⟩
  rw [← hp]
  refine (F base).imp fun vs H Q E h => ?_
  obtain ⟨b, ns, rfl, hO, hS, hn, q⟩ := h
  obtain ⟨S, hr⟩ := hrun ns hn
  have hl : ([.ref 0] : List D).length = d.ps.length := by rw [hp]; rfl
  have hfz : ∃ o, H b = some (.frz o (.lst (ns.map V.int))) := by
    rcases hS with (h | ⟨o, h⟩) | ⟨o, its, k, hk, hc, _⟩
    · rcases hO b with z | ⟨o, xs, z⟩
      · rw [h] at z; cases z
      · rw [h] at z; cases z
    · exact ⟨o, h⟩
    · exact absurd hc (noLists_of nl hk)
  obtain ⟨o, ho⟩ := hfz
  refine ⟨hl, [.ref 0], [.scr (ns.map D.int)], [b], ⟨rfl, by simp, fun i u c h1 h2 => ?_⟩, ?_, ?_⟩
  · cases i with
    | zero =>
      simp at h1 h2
      subst h1 h2
      exact ⟨o, _, ho, ints_reps ns⟩
    | succ i => simp at h1
  · exact Reps.one (Rep.ref_.mpr ⟨b, rfl, rfl⟩)
  · rw [hr]
    intro v m1 H1 e1 rs1 r1
    rw [Rep.bl_] at r1
    subst r1
    exact q H1
/-- a def from its facts -/
theorem fnAt_mk {K : PySem.W.Frag} {h : Heap} {mg : Str → Option Value} (X : K.In h) (Gn : h.Ns mainGlobals mg) {d : Dfn} {a : Addr} {oc : Value} {od an : Option Addr} {osl : Array (Option Value)} {kV doc pm cdv ct : Value}
    (hb : ∀ (us : List Value), us.length = d.ps.length → bindArgs (PySem.W.fnOf d.x d.x (defArgs d.st) (defBody d.st) (defScope d.st) .none kV doc pm an cdv ct) ⟨us, []⟩ = pure (d.ps.zip us))
    (e : PySem.W.nsIn K mainGlobals d.x = some (some (.ref a))) (l : K.lookup a = some ⟨oc, od, .func (PySem.W.fnOf d.x d.x (defArgs d.st) (defBody d.st) (defScope d.st) .none kV doc pm an cdv ct), osl⟩)
    (c : PySem.W.codeIn K cdv d.x = true) (k : PySem.W.keepIn K (.ref a) = true) : FnAt K mg d :=
  ⟨a, _, PySem.W.mg_of X Gn e, fun_mk l c k, hb⟩
/-- names that are the built-ins' -/
def freeB (K : PySem.W.Frag) (x : Str) : Bool := match PySem.W.nsIn K mainGlobals x with
  | some none => true
  | _ => false
theorem free_of {K : PySem.W.Frag} {h : Heap} {mg : Str → Option Value} (X : K.In h) (Gn : h.Ns mainGlobals mg) {x : Str} (e : freeB K x = true) : mg x = none := by
  unfold freeB at e
  split at e
  · exact PySem.W.mg_none_of X Gn (by assumption)
  · cases e
end RS

namespace RS
open PySem PySem.Spec L2
/-- the end of a law's proof, from the run of the language -/
theorem ends {l : PySem.W.OpenLaw} {n f : Nat} {q : Program} {loose : List Str} {XP : (Str → Option Value) → Heap → Prop} {YP : World → Heap → Prop} {r : PySem.DefRec} {K : PySem.Params → PySem.W.Frag} {T : Tab} {ds : List Dfn} {fs : List Fn} {G : Nat → D} {W fuel : Nat} {d : Dfn} {x : Str}
    (hn : l.most = some 63) (hdf : r.params.defaults = []) (hr : Room n callerA) (hY : ∀ (w : World) (h : Heap), YP w h → (K w.params).In h)
    (hf : ds[f]? = some d) (hp : d.ps = [x]) (hx : d.x = r.name)
    (F : ∀ (w : World) (mg : Str → Option Value) (h : Heap), (K w.params).In h → h.Ns mainGlobals mg → Top (K w.params) mg T ds fs G fuel)
    (nl : ∀ w : World, noLists (K w.params) = true)
    (hrun : ∀ ns : List Int, ns.length ≤ 63 → ∃ S, run fs G W n f [.ref 0] [.scr (ns.map D.int)] = .ok (.bl true) S) :
    PySem.W.WalkO q loose XP YP l.row.toRowW r [] (fun f vs => PySem.call f vs) := by
  refine L2.walk_of (n := 63) (k := n) (x := x) (CX := fun _ => CX0) (sp := fun w => spLaw (K w.params)) hn (by decide) hdf hr hY ?_ (fun _ _ a ns hl hO hS => ⟨a, ns, rfl, hO, hS, hl, fun _ => rfl⟩) (fun _ _ _ _ _ z => z)
  intro w mg fa h KX Gn hmg
  obtain ⟨fd, h1, h2⟩ := law_ok (P := l.prog) (w := w) (W := W) (F w mg h KX Gn) (nl w) hf hp (by rw [hx]; exact hmg) hrun
  exact ⟨fd, h1, fun base _ _ => h2 base⟩
/-- the built-ins' names, all at once -/
def bltsFree (K : PySem.W.Frag) (T : Tab) : Bool := bltNames.all fun x => T.fns.contains x || T.cons.contains x || freeB K x
theorem blts_of {K : PySem.W.Frag} {h : Heap} {mg : Str → Option Value} {T : Tab} (X : K.In h) (Gn : h.Ns mainGlobals mg) (e : bltsFree K T = true) : ∀ x ∈ bltNames, T.fns.contains x = false → T.cons.contains x = false → mg x = none := fun x hx h1 h2 => by
  have := List.all_eq_true.mp e x hx
  rw [h1, h2, Bool.false_or, Bool.false_or] at this
  exact free_of X Gn this
end RS

namespace RS
/-! ### what a run gives, by what is wanted of it -/
/-- a step that is told to be one (no silent unfolding where it is used) -/
theorem nrfl {α : Sort _} {a : α} : a = a := of_eq_true (eq_self a)
def Ok {α : Type} (r : R α) (Q : α → Hs → Prop) : Prop := match r with
  | .ok a S => Q a S
  | _ => False
theorem Ok_ok {α : Type} {a : α} {S : Hs} {Q : α → Hs → Prop} : Ok (.ok a S) Q = Q a S := nrfl
theorem Ok_no {α : Type} {Q : α → Hs → Prop} : Ok .no Q = False := nrfl
theorem Ok_bind {α β : Type} {r : R α} {f : α → Hs → R β} {Q : β → Hs → Prop} : Ok (r.bind f) Q = Ok r fun a S => Ok (f a S) Q := by cases r <;> exact nrfl
theorem Ok.imp {α : Type} {r : R α} {P Q : α → Hs → Prop} (h : Ok r P) (k : ∀ a S, P a S → Q a S) : Ok r Q := by
  cases r with
  | ok a S => exact k a S h
  | ex => exact h
  | no => exact h
theorem Ok.out {α : Type} {r : R α} {Q : α → Hs → Prop} (h : Ok r Q) : ∃ a S, r = .ok a S ∧ Q a S := by
  cases r with
  | ok a S => exact ⟨a, S, rfl, h⟩
  | ex => exact h.elim
  | no => exact h.elim
theorem Ok_ite {α : Type} {c : Prop} [Decidable c] {a b : R α} {Q : α → Hs → Prop} : Ok (if c then a else b) Q = if c then Ok a Q else Ok b Q := by split <;> rfl
theorem Ok_tst {α : Type} {c : Bool} {a b : R α} {Q : α → Hs → Prop} : Ok (tst (.bl c) a b) Q = if c = true then Ok a Q else Ok b Q := by cases c <;> rfl
theorem Ok_tstP {α : Type} {c : Prop} [Decidable c] {a b : R α} {Q : α → Hs → Prop} : Ok (tst (.bl (decide c)) a b) Q = if c then Ok a Q else Ok b Q := by by_cases h : c <;> simp [h, tst]
theorem Ok_tstN {α : Type} {c : Bool} {a b : R α} {Q : α → Hs → Prop} : Ok (tst (.bl (!c)) a b) Q = if c = true then Ok b Q else Ok a Q := by cases c <;> rfl
theorem Ok_lim {α : Type} {n : Nat} {r : R α} {Q : α → Hs → Prop} (h : n ≤ 1000000) : Ok (lim n r) Q = Ok r Q := by
  unfold lim
  rw [if_pos (Nat.le_trans h (by decide))]
/-- statements: what follows -/
def nxQ (k : Rho → Hs → Prop) (Q : Fl → Hs → Prop) : Fl → Hs → Prop := fun f S => match f with
  | .nx ρ => k ρ S
  | f => Q f S
theorem nxQ_nx {k : Rho → Hs → Prop} {Q : Fl → Hs → Prop} {ρ : Rho} {S : Hs} : nxQ k Q (.nx ρ) S = k ρ S := nrfl
theorem nxQ_rt {k : Rho → Hs → Prop} {Q : Fl → Hs → Prop} {d : D} {S : Hs} : nxQ k Q (.rt d) S = Q (.rt d) S := nrfl
theorem nxQ_bk {k : Rho → Hs → Prop} {Q : Fl → Hs → Prop} {ρ : Rho} {S : Hs} : nxQ k Q (.bk ρ) S = Q (.bk ρ) S := nrfl
theorem nxQ_ct {k : Rho → Hs → Prop} {Q : Fl → Hs → Prop} {ρ : Rho} {S : Hs} : nxQ k Q (.ct ρ) S = Q (.ct ρ) S := nrfl
def rtQ (Q : D → Hs → Prop) : Fl → Hs → Prop := fun f S => match f with
  | .nx _ => Q .non S
  | .rt d => Q d S
  | _ => False
theorem rtQ_nx {Q : D → Hs → Prop} {ρ : Rho} {S : Hs} : rtQ Q (.nx ρ) S = Q .non S := nrfl
theorem rtQ_rt {Q : D → Hs → Prop} {d : D} {S : Hs} : rtQ Q (.rt d) S = Q d S := nrfl
section
variable {Φ : Nat → List D → Hs → R D} {G : Nat → D} {W : Nat} {ρ : Rho} {S : Hs} {Q : Fl → Hs → Prop}
theorem x_nil : Ok (exec Φ G W .nil ρ S) Q = Q (.nx ρ) S := nrfl
theorem x_cons {a b : C} : Ok (exec Φ G W (.cons a b) ρ S) Q = Ok (exec Φ G W a ρ S) (nxQ (fun ρ1 S1 => Ok (exec Φ G W b ρ1 S1) Q) Q) := by
  simp only [exec, Ok_bind]
  congr 1
  funext f S1
  cases f <;> rfl
theorem x_asg {tg e : E} : Ok (exec Φ G W (.asg tg e) ρ S) Q = Ok (den Φ G e ρ S) fun d S1 => Ok (denG Φ G tg d ρ S1) fun ρ1 S2 => Q (.nx ρ1) S2 := by simp only [exec, Ok_bind, Ok_ok]
theorem x_exp {e : E} : Ok (exec Φ G W (.exp e) ρ S) Q = Ok (den Φ G e ρ S) fun _ S1 => Q (.nx ρ) S1 := by simp only [exec, Ok_bind, Ok_ok]
theorem x_ret {e : E} : Ok (exec Φ G W (.ret e) ρ S) Q = Ok (den Φ G e ρ S) fun d S1 => Q (.rt d) S1 := by simp only [exec, Ok_bind, Ok_ok]
theorem x_retN : Ok (exec Φ G W .retN ρ S) Q = Q (.rt .non) S := nrfl
theorem x_pas : Ok (exec Φ G W .pas ρ S) Q = Q (.nx ρ) S := nrfl
theorem x_brk : Ok (exec Φ G W .brk ρ S) Q = Q (.bk ρ) S := nrfl
theorem x_cnt : Ok (exec Φ G W .cnt ρ S) Q = Q (.ct ρ) S := nrfl
theorem x_ife {c : E} {a b : C} : Ok (exec Φ G W (.ife c a b) ρ S) Q = Ok (den Φ G c ρ S) fun x S1 => Ok (tst x (exec Φ G W a ρ S1) (exec Φ G W b ρ S1)) Q := by simp only [exec, Ok_bind]
theorem x_aug {i : Nat} {o : Bop} {e : E} {x : D} (h : ρ[i]? = some (some x)) : Ok (exec Φ G W (.aug i o e) ρ S) Q = Ok (den Φ G e ρ S) fun y S1 => Ok (augD S1 o x y) fun z S2 => Q (.nx (ρ.set i (some z))) S2 := by simp only [exec, h, Ok_bind, Ok_ok]
theorem x_for {tg it : E} {b : C} : Ok (exec Φ G W (.for_ tg it b) ρ S) Q = Ok (denI Φ G it ρ S) fun src S1 => Ok (forGo src.gs (fun d ρ' S' => (denG Φ G tg d ρ' S').bind fun ρ1 S2 => exec Φ G W b ρ1 S2) src.its ρ S1) Q := by simp only [exec, Ok_bind]
theorem x_whl {c : E} {b : C} : Ok (exec Φ G W (.whl c b) ρ S) Q = Ok (whlGo (den Φ G c) (exec Φ G W b) W ρ S) Q := by simp only [exec]
end
section
variable {Φ : Nat → List D → Hs → R D} {G : Nat → D} {ρ : Rho} {S : Hs} {Q : D → Hs → Prop}
theorem d_var {i : Nat} {d : D} (h : ρ[i]? = some (some d)) : Ok (den Φ G (.var i) ρ S) Q = Q d S := by simp only [den, h, Ok_ok]
theorem d_non : Ok (den Φ G .non ρ S) Q = Q .non S := by simp only [den, Ok_ok]
theorem d_bl {b : Bool} : Ok (den Φ G (.bl b) ρ S) Q = Q (.bl b) S := by simp only [den, Ok_ok]
theorem d_int {b : Int} : Ok (den Φ G (.int b) ρ S) Q = Q (.int b) S := by simp only [den, Ok_ok]
theorem d_str {b : PySem.Str} : Ok (den Φ G (.str b) ρ S) Q = Q (.str b) S := by simp only [den, Ok_ok]
theorem d_glb {b : Nat} : Ok (den Φ G (.glb b) ρ S) Q = Q (G b) S := by simp only [den, Ok_ok]
theorem d_tup {es : E} : Ok (den Φ G (.tup es) ρ S) Q = Ok (denL Φ G es ρ S) fun ds S1 => Ok (lim ds.length (.ok (.tup ds) S1)) Q := by simp only [den, Ok_bind]
theorem d_lst {es : E} : Ok (den Φ G (.lst es) ρ S) Q = Ok (denL Φ G es ρ S) fun ds S1 => Ok (lim ds.length (newO (.lst ds) S1)) Q := by simp only [den, Ok_bind]
theorem d_bin {o : Bop} {a b : E} : Ok (den Φ G (.bin o a b) ρ S) Q = Ok (den Φ G a ρ S) fun x S1 => Ok (den Φ G b ρ S1) fun y S2 => Ok (binD S2 o x y) Q := by simp only [den, Ok_bind]
theorem d_cmp {o : Cop} {a b : E} : Ok (den Φ G (.cmp o a b) ρ S) Q = Ok (den Φ G a ρ S) fun x S1 => Ok (den Φ G b ρ S1) fun y S2 => Ok (cmpD S2 o x y) Q := by simp only [den, Ok_bind]
def negD (S : Hs) : D → R D
  | .int i => .ok (.int (-i)) S
  | _ => .no
def notD (S : Hs) : D → R D
  | .bl b => .ok (.bl (!b)) S
  | _ => .no
def isiD (S : Hs) (ts : List Ty) (x : D) : R D := match tysAre S x ts with
  | some b => .ok (.bl b) S
  | none => .no
theorem d_neg {a : E} : Ok (den Φ G (.neg a) ρ S) Q = Ok (den Φ G a ρ S) fun x S1 => Ok (negD S1 x) Q := by
  simp only [den, Ok_bind]; first | rfl | (congr 1; funext x S1; cases x <;> rfl)
theorem d_nt {a : E} : Ok (den Φ G (.nt a) ρ S) Q = Ok (den Φ G a ρ S) fun x S1 => Ok (notD S1 x) Q := by
  simp only [den, Ok_bind]; first | rfl | (congr 1; funext x S1; cases x <;> rfl)
theorem d_isN {a : E} : Ok (den Φ G (.isN a) ρ S) Q = Ok (den Φ G a ρ S) fun x S1 => Q (.bl (isN x)) S1 := by simp only [den, Ok_bind, Ok_ok]
theorem d_nsN {a : E} : Ok (den Φ G (.nsN a) ρ S) Q = Ok (den Φ G a ρ S) fun x S1 => Q (.bl (!isN x)) S1 := by simp only [den, Ok_bind, Ok_ok]
theorem d_chn {o p : Cop} {a b c : E} : Ok (den Φ G (.chn o p a b c) ρ S) Q = Ok (den Φ G a ρ S) fun x S1 => Ok (den Φ G b ρ S1) fun y S2 => Ok (cmpD S2 o x y) fun k S3 => Ok (tst k ((den Φ G c ρ S3).bind fun z S4 => cmpD S4 p y z) (.ok (.bl false) S3)) Q := by simp only [den, Ok_bind]
theorem d_and {a b : E} : Ok (den Φ G (.and a b) ρ S) Q = Ok (den Φ G a ρ S) fun x S1 => Ok (tst x (den Φ G b ρ S1) (.ok (.bl false) S1)) Q := by simp only [den, Ok_bind]
theorem d_or {a b : E} : Ok (den Φ G (.or a b) ρ S) Q = Ok (den Φ G a ρ S) fun x S1 => Ok (tst x (.ok (.bl true) S1) (den Φ G b ρ S1)) Q := by simp only [den, Ok_bind]
theorem d_ife {a b c : E} : Ok (den Φ G (.ife c a b) ρ S) Q = Ok (den Φ G c ρ S) fun x S1 => Ok (tst x (den Φ G a ρ S1) (den Φ G b ρ S1)) Q := by simp only [den, Ok_bind]
theorem d_cal {f : Nat} {es : E} : Ok (den Φ G (.cal f es) ρ S) Q = Ok (denL Φ G es ρ S) fun ds S1 => Ok (Φ f ds S1) Q := by simp only [den, Ok_bind]
theorem d_bi {f : Bi} {es : E} : Ok (den Φ G (.bi f es) ρ S) Q = Ok (denL Φ G es ρ S) fun ds S1 => Ok (biF S1 f ds) Q := by simp only [den, Ok_bind]
theorem d_isi {ts : List Ty} {a : E} : Ok (den Φ G (.isi ts a) ρ S) Q = Ok (den Φ G a ρ S) fun x S1 => Ok (isiD S1 ts x) Q := by
  simp only [den, Ok_bind, isiD]; all_goals rfl
theorem d_mth {m : Mt} {o es : E} : Ok (den Φ G (.mth m o es) ρ S) Q = Ok (den Φ G o ρ S) fun x S1 => if mtK S1 m x = true then Ok (denL Φ G es ρ S1) (fun ds S2 => Ok (mtF S2 m x ds) Q) else False := by
  simp only [den, Ok_bind]; congr 1; funext x S1; split <;> simp only [Ok_bind, Ok_no]
theorem d_ix {a i : E} : Ok (den Φ G (.ix a i) ρ S) Q = Ok (den Φ G a ρ S) fun x S1 => Ok (den Φ G i ρ S1) fun y S2 => Ok (ixD S2 x y) Q := by simp only [den, Ok_bind]
theorem d_sl {a lo hi : E} : Ok (den Φ G (.sl a lo hi) ρ S) Q = Ok (den Φ G a ρ S) fun x S1 => Ok (denO Φ G lo ρ S1) fun l S2 => Ok (denO Φ G hi ρ S2) fun h S3 => Ok (slD S3 x l h) Q := by simp only [den, Ok_bind]
theorem d_rvs {a : E} : Ok (den Φ G (.rvs a) ρ S) Q = Ok (den Φ G a ρ S) fun x S1 => Ok (rvD S1 x) Q := by simp only [den, Ok_bind]
theorem d_lrg {es : E} : Ok (den Φ G (.lrg es) ρ S) Q = Ok (denL Φ G es ρ S) fun ds S1 => Ok (lrD S1 ds) Q := by simp only [den, Ok_bind]
/-- one turn of a comprehension -/
def lcT (Φ : Nat → List D → Hs → R D) (G : Nat → D) (vs : List Nat) (e tg c : E) (ρ : Rho) (d : D) (S : Hs) : R (Option D) := (denG Φ G tg d (wipeR ρ vs) S).bind fun ρ' S2 => (den Φ G c ρ' S2).bind fun k S3 => tst k ((den Φ G e ρ' S3).bind fun x S4 => .ok (some x) S4) (.ok none S3)
theorem d_lc {vs : List Nat} {e tg it c : E} : Ok (den Φ G (.lc vs e tg it c) ρ S) Q = Ok (denI Φ G it ρ S) fun src S1 => Ok (lcGo src.gs (lcT Φ G vs e tg c ρ) src.its S1) fun r S2 => Ok (lim src.its.length (newO (.lst r) S2)) Q := by
  simp only [den, Ok_bind]; rfl
theorem lcT_eq {vs : List Nat} {e tg c : E} {d : D} {Q : Option D → Hs → Prop} : Ok (lcT Φ G vs e tg c ρ d S) Q = Ok (denG Φ G tg d (wipeR ρ vs) S) fun ρ' S2 => Ok (den Φ G c ρ' S2) fun k S3 => Ok (tst k ((den Φ G e ρ' S3).bind fun x S4 => .ok (some x) S4) (.ok none S3)) Q := by
  simp only [lcT, Ok_bind]
theorem l_nil {Q : List D → Hs → Prop} : Ok (denL Φ G .nil ρ S) Q = Q [] S := by simp only [denL, Ok_ok]
theorem l_cons {a b : E} {Q : List D → Hs → Prop} : Ok (denL Φ G (.cons a b) ρ S) Q = Ok (den Φ G a ρ S) fun x S1 => Ok (denL Φ G b ρ S1) fun xs S2 => Q (x :: xs) S2 := by simp only [denL, Ok_bind, Ok_ok]
theorem o_nil {Q : Option Int → Hs → Prop} : Ok (denO Φ G .nil ρ S) Q = Q none S := by simp only [denO, Ok_ok]
def oiD (S : Hs) : D → R (Option Int)
  | .int i => .ok (some i) S
  | _ => .no
theorem o_cons {a b : E} {Q : Option Int → Hs → Prop} : Ok (denO Φ G (.cons a b) ρ S) Q = Ok (den Φ G a ρ S) fun x S1 => Ok (oiD S1 x) Q := by
  simp only [denO, Ok_bind]; first | rfl | (congr 1; funext x S1; cases x <;> rfl)
theorem i_rng {es : E} {Q : Src → Hs → Prop} : Ok (denI Φ G (.rng es) ρ S) Q = Ok (denL Φ G es ρ S) fun ds S1 => Ok (rgD S1 ds) Q := by simp only [denI, Ok_bind]
theorem i_enm {es : E} {Q : Src → Hs → Prop} : Ok (denI Φ G (.enm es) ρ S) Q = Ok (denL Φ G es ρ S) fun ds S1 => Ok (enD S1 ds) Q := by simp only [denI, Ok_bind]
theorem i_zip {st : Bool} {es : E} {Q : Src → Hs → Prop} : Ok (denI Φ G (.zip st es) ρ S) Q = Ok (denL Φ G es ρ S) fun ds S1 => Ok (zpD st S1 ds) Q := by simp only [denI, Ok_bind]
theorem i_cons {a b : E} {Q : Src → Hs → Prop} : Ok (denI Φ G (.cons a b) ρ S) Q = Ok (den Φ G a ρ S) fun x S1 => Ok (ofO S1 (srcOf S1 x)) Q := by simp only [denI, Ok_bind]
theorem g_var {i : Nat} {d : D} {Q : Rho → Hs → Prop} (h : i < ρ.length) : Ok (denG Φ G (.var i) d ρ S) Q = Q (ρ.set i (some d)) S := by simp only [denG, if_pos h, Ok_ok]
theorem g_tup {es : E} {ds : List D} {Q : Rho → Hs → Prop} (h : ds.length = cnt es) : Ok (denG Φ G (.tup es) (.tup ds) ρ S) Q = Ok (denGs Φ G es ds ρ S) Q := by simp only [denG, if_pos h]
theorem g_ix {a i : E} {d : D} {Q : Rho → Hs → Prop} : Ok (denG Φ G (.ix a i) d ρ S) Q = Ok (den Φ G a ρ S) fun x S1 => Ok (den Φ G i ρ S1) fun y S2 => Ok (setIx S2 x y d) fun _ S3 => Q ρ S3 := by simp only [denG, Ok_bind, Ok_ok]
theorem gs_nil {Q : Rho → Hs → Prop} : Ok (denGs Φ G .nil [] ρ S) Q = Q ρ S := by simp only [denGs, Ok_ok]
theorem gs_cons {a b : E} {d : D} {ds : List D} {Q : Rho → Hs → Prop} : Ok (denGs Φ G (.cons a b) (d :: ds) ρ S) Q = Ok (denG Φ G a d ρ S) fun ρ1 S1 => Ok (denGs Φ G b ds ρ1 S1) Q := by simp only [denGs, Ok_bind]
end
theorem Ok_runF {Φ : Nat → List D → Hs → R D} {G : Nat → D} {W np nn : Nat} {b : C} {ds : List D} {S : Hs} {Q : D → Hs → Prop} (h : ds.length = np) (hb : Ok (exec Φ G W b (ds.map some ++ List.replicate (nn - ds.length) none) S) (rtQ Q)) : Ok (runF Φ G W ⟨np, nn, b⟩ ds S) Q := by
  unfold runF
  rw [if_pos h, Ok_bind]
  exact hb.imp fun f S q => by cases f <;> first | exact q | exact q.elim
theorem Ok_run {fs : List Fn} {G : Nat → D} {W n i np nn : Nat} {b : C} {ds : List D} {S : Hs} {Q : D → Hs → Prop} (e : fs[i]? = some ⟨np, nn, b⟩) (h : ds.length = np) (hb : Ok (exec (run fs G W n) G W b (ds.map some ++ List.replicate (nn - ds.length) none) S) (rtQ Q)) : Ok (run fs G W (n + 1) i ds S) Q := by
  show Ok (match fs[i]? with | some f => runF (run fs G W n) G W f ds S | none => .no) Q
  rw [e]
  exact Ok_runF h hb
/-! ### walks -/
theorem forGo_ok {gs : List (Nat × List D)} {turn : D → Rho → Hs → R Fl} {ds : List D} {ρ : Rho} {S : Hs} {Q : Fl → Hs → Prop} (I : Nat → Rho → Hs → Prop) (h0 : I 0 ρ S) (hh : ∀ i ρ S, i ≤ ds.length → I i ρ S → held S gs = true)
    (ht : ∀ i d ρ S, ds[i]? = some d → I i ρ S → Ok (turn d ρ S) fun f S1 => match f with | .nx ρ1 => I (i + 1) ρ1 S1 | .ct ρ1 => I (i + 1) ρ1 S1 | .bk ρ1 => Q (.nx ρ1) S1 | .rt x => Q (.rt x) S1)
    (hq : ∀ ρ S, I ds.length ρ S → Q (.nx ρ) S) : Ok (forGo gs turn ds ρ S) Q := by
  induction ds generalizing I ρ S with
  | nil =>
    rw [forGo, if_pos (hh 0 _ _ (Nat.le_refl _) h0)]
    exact hq _ _ h0
  | cons d ds ih =>
    rw [forGo, if_pos (hh 0 _ _ (Nat.zero_le _) h0), Ok_bind]
    refine (ht 0 d ρ S rfl h0).imp fun f S1 q => ?_
    cases f with
    | nx ρ1 => exact ih (fun i => I (i + 1)) q (fun i ρ S hi => hh (i + 1) ρ S (Nat.succ_le_succ hi)) (fun i d ρ S hd => ht (i + 1) d ρ S hd) hq
    | ct ρ1 => exact ih (fun i => I (i + 1)) q (fun i ρ S hi => hh (i + 1) ρ S (Nat.succ_le_succ hi)) (fun i d ρ S hd => ht (i + 1) d ρ S hd) hq
    | bk ρ1 => exact q
    | rt x => exact q
/-- a comprehension, by an invariant of the items done and what was found -/
theorem lcGo_ok {gs : List (Nat × List D)} {turn : D → Hs → R (Option D)} {ds : List D} {S : Hs} {Q : List D → Hs → Prop} (I : Nat → List D → Hs → Prop) (h0 : I 0 [] S) (hh : ∀ i r S, i ≤ ds.length → I i r S → held S gs = true)
    (ht : ∀ i d r S, ds[i]? = some d → I i r S → Ok (turn d S) fun o S1 => I (i + 1) (r ++ o.toList) S1)
    (hq : ∀ r S, I ds.length r S → Q r S) : Ok (lcGo gs turn ds S) Q := by
  induction ds generalizing I S Q with
  | nil =>
    rw [lcGo, if_pos (hh 0 _ _ (Nat.le_refl _) h0)]
    exact hq _ _ h0
  | cons d ds ih =>
    rw [lcGo, if_pos (hh 0 _ _ (Nat.zero_le _) h0), Ok_bind]
    refine (ht 0 d [] S rfl h0).imp fun o S1 q => ?_
    rw [Ok_bind]
    refine ih (fun i r S => I (i + 1) ([] ++ o.toList ++ r) S) (by simpa using q) (fun i r S hi => hh (i + 1) _ S (Nat.succ_le_succ hi)) (fun i d r S hd h => ?_) fun r S h => ?_
    · refine (ht (i + 1) d _ S hd h).imp fun o' S1 q => by simpa using q
    · rw [Ok_ok]
      have := hq _ S h
      cases o <;> simpa using this
/-- a comprehension whose turns leave an invariant alone and give what g tells -/
theorem lcGo_pure {gs : List (Nat × List D)} {turn : D → Hs → R (Option D)} {ds : List D} {S : Hs} {Q : List D → Hs → Prop} (I : Hs → Prop) (g : D → Option D) (h0 : I S) (hh : ∀ S, I S → held S gs = true)
    (ht : ∀ d ∈ ds, ∀ S, I S → Ok (turn d S) fun o S1 => o = g d ∧ I S1) (hq : ∀ S, I S → Q (ds.filterMap g) S) : Ok (lcGo gs turn ds S) Q := by
  refine lcGo_ok (fun i r S => r = (ds.take i).filterMap g ∧ I S) ⟨by simp, h0⟩ (fun i r S _ h => hh S h.2) (fun i d r S hd h => ?_) (fun r S h => ?_)
  · refine (ht d (List.mem_of_getElem? hd) S h.2).imp fun o S1 q => ⟨?_, q.2⟩
    rw [h.1, q.1, List.take_succ, hd, List.filterMap_append]
    cases e : g d <;> simp [e]
  · rw [h.1, List.take_length]
    exact hq S h.2
theorem whlGo_ok {cond : Rho → Hs → R D} {turn : Rho → Hs → R Fl} {W : Nat} {ρ : Rho} {S : Hs} {Q : Fl → Hs → Prop} (I : Nat → Rho → Hs → Prop) (m : Nat) (hm : m < W) (h0 : I m ρ S)
    (ht : ∀ k ρ S, I k ρ S → Ok (cond ρ S) fun x S1 => ∃ b, x = .bl b ∧ (b = true → 0 < k ∧ Ok (turn ρ S1) fun f S2 => match f with | .nx ρ1 => I (k - 1) ρ1 S2 | .ct ρ1 => I (k - 1) ρ1 S2 | .bk ρ1 => Q (.nx ρ1) S2 | .rt x => Q (.rt x) S2) ∧ (b = false → Q (.nx ρ) S1)) : Ok (whlGo cond turn W ρ S) Q := by
  induction W generalizing m ρ S with
  | zero => omega
  | succ W ih =>
    rw [whlGo, Ok_bind]
    refine (ht m ρ S h0).imp fun x S1 h => ?_
    obtain ⟨b, rfl, h1, h2⟩ := h
    cases b with
    | true =>
      obtain ⟨hk, h1⟩ := h1 rfl
      rw [tst_t, Ok_bind]
      refine h1.imp fun f S2 q => ?_
      cases f with
      | nx ρ1 => exact ih (m - 1) (by omega) q
      | ct ρ1 => exact ih (m - 1) (by omega) q
      | bk ρ1 => exact q
      | rt x => exact q
    | false => exact h2 rfl
/-! ### what stays -/
/-- but for the things named, all that there was stays -/
def Fr (mod : List Nat) (S S' : Hs) : Prop := S.length ≤ S'.length ∧ ∀ i, i < S.length → i ∉ mod → S'[i]? = S[i]?
theorem Fr.refl {mod : List Nat} {S : Hs} : Fr mod S S := ⟨Nat.le_refl _, fun _ _ _ => rfl⟩
theorem Fr.trans {mod : List Nat} {S S1 S2 : Hs} (a : Fr mod S S1) (b : Fr mod S1 S2) : Fr mod S S2 := ⟨Nat.le_trans a.1 b.1, fun i hi hm => (b.2 i (Nat.lt_of_lt_of_le hi a.1) hm).trans (a.2 i hi hm)⟩
theorem Fr.mono {mod mod' : List Nat} {S S1 : Hs} (a : Fr mod S S1) (h : ∀ i ∈ mod, i ∈ mod') : Fr mod' S S1 := ⟨a.1, fun i hi hm => a.2 i hi fun z => hm (h i z)⟩
theorem Fr.any {mod : List Nat} {S S1 : Hs} (a : Fr [] S S1) : Fr mod S S1 := a.mono fun _ h => by cases h
theorem Fr.new {mod : List Nat} {S : Hs} {o : O} : Fr mod S (S ++ [o]) := ⟨by simp, fun i hi _ => List.getElem?_append_left hi⟩
theorem Fr.app {mod : List Nat} {S T : Hs} : Fr mod S (S ++ T) := ⟨by simp, fun i hi _ => List.getElem?_append_left hi⟩
theorem Fr.set {mod : List Nat} {S : Hs} {i : Nat} {o : O} (h : i ∈ mod) : Fr mod S (S.set i o) := ⟨by simp, fun j hj hm => by
  rw [List.getElem?_set_ne]
  intro e
  subst e
  exact hm h⟩
theorem lt_of_get {S : Hs} {i : Nat} {o : O} (h : S[i]? = some o) : i < S.length := (List.getElem?_eq_some_iff.mp h).1
theorem Fr.get {mod : List Nat} {S S' : Hs} {i : Nat} {o : O} (f : Fr mod S S') (h : S[i]? = some o) (hm : i ∉ mod) : S'[i]? = some o := by rw [f.2 i (lt_of_get h) hm]; exact h
theorem Fr.get0 {S S' : Hs} {i : Nat} {o : O} (f : Fr [] S S') (h : S[i]? = some o) : S'[i]? = some o := f.get h (by simp)
/-- a thing that was made since S -/
theorem Fr.since {mod : List Nat} {S S1 S2 : Hs} {j : Nat} (a : Fr mod S S1) (b : Fr (j :: mod) S1 S2) (hj : S.length ≤ j) : Fr mod S S2 := ⟨Nat.le_trans a.1 b.1, fun i hi hm => by
  rw [b.2 i (Nat.lt_of_lt_of_le hi a.1) (by
    intro z
    rcases List.mem_cons.mp z with e | e
    · omega
    · exact hm e)]
  exact a.2 i hi hm⟩
theorem Ok_new {o : O} {S : Hs} {Q : D → Hs → Prop} : Ok (newO o S) Q = Q (.ref S.length) (S ++ [o]) := nrfl
theorem Ok_newA {o : O} {S : Hs} {Q : D → Hs → Prop} (h : ∀ a S', S'[a]? = some o → a = S.length → S'.length = S.length + 1 → Fr [] S S' → Q (.ref a) S') : Ok (newO o S) Q := h _ _ (by simp) rfl (by simp) .new
/-! ### steps, one by one -/
section
variable {Φ : Nat → List D → Hs → R D} {G : Nat → D} {W : Nat} {ρ : Rho} {S : Hs}
/-- the statements behind are hidden while the first one is walked -/
theorem x_step {a b : C} {Q : Fl → Hs → Prop} (h : ∀ K : Rho → Hs → Prop, (∀ ρ S, Ok (exec Φ G W b ρ S) Q → K ρ S) → Ok (exec Φ G W a ρ S) (nxQ K Q)) : Ok (exec Φ G W (.cons a b) ρ S) Q := by
  rw [x_cons]
  exact h _ fun _ _ h => h
theorem x_one {a : C} {Q : Fl → Hs → Prop} : Ok (exec Φ G W (.cons a .nil) ρ S) Q = Ok (exec Φ G W a ρ S) Q := by
  rw [x_cons]
  congr 1
  funext f S1
  cases f <;> rfl
def gv (S : Hs) : Option (Option D) → R D
  | some (some d) => .ok d S
  | _ => .no
theorem gv_some {d : D} {Q : D → Hs → Prop} : Ok (gv S (some (some d))) Q = Q d S := nrfl
theorem d_var' {i : Nat} {Q : D → Hs → Prop} : Ok (den Φ G (.var i) ρ S) Q = Ok (gv S ρ[i]?) Q := by
  simp only [den]
  rcases ρ[i]? with _ | _ | d <;> rfl
end
section
variable {S : Hs} {Q : D → Hs → Prop} {i j : Int}
theorem b_add : Ok (binD S .add (.int i) (.int j)) Q = Q (.int (i + j)) S := nrfl
theorem b_sub : Ok (binD S .sub (.int i) (.int j)) Q = Q (.int (i - j)) S := nrfl
theorem b_mul : Ok (binD S .mul (.int i) (.int j)) Q = if mulOk i j = true then Q (.int (i * j)) S else False := by simp only [binD, Ok_ite, Ok_ok, Ok_no]
theorem b_mod : Ok (binD S .mod (.int i) (.int j)) Q = if j ≠ 0 then Q (.int (i.fmod j)) S else False := by simp only [binD, Ok_ite, Ok_ok, Ok_no]
theorem b_fdv : Ok (binD S .fdv (.int i) (.int j)) Q = if j ≠ 0 ∧ j.natAbs < 1073741824 then Q (.int (i.fdiv j)) S else False := by simp only [binD, Ok_ite, Ok_ok, Ok_no]
theorem b_pow : Ok (binD S .pow (.int i) (.int j)) Q = if 0 ≤ j ∧ j ≤ 1000000 ∧ i.natAbs < 2 ^ 64 then Q (.int (i ^ j.toNat)) S else False := by simp only [binD, Ok_ite, Ok_ok, Ok_no]
theorem b_adds {x y : PySem.Str} : Ok (binD S .add (.str x) (.str y)) Q = Ok (lim (x.length + y.length) (.ok (.str (x ++ y)) S)) Q := nrfl
theorem b_addt {x y : List D} : Ok (binD S .add (.tup x) (.tup y)) Q = Ok (lim (x.length + y.length) (.ok (.tup (x ++ y)) S)) Q := nrfl
def addL (S : Hs) : Option O → Option O → R D
  | some (.lst xs), some (.lst ys) => lim (xs.length + ys.length) (newO (.lst (xs ++ ys)) S)
  | _, _ => .no
theorem b_addl {a b : Nat} : Ok (binD S .add (.ref a) (.ref b)) Q = Ok (addL S S[a]? S[b]?) Q := by
  simp only [binD]
  rcases S[a]? with _ | o
  · rfl
  · rcases S[b]? with _ | p
    · cases o <;> rfl
    · cases o <;> cases p <;> rfl
theorem addL_eq {x y : List D} : Ok (addL S (some (.lst x)) (some (.lst y))) Q = Ok (lim (x.length + y.length) (newO (.lst (x ++ y)) S)) Q := nrfl
def mulL (S : Hs) (k : Int) : Option O → R D
  | some (.lst xs) => if -(2 ^ 63) ≤ k ∧ k < 2 ^ 63 ∧ xs.length * k.toNat ≤ PySem.sizeLine then newO (.lst (rep k.toNat xs)) S else .no
  | _ => .no
theorem b_mull {a : Nat} {k : Int} : Ok (binD S .mul (.ref a) (.int k)) Q = Ok (mulL S k S[a]?) Q := by
  simp only [binD]
  rcases S[a]? with _ | o
  · rfl
  · cases o <;> rfl
theorem c_lt : Ok (cmpD S .lt (.int i) (.int j)) Q = Q (.bl (decide (i < j))) S := nrfl
theorem c_le : Ok (cmpD S .le (.int i) (.int j)) Q = Q (.bl (decide (i ≤ j))) S := nrfl
theorem c_gt : Ok (cmpD S .gt (.int i) (.int j)) Q = Q (.bl (decide (j < i))) S := nrfl
theorem c_ge : Ok (cmpD S .ge (.int i) (.int j)) Q = Q (.bl (decide (j ≤ i))) S := nrfl
def eqO (S : Hs) (n : Bool) : Option Bool → R D
  | some b => .ok (.bl (n != b)) S
  | none => .no
theorem c_eq {x y : D} : Ok (cmpD S .eq x y) Q = Ok (eqO S false (eqD S x y)) Q := by
  have : cmpD S .eq x y = eqO S false (eqD S x y) := by
    simp only [cmpD]
    cases eqD S x y with
    | none => rfl
    | some b => cases b <;> rfl
  rw [this]
theorem c_ne {x y : D} : Ok (cmpD S .ne x y) Q = Ok (eqO S true (eqD S x y)) Q := by
  have : cmpD S .ne x y = eqO S true (eqD S x y) := by
    simp only [cmpD]
    cases eqD S x y with
    | none => rfl
    | some b => cases b <;> rfl
  rw [this]
theorem eqO_f {b : Bool} : Ok (eqO S false (some b)) Q = Q (.bl b) S := by cases b <;> rfl
theorem eqO_t {b : Bool} : Ok (eqO S true (some b)) Q = Q (.bl (!b)) S := by cases b <;> rfl
theorem eq_ii : eqD S (.int i) (.int j) = some (decide (i = j)) := nrfl
theorem eq_ss {x y : PySem.Str} : eqD S (.str x) (.str y) = some (decide (x = y)) := nrfl
def lenD (S : Hs) : Option Nat → R D
  | some n => .ok (.int n) S
  | none => .no
theorem bi_len {d : D} : Ok (biF S .len [d]) Q = Ok (lenD S (lenOf S d)) Q := by
  simp only [biF]
  cases lenOf S d <;> rfl
theorem lenD_some {n : Nat} : Ok (lenD S (some n)) Q = Q (.int n) S := nrfl
theorem len_t {ds : List D} : lenOf S (.tup ds) = some ds.length := nrfl
def seqO : Option O → Option (List D)
  | some (.lst ds) => some ds
  | some (.scr ds) => some ds
  | _ => none
theorem seq_r {a : Nat} : seqOf S (.ref a) = seqO S[a]? := by
  simp only [seqOf]
  rcases S[a]? with _ | o
  · rfl
  · cases o <;> rfl
theorem seqO_l {ds : List D} : seqO (some (.lst ds)) = some ds := nrfl
theorem seqO_s {ds : List D} : seqO (some (.scr ds)) = some ds := nrfl
theorem len_r {a : Nat} : lenOf S (.ref a) = (seqO S[a]?).map List.length := by rw [← seq_r]; rfl
theorem len_s {x : PySem.Str} (h : x.length ≤ 1000000) : lenOf S (.str x) = some x.length := by
  show (if x.length ≤ PySem.sizeLine then some x.length else none) = _
  rw [if_pos (Nat.le_trans h (by decide))]
theorem bi_int : Ok (biF S .int [.int i]) Q = Q (.int i) S := nrfl
theorem bi_intb {b : Bool} : Ok (biF S .int [.bl b]) Q = Q (.int (if b then 1 else 0)) S := nrfl
theorem bi_maxii : Ok (biF S .max [.int i, .int j]) Q = Q (.int (if j > i then j else i)) S := nrfl
theorem bi_minii : Ok (biF S .min [.int i, .int j]) Q = Q (.int (if j < i then j else i)) S := nrfl
def ofS (S : Hs) (f : List D → R D) : Option (List D) → R D
  | some ds => f ds
  | none => .no
theorem ofS_some {f : List D → R D} {ds : List D} : Ok (ofS S f (some ds)) Q = Ok (f ds) Q := nrfl
theorem bi_listr {a : Nat} : Ok (biF S .list [.ref a]) Q = Ok (ofS S (fun ds => newO (.lst ds) S) (seqO S[a]?)) Q := by
  have : biF S .list [.ref a] = ofS S (fun ds => newO (.lst ds) S) (seqOf S (.ref a)) := by
    simp only [biF]
    cases seqOf S (.ref a) <;> rfl
  rw [this, seq_r]
theorem bi_listt {ds : List D} : Ok (biF S .list [.tup ds]) Q = Ok (newO (.lst ds) S) Q := nrfl
theorem bi_lists {x : PySem.Str} : Ok (biF S .list [.str x]) Q = Ok (lim x.length (newO (.lst (signs x)) S)) Q := nrfl
theorem bi_tupr {a : Nat} : Ok (biF S .tuple [.ref a]) Q = Ok (ofS S (fun ds => .ok (.tup ds) S) (seqO S[a]?)) Q := by
  have : biF S .tuple [.ref a] = ofS S (fun ds => .ok (.tup ds) S) (seqOf S (.ref a)) := by
    simp only [biF]
    cases seqOf S (.ref a) <;> rfl
  rw [this, seq_r]
theorem bi_tupt {ds : List D} : Ok (biF S .tuple [.tup ds]) Q = Q (.tup ds) S := nrfl
theorem bi_sum {a : Nat} {ds : List D} {ns : List Int} (h : S[a]? = some (.lst ds)) (e : intsOf ds = some ns) : Ok (biF S .sum [.ref a]) Q = Q (.int ns.sum) S := by
  simp only [biF, seq_r, h, seqO_l, Option.bind_some, e]; rfl
theorem bi_all {a : Nat} {ds : List D} {ns : List Bool} (h : S[a]? = some (.lst ds)) (e : boolsOf ds = some ns) : Ok (biF S .all [.ref a]) Q = Q (.bl (ns.all id)) S := by
  simp only [biF, seq_r, h, seqO_l, Option.bind_some, e]; rfl
theorem bi_any {a : Nat} {ds : List D} {ns : List Bool} (h : S[a]? = some (.lst ds)) (e : boolsOf ds = some ns) : Ok (biF S .any [.ref a]) Q = Q (.bl (ns.any id)) S := by
  simp only [biF, seq_r, h, seqO_l, Option.bind_some, e]; rfl
theorem bi_maxl {a : Nat} {ds : List D} {ns : List Int} {n : Int} (h : S[a]? = some (.lst ds)) (e : intsOf ds = some ns) (m : maxL ns = some n) : Ok (biF S .max [.ref a]) Q = Q (.int n) S := by
  simp only [biF, seq_r, h, seqO_l, Option.bind_some, e, m]; rfl
theorem bi_minl {a : Nat} {ds : List D} {ns : List Int} {n : Int} (h : S[a]? = some (.lst ds)) (e : intsOf ds = some ns) (m : minL ns = some n) : Ok (biF S .min [.ref a]) Q = Q (.int n) S := by
  simp only [biF, seq_r, h, seqO_l, Option.bind_some, e, m]; rfl
def ixO (S : Hs) : Option D → R D
  | some d => .ok d S
  | none => .no
theorem ixO_some {d : D} : Ok (ixO S (some d)) Q = Q d S := nrfl
theorem ix_t {ds : List D} : Ok (ixD S (.tup ds) (.int i)) Q = Ok (ixO S (L2.atI ds i)) Q := by
  have : ixD S (.tup ds) (.int i) = ixO S (L2.atI ds i) := by
    simp only [ixD, ixS, seqOf]
    cases L2.atI ds i <;> rfl
  rw [this]
theorem ix_r {a : Nat} : Ok (ixD S (.ref a) (.int i)) Q = Ok (ofS S (fun ds => ixO S (L2.atI ds i)) (seqO S[a]?)) Q := by
  have : ixD S (.ref a) (.int i) = ofS S (fun ds => ixO S (L2.atI ds i)) (seqOf S (.ref a)) := by
    simp only [ixD, ixS]
    cases seqOf S (.ref a) with
    | none => rfl
    | some ds => simp only [ofS]; cases L2.atI ds i <;> rfl
  rw [this, seq_r]
def ixC (S : Hs) : Option Nat → R D
  | some c => .ok (.str ⟨#[c]⟩) S
  | none => .no
theorem ix_s {x : PySem.Str} (h : x.length ≤ 1000000) : Ok (ixD S (.str x) (.int i)) Q = Ok (ixC S (L2.atI x.cps.toList i)) Q := by
  simp only [ixD]
  rw [if_pos (Nat.le_trans h (by decide))]
  cases L2.atI x.cps.toList i <;> rfl
theorem at_0 {d : D} {ds : List D} : L2.atI (d :: ds) 0 = some d := by
  unfold L2.atI L2.ixN
  rw [if_pos (by decide), if_pos (by simp only [List.length_cons]; omega)]; rfl
theorem at_1 {c d : D} {ds : List D} : L2.atI (c :: d :: ds) 1 = some d := by
  unfold L2.atI L2.ixN
  rw [if_pos (by decide), if_pos (by simp only [List.length_cons]; omega)]; rfl
theorem at_2 {b c d : D} {ds : List D} : L2.atI (b :: c :: d :: ds) 2 = some d := by
  unfold L2.atI L2.ixN
  rw [if_pos (by decide), if_pos (by simp only [List.length_cons]; omega)]; rfl
theorem at_3 {a b c d : D} {ds : List D} : L2.atI (a :: b :: c :: d :: ds) 3 = some d := by
  unfold L2.atI L2.ixN
  rw [if_pos (by decide), if_pos (by simp only [List.length_cons]; omega)]; rfl
theorem sl_t {ds : List D} {lo hi : Option Int} : Ok (slD S (.tup ds) lo hi) Q = Q (.tup (cutD ds lo hi)) S := nrfl
theorem sl_r {a : Nat} {lo hi : Option Int} : Ok (slD S (.ref a) lo hi) Q = Ok (ofS S (fun ds => newO (.lst (cutD ds lo hi)) S) (seqO S[a]?)) Q := by
  have : slD S (.ref a) lo hi = ofS S (fun ds => newO (.lst (cutD ds lo hi)) S) (seqOf S (.ref a)) := by
    simp only [slD]
    cases seqOf S (.ref a) <;> rfl
  rw [this, seq_r]
theorem sl_s {x : PySem.Str} {lo hi : Option Int} (h : x.length ≤ 1000000) : Ok (slD S (.str x) lo hi) Q = Q (.str ⟨(cutD x.cps.toList lo hi).toArray⟩) S := by
  simp only [slD]
  rw [if_pos (Nat.le_trans h (by decide))]; rfl
theorem rv_r {a : Nat} : Ok (rvD S (.ref a)) Q = Ok (ofS S (fun ds => newO (.lst ds.reverse) S) (seqO S[a]?)) Q := by
  have : rvD S (.ref a) = ofS S (fun ds => newO (.lst ds.reverse) S) (seqOf S (.ref a)) := by
    simp only [rvD]
    cases seqOf S (.ref a) <;> rfl
  rw [this, seq_r]
def setO (S : Hs) (a : Nat) (k : Int) (d : D) : Option O → R Unit
  | some (.lst xs) => match L2.ixN xs.length k with
    | some j => .ok () (S.set a (.lst (xs.set j d)))
    | none => .no
  | _ => .no
theorem set_r {a : Nat} {d : D} {Q : Unit → Hs → Prop} : Ok (setIx S (.ref a) (.int i) d) Q = Ok (setO S a i d S[a]?) Q := by
  have : setIx S (.ref a) (.int i) d = setO S a i d S[a]? := by
    simp only [setIx, lstAt]
    rcases S[a]? with _ | o
    · rfl
    · cases o <;> rfl
  rw [this]
theorem setO_eq {a : Nat} {d : D} {xs : List D} {j : Nat} {Q : Unit → Hs → Prop} (h : L2.ixN xs.length i = some j) : Ok (setO S a i d (some (.lst xs))) Q = Q () (S.set a (.lst (xs.set j d))) := by
  simp only [setO, h]; rfl
end
section
variable {S : Hs} {Q : D → Hs → Prop} {a : Nat} {xs ys : List D} {d : D} {i : Int}
theorem lstAt_of (h : S[a]? = some (.lst xs)) : lstAt S a = some xs := by simp only [lstAt, h]
theorem mk_append (h : S[a]? = some (.lst xs)) : mtK S .append (.ref a) = true := by simp only [mtK, lstAt_of h, Option.isSome]
theorem mk_pop (h : S[a]? = some (.lst xs)) : mtK S .pop (.ref a) = true := by simp only [mtK, lstAt_of h, Option.isSome]
theorem mk_insert (h : S[a]? = some (.lst xs)) : mtK S .insert (.ref a) = true := by simp only [mtK, lstAt_of h, Option.isSome]
theorem mk_extend (h : S[a]? = some (.lst xs)) : mtK S .extend (.ref a) = true := by simp only [mtK, lstAt_of h, Option.isSome]
theorem mk_join {x : PySem.Str} : mtK S .join (.str x) = true := nrfl
theorem m_append (h : S[a]? = some (.lst xs)) (hl : xs.length < 1000000) : Ok (mtF S .append (.ref a) [d]) Q = Q .non (S.set a (.lst (xs ++ [d]))) := by
  simp only [mtF, lstAt_of h, Ok_ite]
  rw [if_pos (Nat.lt_of_lt_of_le hl (by decide))]; rfl
theorem m_extend {b : Nat} (h : S[a]? = some (.lst xs)) (h2 : S[b]? = some (.lst ys)) (hl : xs.length + ys.length ≤ 1000000) : Ok (mtF S .extend (.ref a) [.ref b]) Q = Q .non (S.set a (.lst (xs ++ ys))) := by
  simp only [mtF, lstAt_of h, lstAt_of h2]
  rw [Ok_lim hl]; rfl
theorem m_insert (h : S[a]? = some (.lst xs)) (hl : xs.length < 1000000) (h0 : 0 ≤ i) (h1 : i < 2 ^ 63) : Ok (mtF S .insert (.ref a) [.int i, d]) Q = Q .non (S.set a (.lst (xs.take i.toNat ++ [d] ++ xs.drop i.toNat))) := by
  simp only [mtF, lstAt_of h, Ok_ite]
  rw [if_pos ⟨Nat.lt_of_lt_of_le hl (by decide), h0, h1⟩]; rfl
theorem m_pop (h : S[a]? = some (.lst xs)) (e : xs[xs.length - 1]? = some d) : Ok (mtF S .pop (.ref a) []) Q = Q d (S.set a (.lst xs.dropLast)) := by
  simp only [mtF, lstAt_of h, e]; rfl
theorem m_popi {k : Nat} (h : S[a]? = some (.lst xs)) (e : xs[k]? = some d) (hk : k < 2 ^ 63) : Ok (mtF S .pop (.ref a) [.int (k : Int)]) Q = Q d (S.set a (.lst (xs.eraseIdx k))) := by
  have hl := (List.getElem?_eq_some_iff.mp e).1
  have hx : L2.ixN xs.length (k : Int) = some k := by
    unfold L2.ixN
    rw [if_pos (Int.natCast_nonneg k), if_pos (by omega)]; simp
  simp only [mtF, lstAt_of h]
  rw [if_pos ⟨by omega, by omega⟩, hx]
  simp only [e]; rfl
theorem m_join {x : PySem.Str} {ds : List D} {zs : List PySem.Str} (h : seqOf S d = some ds) (e : strsOf ds = some zs) (hl : (zs.map (·.length)).sum + zs.length * x.length ≤ 16777216) : Ok (mtF S .join (.str x) [d]) Q = Q (.str (PySem.Txt.join x zs)) S := by
  simp only [mtF, h, Option.bind_some, e, Ok_ite]
  rw [if_pos hl]; rfl
end
section
variable {S : Hs} {Q : Src → Hs → Prop} {a : Nat} {ds : List D} {i j : Int}
theorem ofO_some {α : Type} {x : α} {Q : α → Hs → Prop} : Ok (ofO S (some x)) Q = Q x S := nrfl
theorem src_t : srcOf S (.tup ds) = some ⟨[], ds⟩ := nrfl
theorem src_s {x : PySem.Str} : srcOf S (.str x) = some ⟨[], signs x⟩ := nrfl
theorem src_l (h : S[a]? = some (.lst ds)) : srcOf S (.ref a) = some ⟨[(a, ds)], ds⟩ := by simp only [srcOf, h]
theorem src_c (h : S[a]? = some (.scr ds)) : srcOf S (.ref a) = some ⟨[(a, ds)], ds⟩ := by simp only [srcOf, h]
theorem en_l (h : S[a]? = some (.lst ds)) : Ok (enD S [.ref a]) Q = Q ⟨[(a, ds)], numbered 0 ds⟩ S := by simp only [enD, src_l h]; rfl
theorem en_t : Ok (enD S [.tup ds]) Q = Q ⟨[], numbered 0 ds⟩ S := nrfl
theorem en_s {x : PySem.Str} : Ok (enD S [.str x]) Q = Q ⟨[], numbered 0 (signs x)⟩ S := nrfl
theorem zp_tt {xs ys : List D} : Ok (zpD false S [.tup xs, .tup ys]) Q = Q ⟨[], pairsUp xs ys⟩ S := by simp [zpD, zpD_, ofO, Ok]
theorem zp_ll {b : Nat} {xs ys : List D} (h : S[a]? = some (.lst xs)) (h2 : S[b]? = some (.lst ys)) : Ok (zpD false S [.ref a, .ref b]) Q = Q ⟨[(a, xs), (b, ys)], pairsUp xs ys⟩ S := by simp [zpD, src_l h, src_l h2, zpD_, ofO, Ok]
theorem big62_of (h0 : -1000000000000000000 ≤ i) (h1 : i ≤ 1000000000000000000) : big62 i = true := by
  unfold big62
  simp only [Bool.and_eq_true, decide_eq_true_eq]
  have e : (2 : Int) ^ 62 = 4611686018427387904 := by decide
  rw [e]
  omega
theorem rg_1 (h0 : -1000000000000000000 ≤ j) (h1 : j ≤ 1000000000000000000) : Ok (rgD S [.int j]) Q = Q ⟨[], rangeD 0 j.toNat⟩ S := by
  simp only [rgD, big62_of h0 h1, if_true]; rfl
theorem rg_2 (g0 : -1000000000000000000 ≤ i) (g1 : i ≤ 1000000000000000000) (h0 : -1000000000000000000 ≤ j) (h1 : j ≤ 1000000000000000000) : Ok (rgD S [.int i, .int j]) Q = Q ⟨[], rangeD i (j - i).toNat⟩ S := by
  simp only [rgD, big62_of h0 h1, big62_of g0 g1, Bool.and_self, if_true]; rfl
theorem rg_3 (g0 : -1000000000000000000 ≤ i) (g1 : i ≤ 1000000000000000000) (h0 : -1000000000000000000 ≤ j) (h1 : j ≤ 1000000000000000000) : Ok (rgD S [.int i, .int j, .int (-1)]) Q = Q ⟨[], rangeC i (-1) (i - j).toNat⟩ S := by
  simp only [rgD, big62_of h0 h1, big62_of g0 g1, Bool.and_self, decide_true, if_true]; rfl
theorem held_nil : held S [] = true := nrfl
theorem held_l (h : S[a]? = some (.lst ds)) : held S [(a, ds)] = true := by simp [held, heldAt, h]
theorem held_c (h : S[a]? = some (.scr ds)) : held S [(a, ds)] = true := by simp [held, heldAt, h]
theorem held_ll {b : Nat} {es : List D} (h : S[a]? = some (.lst ds)) (h2 : S[b]? = some (.lst es)) : held S [(a, ds), (b, es)] = true := by simp [held, heldAt, h, h2]
theorem lr_1 {Q : D → Hs → Prop} (h1 : j ≤ 16777216) (h0 : -1000000000000000000 ≤ j) : Ok (lrD S [.int j]) Q = Ok (newO (.lst (rangeD 0 j.toNat)) S) Q := by
  simp only [lrD]
  rw [if_pos ⟨big62_of h0 (by omega), by
    have e : (2 : Nat) ^ 24 = 16777216 := by decide
    omega⟩]
theorem rangeD_get {lo : Int} {n k : Nat} {d : D} (h : (rangeD lo n)[k]? = some d) : k < n ∧ d = .int (lo + k) := by
  unfold rangeD at h
  rw [List.getElem?_map] at h
  cases e : (List.range n)[k]? with
  | none => rw [e] at h; cases h
  | some m =>
    rw [e] at h
    obtain ⟨h1, h2⟩ := List.getElem?_eq_some_iff.mp e
    rw [List.getElem_range] at h2
    subst h2
    exact ⟨by simpa using h1, (Option.some.inj h).symm⟩
theorem rangeD_len {lo : Int} {n : Nat} : (rangeD lo n).length = n := by simp [rangeD]
end
theorem cnt_nil : cnt E.nil = 0 := by rw [cnt]; intro a b h; cases h
theorem cnt_cons {a b : E} : cnt (E.cons a b) = cnt b + 1 := by rw [cnt]
section
variable {S : Hs} {Q : D → Hs → Prop} {i j : Int}
theorem b_modP (h : 0 < j) : Ok (binD S .mod (.int i) (.int j)) Q = Q (.int (i.fmod j)) S := by rw [b_mod, if_pos (by omega)]
theorem b_fdvP (h : 0 < j) (h1 : j < 1073741824) : Ok (binD S .fdv (.int i) (.int j)) Q = Q (.int (i.fdiv j)) S := by rw [b_fdv, if_pos ⟨by omega, by omega⟩]
end
end RS

namespace RS
open HT
/-! ### the pen: the defs that every law has -/
def B_law_open : C :=
  (.cons (.asg (.var 1) (.bi .list (.cons (.sl (.var 0) .nil (.cons (.int 12) .nil)) .nil)))
  (.cons (.for_ (.tup (.cons (.var 2) (.cons (.var 3) .nil))) (.enm (.cons (.sl (.var 0) (.cons (.int 12) .nil) (.cons (.int 63) .nil)) .nil))
      (.cons (.asg (.ix (.var 1) (.bin .mod (.bi .int (.cons (.var 2) .nil)) (.int 12))) (.bin .add (.ix (.var 1) (.bin .mod (.bi .int (.cons (.var 2) .nil)) (.int 12))) (.var 3)))
      .nil))
  (.cons (.ret (.lst (.cons (.var 1) (.cons (.int 0) (.cons (.int 0) .nil)))))
  .nil)))

def B_law_spread : C :=
  (.cons (.ife (.cmp .ge (.var 0) (.bin .pow (.int 10) (.int 18)))
      (.cons (.ret (.var 0))
      .nil)
      .nil)
  (.cons (.asg (.var 2) (.lst (.cons (.int 2147483629) (.cons (.int 2147483587) (.cons (.int 2147483579) (.cons (.int 2147483563) (.cons (.int 2147483549) (.cons (.int 2147483543) (.cons (.int 2147483497) (.cons (.int 2147483489) .nil))))))))))
  (.cons (.asg (.var 2) (.bin .add (.var 2) (.lst (.cons (.int 2147483477) (.cons (.int 2147483423) (.cons (.int 2147483399) (.cons (.int 2147483353) (.cons (.int 2147483323) .nil))))))))
  (.cons (.asg (.var 3) (.bin .add (.bin .add (.bin .mul (.bin .mod (.bi .int (.cons (.var 0) .nil)) (.int 1000000007)) (.bin .add (.bin .mul (.int 2) (.var 1)) (.int 69069))) (.bin .mul (.var 1) (.int 40503))) (.int 977)))
  (.cons (.asg (.var 3) (.bin .mod (.bi .int (.cons (.bin .pow (.var 3) (.int 3)) .nil)) (.ix (.var 2) (.bin .mod (.bi .int (.cons (.var 1) .nil)) (.int 13)))))
  (.cons (.asg (.var 4) (.bin .mod (.bi .int (.cons (.bin .pow (.bin .add (.bin .add (.bin .mul (.var 3) (.bin .add (.var 1) (.int 3))) (.bin .mod (.bi .int (.cons (.var 0) .nil)) (.int 65537))) (.int 5)) (.int 5)) .nil)) (.ix (.var 2) (.bin .mod (.bi .int (.cons (.bin .add (.var 1) (.int 5)) .nil)) (.int 13)))))
  (.cons (.asg (.var 5) (.bin .mod (.bi .int (.cons (.bin .pow (.bin .add (.bin .add (.var 4) (.bin .mod (.bi .int (.cons (.var 3) .nil)) (.int 1009))) (.var 1)) (.int 3)) .nil)) (.ix (.var 2) (.bin .mod (.bi .int (.cons (.bin .add (.var 1) (.int 7)) .nil)) (.int 13)))))
  (.cons (.ret (.bin .add (.bin .mul (.bin .add (.bin .mul (.var 3) (.int 2147483647)) (.var 4)) (.int 2147483647)) (.var 5)))
  .nil))))))))

def B_law_take (c_law_spread : Nat) : C :=
  (.cons (.ife (.cmp .lt (.ix (.var 0) (.int 2)) (.var 1))
      (.cons (.asg (.var 3) (.ix (.var 0) (.int 1)))
      (.cons (.asg (.var 4) (.int 0))
      (.cons (.ife (.cmp .lt (.var 3) (.bi .len (.cons (.ix (.var 0) (.int 0)) .nil)))
          (.cons (.asg (.var 4) (.ix (.ix (.var 0) (.int 0)) (.var 3)))
          .nil)
          (.cons (.ife (.cmp .gt (.bi .len (.cons (.ix (.var 0) (.int 0)) .nil)) (.int 0))
              (.cons (.asg (.var 4) (.bin .mod (.bi .int (.cons (.ix (.ix (.var 0) (.int 0)) (.bin .mod (.bi .int (.cons (.bin .add (.bin .mul (.var 3) (.int 5)) (.int 3)) .nil)) (.bi .len (.cons (.ix (.var 0) (.int 0)) .nil)))) .nil)) (.bin .add (.bin .pow (.int 10) (.int 17)) (.var 3))))
              .nil)
              .nil)
          .nil))
      (.cons (.asg (.ix (.var 0) (.int 1)) (.bin .add (.var 3) (.int 1)))
      (.cons (.asg (.ix (.var 0) (.int 2)) (.cal c_law_spread (.cons (.var 4) (.cons (.var 3) .nil))))
      .nil)))))
      .nil)
  (.cons (.asg (.var 2) (.bin .mod (.bi .int (.cons (.ix (.var 0) (.int 2)) .nil)) (.var 1)))
  (.cons (.asg (.ix (.var 0) (.int 2)) (.bin .fdv (.ix (.var 0) (.int 2)) (.var 1)))
  (.cons (.ret (.var 2))
  .nil))))

def B_law_one_of (c_law_take : Nat) : C :=
  (.cons (.ret (.ix (.var 1) (.cal c_law_take (.cons (.var 0) (.cons (.bi .len (.cons (.var 1) .nil)) .nil)))))
  .nil)

def B_law_letters : C :=
  (.cons (.ret (.str "abcdefghijklmnopqrstuvwxyz"))
  .nil)

theorem atI_nat {ds : List D} {k : Nat} {d : D} (h : ds[k]? = some d) : L2.atI ds (k : Int) = some d := by
  have hl := (List.getElem?_eq_some_iff.mp h).1
  unfold L2.atI L2.ixN
  rw [if_pos (Int.natCast_nonneg k), if_pos (by omega)]
  simpa using h
theorem atI_int {ds : List D} {i : Int} (h0 : 0 ≤ i) (h1 : i < ds.length) : ∃ d, L2.atI ds i = some d ∧ d ∈ ds := by
  obtain ⟨k, rfl⟩ := Int.eq_ofNat_of_zero_le h0
  have hk : k < ds.length := by omega
  exact ⟨ds[k], atI_nat (List.getElem?_eq_getElem hk), List.getElem_mem _⟩
theorem fmod_pos {i j : Int} (h : 0 < j) : 0 ≤ i.fmod j ∧ i.fmod j < j := ⟨Int.fmod_nonneg_of_pos i h, Int.fmod_lt_of_pos i h⟩
def primes : List D := [2147483629, 2147483587, 2147483579, 2147483563, 2147483549, 2147483543, 2147483497, 2147483489, 2147483477, 2147483423, 2147483399, 2147483353, 2147483323].map D.int
theorem primes_at (i : Int) : ∃ z : Int, L2.atI primes (i.fmod 13) = some (.int z) ∧ 0 < z ∧ z < 2147483648 := by
  obtain ⟨d, h1, h2⟩ := atI_int (ds := primes) (i := i.fmod 13) (fmod_pos (by decide)).1 (fmod_pos (by decide)).2
  unfold primes at h2
  obtain ⟨z, hz, rfl⟩ := List.mem_map.mp h2
  exact ⟨z, h1, (show ∀ z ∈ ([2147483629, 2147483587, 2147483579, 2147483563, 2147483549, 2147483543, 2147483497, 2147483489, 2147483477, 2147483423, 2147483399, 2147483353, 2147483323] : List Int), 0 < z ∧ z < 2147483648 by decide) z hz⟩
theorem natAbs_lt {i : Int} {n : Nat} (h0 : 0 ≤ i) (h : i < n) : i.natAbs < n := by omega
theorem mulOk_r {i j : Int} (h0 : 0 ≤ j) (h : j < 18446744073709551616) : mulOk i j = true := by
  unfold mulOk
  have e : (18446744073709551616 : Int) = 2 ^ 64 := by decide
  rw [e] at h
  simp only [Bool.or_eq_true, Bool.and_eq_true, decide_eq_true_eq]
  exact .inr ⟨by omega, h⟩
theorem mulOk_l {i j : Int} (h0 : 0 ≤ i) (h : i < 18446744073709551616) : mulOk i j = true := by
  unfold mulOk
  have e : (18446744073709551616 : Int) = 2 ^ 64 := by decide
  rw [e] at h
  simp only [Bool.or_eq_true, Bool.and_eq_true, decide_eq_true_eq]
  exact .inl ⟨by omega, h⟩
theorem mul_bound {a b m n : Int} (a0 : 0 ≤ a) (b0 : 0 ≤ b) (ha : a ≤ m) (hb : b ≤ n) : 0 ≤ a * b ∧ a * b ≤ m * n := ⟨Int.mul_nonneg a0 b0, Int.mul_le_mul ha hb b0 (by omega)⟩
theorem spread_ok {Φ : Nat → List D → Hs → R D} {G : Nat → D} {W : Nat} {cell at_ : Int} {S : Hs} {Q : D → Hs → Prop} (h0 : 0 ≤ at_) (h1 : at_ ≤ 1048576) (q : ∀ z S', Fr [] S S' → Q (.int z) S') :
    Ok (exec Φ G W B_law_spread [some (.int cell), some (.int at_), none, none, none, none] S) (rtQ Q) := by
  unfold B_law_spread
  refine x_step fun K hK => ?_
  simp only [Ok_ok, Ok_bind, x_nil, x_one, x_asg, x_exp, x_ret, x_retN, x_pas, x_brk, x_cnt, x_ife, nxQ_nx, nxQ_rt, nxQ_bk, nxQ_ct, rtQ_nx, rtQ_rt, d_var', gv_some, d_non, d_bl, d_int, d_str, d_glb, d_tup, d_lst, d_bin, d_cmp, d_neg, d_nt, d_isN, d_nsN, d_chn, d_and, d_or, d_ife, d_cal, d_bi, d_isi, d_mth, d_ix, d_sl, d_rvs, d_lrg, d_lc, l_nil, l_cons, o_nil, o_cons, oiD, negD, notD, i_rng, i_enm, i_zip, i_cons, g_var, g_tup, g_ix, gs_nil, gs_cons, b_add, b_sub, b_mul, b_modP, b_fdvP, b_pow, b_adds, b_addt, b_addl, b_mull, addL_eq, c_lt, c_le, c_gt, c_ge, c_eq, c_ne, eqO_f, eqO_t, eq_ii, eq_ss, bi_len, lenD_some, len_t, len_r, seqO_l, seqO_s, bi_int, bi_intb, bi_maxii, bi_minii, ofS_some, bi_listr, bi_listt, bi_tupr, bi_tupt, ixO_some, ix_t, ix_r, at_0, at_1, at_2, at_3, sl_t, sl_r, rv_r, set_r, Ok_lim, decide_eq_true_eq, Ok_tstN, Ok_tstP, Ok_tst, tst_t, tst_f, List.getElem?_cons_zero, List.getElem?_cons_succ, List.set_cons_zero, List.set_cons_succ, List.map_cons, List.map_nil, List.length_cons, List.length_nil, List.replicate_succ, List.replicate_zero, List.cons_append, List.nil_append, isN, cnt_nil, cnt_cons, Bool.not_true, Bool.not_false, if_true, if_false, Option.map_some, Nat.reduceAdd, Nat.reduceSub, Nat.reduceLT, Nat.reduceLeDiff, Int.reduceLT, Bool.false_eq_true]
  rw [if_pos (by decide)]
  split
  · exact q _ _ .refl
  refine hK _ _ (x_step fun K hK => ?_)
  simp only [Ok_ok, Ok_bind, x_nil, x_one, x_asg, x_exp, x_ret, x_retN, x_pas, x_brk, x_cnt, x_ife, nxQ_nx, nxQ_rt, nxQ_bk, nxQ_ct, rtQ_nx, rtQ_rt, d_var', gv_some, d_non, d_bl, d_int, d_str, d_glb, d_tup, d_lst, d_bin, d_cmp, d_neg, d_nt, d_isN, d_nsN, d_chn, d_and, d_or, d_ife, d_cal, d_bi, d_isi, d_mth, d_ix, d_sl, d_rvs, d_lrg, d_lc, l_nil, l_cons, o_nil, o_cons, oiD, negD, notD, i_rng, i_enm, i_zip, i_cons, g_var, g_tup, g_ix, gs_nil, gs_cons, b_add, b_sub, b_mul, b_modP, b_fdvP, b_pow, b_adds, b_addt, b_addl, b_mull, addL_eq, c_lt, c_le, c_gt, c_ge, c_eq, c_ne, eqO_f, eqO_t, eq_ii, eq_ss, bi_len, lenD_some, len_t, len_r, seqO_l, seqO_s, bi_int, bi_intb, bi_maxii, bi_minii, ofS_some, bi_listr, bi_listt, bi_tupr, bi_tupt, ixO_some, ix_t, ix_r, at_0, at_1, at_2, at_3, sl_t, sl_r, rv_r, set_r, Ok_lim, decide_eq_true_eq, Ok_tstN, Ok_tstP, Ok_tst, tst_t, tst_f, List.getElem?_cons_zero, List.getElem?_cons_succ, List.set_cons_zero, List.set_cons_succ, List.map_cons, List.map_nil, List.length_cons, List.length_nil, List.replicate_succ, List.replicate_zero, List.cons_append, List.nil_append, isN, cnt_nil, cnt_cons, Bool.not_true, Bool.not_false, if_true, if_false, Option.map_some, Nat.reduceAdd, Nat.reduceSub, Nat.reduceLT, Nat.reduceLeDiff, Int.reduceLT, Bool.false_eq_true]
  refine Ok_newA fun a S1 ha e el f1 => ?_
  refine hK _ _ (x_step fun K hK => ?_)
  simp only [Ok_ok, Ok_bind, x_nil, x_one, x_asg, x_exp, x_ret, x_retN, x_pas, x_brk, x_cnt, x_ife, nxQ_nx, nxQ_rt, nxQ_bk, nxQ_ct, rtQ_nx, rtQ_rt, d_var', gv_some, d_non, d_bl, d_int, d_str, d_glb, d_tup, d_lst, d_bin, d_cmp, d_neg, d_nt, d_isN, d_nsN, d_chn, d_and, d_or, d_ife, d_cal, d_bi, d_isi, d_mth, d_ix, d_sl, d_rvs, d_lrg, d_lc, l_nil, l_cons, o_nil, o_cons, oiD, negD, notD, i_rng, i_enm, i_zip, i_cons, g_var, g_tup, g_ix, gs_nil, gs_cons, b_add, b_sub, b_mul, b_modP, b_fdvP, b_pow, b_adds, b_addt, b_addl, b_mull, addL_eq, c_lt, c_le, c_gt, c_ge, c_eq, c_ne, eqO_f, eqO_t, eq_ii, eq_ss, bi_len, lenD_some, len_t, len_r, seqO_l, seqO_s, bi_int, bi_intb, bi_maxii, bi_minii, ofS_some, bi_listr, bi_listt, bi_tupr, bi_tupt, ixO_some, ix_t, ix_r, at_0, at_1, at_2, at_3, sl_t, sl_r, rv_r, set_r, Ok_lim, decide_eq_true_eq, Ok_tstN, Ok_tstP, Ok_tst, tst_t, tst_f, List.getElem?_cons_zero, List.getElem?_cons_succ, List.set_cons_zero, List.set_cons_succ, List.map_cons, List.map_nil, List.length_cons, List.length_nil, List.replicate_succ, List.replicate_zero, List.cons_append, List.nil_append, isN, cnt_nil, cnt_cons, Bool.not_true, Bool.not_false, if_true, if_false, Option.map_some, Nat.reduceAdd, Nat.reduceSub, Nat.reduceLT, Nat.reduceLeDiff, Int.reduceLT, Bool.false_eq_true]
  refine Ok_newA fun b S2 hb eb elb f2 => ?_
  simp only [Ok_ok, Ok_bind, x_nil, x_one, x_asg, x_exp, x_ret, x_retN, x_pas, x_brk, x_cnt, x_ife, nxQ_nx, nxQ_rt, nxQ_bk, nxQ_ct, rtQ_nx, rtQ_rt, d_var', gv_some, d_non, d_bl, d_int, d_str, d_glb, d_tup, d_lst, d_bin, d_cmp, d_neg, d_nt, d_isN, d_nsN, d_chn, d_and, d_or, d_ife, d_cal, d_bi, d_isi, d_mth, d_ix, d_sl, d_rvs, d_lrg, d_lc, l_nil, l_cons, o_nil, o_cons, oiD, negD, notD, i_rng, i_enm, i_zip, i_cons, g_var, g_tup, g_ix, gs_nil, gs_cons, b_add, b_sub, b_mul, b_modP, b_fdvP, b_pow, b_adds, b_addt, b_addl, b_mull, addL_eq, c_lt, c_le, c_gt, c_ge, c_eq, c_ne, eqO_f, eqO_t, eq_ii, eq_ss, bi_len, lenD_some, len_t, len_r, seqO_l, seqO_s, bi_int, bi_intb, bi_maxii, bi_minii, ofS_some, bi_listr, bi_listt, bi_tupr, bi_tupt, ixO_some, ix_t, ix_r, at_0, at_1, at_2, at_3, sl_t, sl_r, rv_r, set_r, Ok_lim, decide_eq_true_eq, Ok_tstN, Ok_tstP, Ok_tst, tst_t, tst_f, List.getElem?_cons_zero, List.getElem?_cons_succ, List.set_cons_zero, List.set_cons_succ, List.map_cons, List.map_nil, List.length_cons, List.length_nil, List.replicate_succ, List.replicate_zero, List.cons_append, List.nil_append, isN, cnt_nil, cnt_cons, Bool.not_true, Bool.not_false, if_true, if_false, Option.map_some, Nat.reduceAdd, Nat.reduceSub, Nat.reduceLT, Nat.reduceLeDiff, Int.reduceLT, Bool.false_eq_true, f2.get0 ha, hb]
  refine Ok_newA fun c S3 hc ec elc f3 => ?_
  have hp : S3[c]? = some (.lst primes) := hc
  have F : Fr [] S S3 := (f1.trans f2).trans f3
  clear ha hb hc f1 f2 f3 e eb ec el elb elc
  refine hK _ _ (x_step fun K hK => ?_)
  simp only [Ok_ok, Ok_bind, x_nil, x_one, x_asg, x_exp, x_ret, x_retN, x_pas, x_brk, x_cnt, x_ife, nxQ_nx, nxQ_rt, nxQ_bk, nxQ_ct, rtQ_nx, rtQ_rt, d_var', gv_some, d_non, d_bl, d_int, d_str, d_glb, d_tup, d_lst, d_bin, d_cmp, d_neg, d_nt, d_isN, d_nsN, d_chn, d_and, d_or, d_ife, d_cal, d_bi, d_isi, d_mth, d_ix, d_sl, d_rvs, d_lrg, d_lc, l_nil, l_cons, o_nil, o_cons, oiD, negD, notD, i_rng, i_enm, i_zip, i_cons, g_var, g_tup, g_ix, gs_nil, gs_cons, b_add, b_sub, b_mul, b_modP, b_fdvP, b_pow, b_adds, b_addt, b_addl, b_mull, addL_eq, c_lt, c_le, c_gt, c_ge, c_eq, c_ne, eqO_f, eqO_t, eq_ii, eq_ss, bi_len, lenD_some, len_t, len_r, seqO_l, seqO_s, bi_int, bi_intb, bi_maxii, bi_minii, ofS_some, bi_listr, bi_listt, bi_tupr, bi_tupt, ixO_some, ix_t, ix_r, at_0, at_1, at_2, at_3, sl_t, sl_r, rv_r, set_r, Ok_lim, decide_eq_true_eq, Ok_tstN, Ok_tstP, Ok_tst, tst_t, tst_f, List.getElem?_cons_zero, List.getElem?_cons_succ, List.set_cons_zero, List.set_cons_succ, List.map_cons, List.map_nil, List.length_cons, List.length_nil, List.replicate_succ, List.replicate_zero, List.cons_append, List.nil_append, isN, cnt_nil, cnt_cons, Bool.not_true, Bool.not_false, if_true, if_false, Option.map_some, Nat.reduceAdd, Nat.reduceSub, Nat.reduceLT, Nat.reduceLeDiff, Int.reduceLT, Bool.false_eq_true]
  obtain ⟨x0, x1⟩ := fmod_pos (i := cell) (j := 1000000007) (by decide)
  obtain ⟨y0, y1⟩ := mul_bound x0 (show 0 ≤ 2 * at_ + 69069 by omega) (show cell.fmod 1000000007 ≤ 1000000007 by omega) (show 2 * at_ + 69069 ≤ 3000000 by omega)
  rw [if_pos (mulOk_l (by decide) (by decide)), if_pos (mulOk_r (by omega) (by omega)), if_pos (mulOk_r (by decide) (by decide))]
  refine hK _ _ (x_step fun K hK => ?_)
  simp only [Ok_ok, Ok_bind, x_nil, x_one, x_asg, x_exp, x_ret, x_retN, x_pas, x_brk, x_cnt, x_ife, nxQ_nx, nxQ_rt, nxQ_bk, nxQ_ct, rtQ_nx, rtQ_rt, d_var', gv_some, d_non, d_bl, d_int, d_str, d_glb, d_tup, d_lst, d_bin, d_cmp, d_neg, d_nt, d_isN, d_nsN, d_chn, d_and, d_or, d_ife, d_cal, d_bi, d_isi, d_mth, d_ix, d_sl, d_rvs, d_lrg, d_lc, l_nil, l_cons, o_nil, o_cons, oiD, negD, notD, i_rng, i_enm, i_zip, i_cons, g_var, g_tup, g_ix, gs_nil, gs_cons, b_add, b_sub, b_mul, b_modP, b_fdvP, b_pow, b_adds, b_addt, b_addl, b_mull, addL_eq, c_lt, c_le, c_gt, c_ge, c_eq, c_ne, eqO_f, eqO_t, eq_ii, eq_ss, bi_len, lenD_some, len_t, len_r, seqO_l, seqO_s, bi_int, bi_intb, bi_maxii, bi_minii, ofS_some, bi_listr, bi_listt, bi_tupr, bi_tupt, ixO_some, ix_t, ix_r, at_0, at_1, at_2, at_3, sl_t, sl_r, rv_r, set_r, Ok_lim, decide_eq_true_eq, Ok_tstN, Ok_tstP, Ok_tst, tst_t, tst_f, List.getElem?_cons_zero, List.getElem?_cons_succ, List.set_cons_zero, List.set_cons_succ, List.map_cons, List.map_nil, List.length_cons, List.length_nil, List.replicate_succ, List.replicate_zero, List.cons_append, List.nil_append, isN, cnt_nil, cnt_cons, Bool.not_true, Bool.not_false, if_true, if_false, Option.map_some, Nat.reduceAdd, Nat.reduceSub, Nat.reduceLT, Nat.reduceLeDiff, Int.reduceLT, Bool.false_eq_true]
  obtain ⟨p1, hp1, p10, p11⟩ := primes_at at_
  rw [if_pos ⟨by decide, by decide, by omega⟩]
  simp only [Ok_ok, Ok_bind, x_nil, x_one, x_asg, x_exp, x_ret, x_retN, x_pas, x_brk, x_cnt, x_ife, nxQ_nx, nxQ_rt, nxQ_bk, nxQ_ct, rtQ_nx, rtQ_rt, d_var', gv_some, d_non, d_bl, d_int, d_str, d_glb, d_tup, d_lst, d_bin, d_cmp, d_neg, d_nt, d_isN, d_nsN, d_chn, d_and, d_or, d_ife, d_cal, d_bi, d_isi, d_mth, d_ix, d_sl, d_rvs, d_lrg, d_lc, l_nil, l_cons, o_nil, o_cons, oiD, negD, notD, i_rng, i_enm, i_zip, i_cons, g_var, g_tup, g_ix, gs_nil, gs_cons, b_add, b_sub, b_mul, b_modP, b_fdvP, b_pow, b_adds, b_addt, b_addl, b_mull, addL_eq, c_lt, c_le, c_gt, c_ge, c_eq, c_ne, eqO_f, eqO_t, eq_ii, eq_ss, bi_len, lenD_some, len_t, len_r, seqO_l, seqO_s, bi_int, bi_intb, bi_maxii, bi_minii, ofS_some, bi_listr, bi_listt, bi_tupr, bi_tupt, ixO_some, ix_t, ix_r, at_0, at_1, at_2, at_3, sl_t, sl_r, rv_r, set_r, Ok_lim, decide_eq_true_eq, Ok_tstN, Ok_tstP, Ok_tst, tst_t, tst_f, List.getElem?_cons_zero, List.getElem?_cons_succ, List.set_cons_zero, List.set_cons_succ, List.map_cons, List.map_nil, List.length_cons, List.length_nil, List.replicate_succ, List.replicate_zero, List.cons_append, List.nil_append, isN, cnt_nil, cnt_cons, Bool.not_true, Bool.not_false, if_true, if_false, Option.map_some, Nat.reduceAdd, Nat.reduceSub, Nat.reduceLT, Nat.reduceLeDiff, Int.reduceLT, Bool.false_eq_true, hp, hp1, p10]
  generalize hu : Int.fmod _ p1 = u
  have u0 : 0 ≤ u ∧ u < p1 := by rw [← hu]; exact fmod_pos p10
  refine hK _ _ (x_step fun K hK => ?_)
  simp only [Ok_ok, Ok_bind, x_nil, x_one, x_asg, x_exp, x_ret, x_retN, x_pas, x_brk, x_cnt, x_ife, nxQ_nx, nxQ_rt, nxQ_bk, nxQ_ct, rtQ_nx, rtQ_rt, d_var', gv_some, d_non, d_bl, d_int, d_str, d_glb, d_tup, d_lst, d_bin, d_cmp, d_neg, d_nt, d_isN, d_nsN, d_chn, d_and, d_or, d_ife, d_cal, d_bi, d_isi, d_mth, d_ix, d_sl, d_rvs, d_lrg, d_lc, l_nil, l_cons, o_nil, o_cons, oiD, negD, notD, i_rng, i_enm, i_zip, i_cons, g_var, g_tup, g_ix, gs_nil, gs_cons, b_add, b_sub, b_mul, b_modP, b_fdvP, b_pow, b_adds, b_addt, b_addl, b_mull, addL_eq, c_lt, c_le, c_gt, c_ge, c_eq, c_ne, eqO_f, eqO_t, eq_ii, eq_ss, bi_len, lenD_some, len_t, len_r, seqO_l, seqO_s, bi_int, bi_intb, bi_maxii, bi_minii, ofS_some, bi_listr, bi_listt, bi_tupr, bi_tupt, ixO_some, ix_t, ix_r, at_0, at_1, at_2, at_3, sl_t, sl_r, rv_r, set_r, Ok_lim, decide_eq_true_eq, Ok_tstN, Ok_tstP, Ok_tst, tst_t, tst_f, List.getElem?_cons_zero, List.getElem?_cons_succ, List.set_cons_zero, List.set_cons_succ, List.map_cons, List.map_nil, List.length_cons, List.length_nil, List.replicate_succ, List.replicate_zero, List.cons_append, List.nil_append, isN, cnt_nil, cnt_cons, Bool.not_true, Bool.not_false, if_true, if_false, Option.map_some, Nat.reduceAdd, Nat.reduceSub, Nat.reduceLT, Nat.reduceLeDiff, Int.reduceLT, Bool.false_eq_true]
  obtain ⟨p2, hp2, p20, p21⟩ := primes_at (at_ + 5)
  obtain ⟨x2, x3⟩ := fmod_pos (i := cell) (j := 65537) (by decide)
  obtain ⟨y2, y3⟩ := mul_bound u0.1 (show 0 ≤ at_ + 3 by omega) (show u ≤ 2147483648 by omega) (show at_ + 3 ≤ 3000000 by omega)
  rw [if_pos (mulOk_r (by omega) (by omega)), if_pos ⟨by decide, by decide, by omega⟩]
  simp only [Ok_ok, Ok_bind, x_nil, x_one, x_asg, x_exp, x_ret, x_retN, x_pas, x_brk, x_cnt, x_ife, nxQ_nx, nxQ_rt, nxQ_bk, nxQ_ct, rtQ_nx, rtQ_rt, d_var', gv_some, d_non, d_bl, d_int, d_str, d_glb, d_tup, d_lst, d_bin, d_cmp, d_neg, d_nt, d_isN, d_nsN, d_chn, d_and, d_or, d_ife, d_cal, d_bi, d_isi, d_mth, d_ix, d_sl, d_rvs, d_lrg, d_lc, l_nil, l_cons, o_nil, o_cons, oiD, negD, notD, i_rng, i_enm, i_zip, i_cons, g_var, g_tup, g_ix, gs_nil, gs_cons, b_add, b_sub, b_mul, b_modP, b_fdvP, b_pow, b_adds, b_addt, b_addl, b_mull, addL_eq, c_lt, c_le, c_gt, c_ge, c_eq, c_ne, eqO_f, eqO_t, eq_ii, eq_ss, bi_len, lenD_some, len_t, len_r, seqO_l, seqO_s, bi_int, bi_intb, bi_maxii, bi_minii, ofS_some, bi_listr, bi_listt, bi_tupr, bi_tupt, ixO_some, ix_t, ix_r, at_0, at_1, at_2, at_3, sl_t, sl_r, rv_r, set_r, Ok_lim, decide_eq_true_eq, Ok_tstN, Ok_tstP, Ok_tst, tst_t, tst_f, List.getElem?_cons_zero, List.getElem?_cons_succ, List.set_cons_zero, List.set_cons_succ, List.map_cons, List.map_nil, List.length_cons, List.length_nil, List.replicate_succ, List.replicate_zero, List.cons_append, List.nil_append, isN, cnt_nil, cnt_cons, Bool.not_true, Bool.not_false, if_true, if_false, Option.map_some, Nat.reduceAdd, Nat.reduceSub, Nat.reduceLT, Nat.reduceLeDiff, Int.reduceLT, Bool.false_eq_true, hp, hp2, p20]
  generalize hv : Int.fmod _ p2 = v
  have v0 : 0 ≤ v ∧ v < p2 := by rw [← hv]; exact fmod_pos p20
  refine hK _ _ (x_step fun K hK => ?_)
  simp only [Ok_ok, Ok_bind, x_nil, x_one, x_asg, x_exp, x_ret, x_retN, x_pas, x_brk, x_cnt, x_ife, nxQ_nx, nxQ_rt, nxQ_bk, nxQ_ct, rtQ_nx, rtQ_rt, d_var', gv_some, d_non, d_bl, d_int, d_str, d_glb, d_tup, d_lst, d_bin, d_cmp, d_neg, d_nt, d_isN, d_nsN, d_chn, d_and, d_or, d_ife, d_cal, d_bi, d_isi, d_mth, d_ix, d_sl, d_rvs, d_lrg, d_lc, l_nil, l_cons, o_nil, o_cons, oiD, negD, notD, i_rng, i_enm, i_zip, i_cons, g_var, g_tup, g_ix, gs_nil, gs_cons, b_add, b_sub, b_mul, b_modP, b_fdvP, b_pow, b_adds, b_addt, b_addl, b_mull, addL_eq, c_lt, c_le, c_gt, c_ge, c_eq, c_ne, eqO_f, eqO_t, eq_ii, eq_ss, bi_len, lenD_some, len_t, len_r, seqO_l, seqO_s, bi_int, bi_intb, bi_maxii, bi_minii, ofS_some, bi_listr, bi_listt, bi_tupr, bi_tupt, ixO_some, ix_t, ix_r, at_0, at_1, at_2, at_3, sl_t, sl_r, rv_r, set_r, Ok_lim, decide_eq_true_eq, Ok_tstN, Ok_tstP, Ok_tst, tst_t, tst_f, List.getElem?_cons_zero, List.getElem?_cons_succ, List.set_cons_zero, List.set_cons_succ, List.map_cons, List.map_nil, List.length_cons, List.length_nil, List.replicate_succ, List.replicate_zero, List.cons_append, List.nil_append, isN, cnt_nil, cnt_cons, Bool.not_true, Bool.not_false, if_true, if_false, Option.map_some, Nat.reduceAdd, Nat.reduceSub, Nat.reduceLT, Nat.reduceLeDiff, Int.reduceLT, Bool.false_eq_true]
  obtain ⟨p3, hp3, p30, p31⟩ := primes_at (at_ + 7)
  obtain ⟨x4, x5⟩ := fmod_pos (i := u) (j := 1009) (by decide)
  rw [if_pos ⟨by decide, by decide, by omega⟩]
  simp only [Ok_ok, Ok_bind, x_nil, x_one, x_asg, x_exp, x_ret, x_retN, x_pas, x_brk, x_cnt, x_ife, nxQ_nx, nxQ_rt, nxQ_bk, nxQ_ct, rtQ_nx, rtQ_rt, d_var', gv_some, d_non, d_bl, d_int, d_str, d_glb, d_tup, d_lst, d_bin, d_cmp, d_neg, d_nt, d_isN, d_nsN, d_chn, d_and, d_or, d_ife, d_cal, d_bi, d_isi, d_mth, d_ix, d_sl, d_rvs, d_lrg, d_lc, l_nil, l_cons, o_nil, o_cons, oiD, negD, notD, i_rng, i_enm, i_zip, i_cons, g_var, g_tup, g_ix, gs_nil, gs_cons, b_add, b_sub, b_mul, b_modP, b_fdvP, b_pow, b_adds, b_addt, b_addl, b_mull, addL_eq, c_lt, c_le, c_gt, c_ge, c_eq, c_ne, eqO_f, eqO_t, eq_ii, eq_ss, bi_len, lenD_some, len_t, len_r, seqO_l, seqO_s, bi_int, bi_intb, bi_maxii, bi_minii, ofS_some, bi_listr, bi_listt, bi_tupr, bi_tupt, ixO_some, ix_t, ix_r, at_0, at_1, at_2, at_3, sl_t, sl_r, rv_r, set_r, Ok_lim, decide_eq_true_eq, Ok_tstN, Ok_tstP, Ok_tst, tst_t, tst_f, List.getElem?_cons_zero, List.getElem?_cons_succ, List.set_cons_zero, List.set_cons_succ, List.map_cons, List.map_nil, List.length_cons, List.length_nil, List.replicate_succ, List.replicate_zero, List.cons_append, List.nil_append, isN, cnt_nil, cnt_cons, Bool.not_true, Bool.not_false, if_true, if_false, Option.map_some, Nat.reduceAdd, Nat.reduceSub, Nat.reduceLT, Nat.reduceLeDiff, Int.reduceLT, Bool.false_eq_true, hp, hp3, p30]
  refine hK _ _ ?_
  simp only [Ok_ok, Ok_bind, x_nil, x_one, x_asg, x_exp, x_ret, x_retN, x_pas, x_brk, x_cnt, x_ife, nxQ_nx, nxQ_rt, nxQ_bk, nxQ_ct, rtQ_nx, rtQ_rt, d_var', gv_some, d_non, d_bl, d_int, d_str, d_glb, d_tup, d_lst, d_bin, d_cmp, d_neg, d_nt, d_isN, d_nsN, d_chn, d_and, d_or, d_ife, d_cal, d_bi, d_isi, d_mth, d_ix, d_sl, d_rvs, d_lrg, d_lc, l_nil, l_cons, o_nil, o_cons, oiD, negD, notD, i_rng, i_enm, i_zip, i_cons, g_var, g_tup, g_ix, gs_nil, gs_cons, b_add, b_sub, b_mul, b_modP, b_fdvP, b_pow, b_adds, b_addt, b_addl, b_mull, addL_eq, c_lt, c_le, c_gt, c_ge, c_eq, c_ne, eqO_f, eqO_t, eq_ii, eq_ss, bi_len, lenD_some, len_t, len_r, seqO_l, seqO_s, bi_int, bi_intb, bi_maxii, bi_minii, ofS_some, bi_listr, bi_listt, bi_tupr, bi_tupt, ixO_some, ix_t, ix_r, at_0, at_1, at_2, at_3, sl_t, sl_r, rv_r, set_r, Ok_lim, decide_eq_true_eq, Ok_tstN, Ok_tstP, Ok_tst, tst_t, tst_f, List.getElem?_cons_zero, List.getElem?_cons_succ, List.set_cons_zero, List.set_cons_succ, List.map_cons, List.map_nil, List.length_cons, List.length_nil, List.replicate_succ, List.replicate_zero, List.cons_append, List.nil_append, isN, cnt_nil, cnt_cons, Bool.not_true, Bool.not_false, if_true, if_false, Option.map_some, Nat.reduceAdd, Nat.reduceSub, Nat.reduceLT, Nat.reduceLeDiff, Int.reduceLT, Bool.false_eq_true]
  rw [if_pos (mulOk_r (by decide) (by decide)), if_pos (mulOk_r (by decide) (by decide))]
  exact q _ _ F
/-- the pen at p: its cells, where it stands, at most k turns so far -/
def Pen (S : Hs) (p : Nat) (k : Nat) : Prop := ∃ (c : Nat) (cells : List Int) (at_ val : Int), c < p ∧ S[p]? = some (.lst [.ref c, .int at_, .int val]) ∧ S[c]? = some (.lst (cells.map D.int)) ∧ 0 ≤ at_ ∧ at_ ≤ k ∧ cells.length ≤ 63
theorem Pen.mono {S : Hs} {p k k' : Nat} (h : Pen S p k) (hk : k ≤ k') : Pen S p k' := by
  obtain ⟨c, cells, at_, val, h1, h2, h3, h4, h5, h6⟩ := h
  exact ⟨c, cells, at_, val, h1, h2, h3, h4, by omega, h6⟩
/-- what the defs of the pen promise, of the defs by their numbers -/
def SpreadOk (Φ : Nat → List D → Hs → R D) (i : Nat) : Prop := ∀ (cell at_ : Int) (S : Hs) (Q : D → Hs → Prop), 0 ≤ at_ → at_ ≤ 1048576 → (∀ z S', Fr [] S S' → Q (.int z) S') → Ok (Φ i [.int cell, .int at_] S) Q
def TakeOk (Φ : Nat → List D → Hs → R D) (i : Nat) : Prop := ∀ (p k : Nat) (m : Int) (S : Hs) (Q : D → Hs → Prop), Pen S p k → k ≤ 1048576 → 0 < m → m < 1073741824 → (∀ z S', 0 ≤ z → z < m → Pen S' p (k + 1) → Fr [p] S S' → Q (.int z) S') → Ok (Φ i [.ref p, .int m] S) Q
theorem set3_1 {S : Hs} {a : Nat} {x y z d : D} {Q : Unit → Hs → Prop} : Ok (setO S a 1 d (some (.lst [x, y, z]))) Q = Q () (S.set a (.lst [x, d, z])) := setO_eq (j := 1) (show L2.ixN 3 1 = some 1 by decide)
theorem set3_2 {S : Hs} {a : Nat} {x y z d : D} {Q : Unit → Hs → Prop} : Ok (setO S a 2 d (some (.lst [x, y, z]))) Q = Q () (S.set a (.lst [x, y, d])) := setO_eq (j := 2) (show L2.ixN 3 2 = some 2 by decide)
theorem take_ok {Φ : Nat → List D → Hs → R D} {G : Nat → D} {W i p k : Nat} {m : Int} {S : Hs} {Q : D → Hs → Prop} (hs : SpreadOk Φ i) (hp : Pen S p k) (hk : k ≤ 1048576) (m0 : 0 < m) (m1 : m < 1073741824) (q : ∀ z S', 0 ≤ z → z < m → Pen S' p (k + 1) → Fr [p] S S' → Q (.int z) S') :
    Ok (exec Φ G W (B_law_take i) [some (.ref p), some (.int m), none, none, none] S) (rtQ Q) := by
  unfold B_law_take
  refine x_step fun K hK => ?_
  -- what is left to do once the pen stands ready
  have fin : ∀ S' a b, Pen S' p (k + 1) → Fr [p] S S' → K [some (.ref p), some (.int m), none, a, b] S' := by
    intro S' a b hp' fr
    obtain ⟨c, cells, at_, val, h1, h2, h3, h4, h5, h6⟩ := hp'
    refine hK _ _ (x_step fun K hK => ?_)
    simp only [Ok_ok, Ok_bind, x_nil, x_one, x_asg, x_exp, x_ret, x_retN, x_pas, x_brk, x_cnt, x_ife, nxQ_nx, nxQ_rt, nxQ_bk, nxQ_ct, rtQ_nx, rtQ_rt, d_var', gv_some, d_non, d_bl, d_int, d_str, d_glb, d_tup, d_lst, d_bin, d_cmp, d_neg, d_nt, d_isN, d_nsN, d_chn, d_and, d_or, d_ife, d_cal, d_bi, d_isi, d_mth, d_ix, d_sl, d_rvs, d_lrg, d_lc, l_nil, l_cons, o_nil, o_cons, oiD, negD, notD, i_rng, i_enm, i_zip, i_cons, g_var, g_tup, g_ix, gs_nil, gs_cons, b_add, b_sub, b_mul, b_modP, b_fdvP, b_pow, b_adds, b_addt, b_addl, b_mull, addL_eq, c_lt, c_le, c_gt, c_ge, c_eq, c_ne, eqO_f, eqO_t, eq_ii, eq_ss, bi_len, lenD_some, len_t, len_r, seqO_l, seqO_s, bi_int, bi_intb, bi_maxii, bi_minii, ofS_some, bi_listr, bi_listt, bi_tupr, bi_tupt, ixO_some, ix_t, ix_r, at_0, at_1, at_2, at_3, sl_t, sl_r, rv_r, set_r, Ok_lim, decide_eq_true_eq, Ok_tstN, Ok_tstP, Ok_tst, tst_t, tst_f, List.getElem?_cons_zero, List.getElem?_cons_succ, List.set_cons_zero, List.set_cons_succ, List.map_cons, List.map_nil, List.length_cons, List.length_nil, List.replicate_succ, List.replicate_zero, List.cons_append, List.nil_append, isN, cnt_nil, cnt_cons, Bool.not_true, Bool.not_false, if_true, if_false, Option.map_some, Nat.reduceAdd, Nat.reduceSub, Nat.reduceLT, Nat.reduceLeDiff, Int.reduceLT, Bool.false_eq_true, h2, m0]
    refine hK _ _ (x_step fun K hK => ?_)
    simp only [Ok_ok, Ok_bind, x_nil, x_one, x_asg, x_exp, x_ret, x_retN, x_pas, x_brk, x_cnt, x_ife, nxQ_nx, nxQ_rt, nxQ_bk, nxQ_ct, rtQ_nx, rtQ_rt, d_var', gv_some, d_non, d_bl, d_int, d_str, d_glb, d_tup, d_lst, d_bin, d_cmp, d_neg, d_nt, d_isN, d_nsN, d_chn, d_and, d_or, d_ife, d_cal, d_bi, d_isi, d_mth, d_ix, d_sl, d_rvs, d_lrg, d_lc, l_nil, l_cons, o_nil, o_cons, oiD, negD, notD, i_rng, i_enm, i_zip, i_cons, g_var, g_tup, g_ix, gs_nil, gs_cons, b_add, b_sub, b_mul, b_modP, b_fdvP, b_pow, b_adds, b_addt, b_addl, b_mull, addL_eq, c_lt, c_le, c_gt, c_ge, c_eq, c_ne, eqO_f, eqO_t, eq_ii, eq_ss, bi_len, lenD_some, len_t, len_r, seqO_l, seqO_s, bi_int, bi_intb, bi_maxii, bi_minii, ofS_some, bi_listr, bi_listt, bi_tupr, bi_tupt, ixO_some, ix_t, ix_r, at_0, at_1, at_2, at_3, sl_t, sl_r, rv_r, set_r, Ok_lim, decide_eq_true_eq, Ok_tstN, Ok_tstP, Ok_tst, tst_t, tst_f, List.getElem?_cons_zero, List.getElem?_cons_succ, List.set_cons_zero, List.set_cons_succ, List.map_cons, List.map_nil, List.length_cons, List.length_nil, List.replicate_succ, List.replicate_zero, List.cons_append, List.nil_append, isN, cnt_nil, cnt_cons, Bool.not_true, Bool.not_false, if_true, if_false, Option.map_some, Nat.reduceAdd, Nat.reduceSub, Nat.reduceLT, Nat.reduceLeDiff, Int.reduceLT, Bool.false_eq_true, h2, m0, m1]
    rw [set3_2]
    refine hK _ _ ?_
    simp only [Ok_ok, Ok_bind, x_nil, x_one, x_asg, x_exp, x_ret, x_retN, x_pas, x_brk, x_cnt, x_ife, nxQ_nx, nxQ_rt, nxQ_bk, nxQ_ct, rtQ_nx, rtQ_rt, d_var', gv_some, d_non, d_bl, d_int, d_str, d_glb, d_tup, d_lst, d_bin, d_cmp, d_neg, d_nt, d_isN, d_nsN, d_chn, d_and, d_or, d_ife, d_cal, d_bi, d_isi, d_mth, d_ix, d_sl, d_rvs, d_lrg, d_lc, l_nil, l_cons, o_nil, o_cons, oiD, negD, notD, i_rng, i_enm, i_zip, i_cons, g_var, g_tup, g_ix, gs_nil, gs_cons, b_add, b_sub, b_mul, b_modP, b_fdvP, b_pow, b_adds, b_addt, b_addl, b_mull, addL_eq, c_lt, c_le, c_gt, c_ge, c_eq, c_ne, eqO_f, eqO_t, eq_ii, eq_ss, bi_len, lenD_some, len_t, len_r, seqO_l, seqO_s, bi_int, bi_intb, bi_maxii, bi_minii, ofS_some, bi_listr, bi_listt, bi_tupr, bi_tupt, ixO_some, ix_t, ix_r, at_0, at_1, at_2, at_3, sl_t, sl_r, rv_r, set_r, Ok_lim, decide_eq_true_eq, Ok_tstN, Ok_tstP, Ok_tst, tst_t, tst_f, List.getElem?_cons_zero, List.getElem?_cons_succ, List.set_cons_zero, List.set_cons_succ, List.map_cons, List.map_nil, List.length_cons, List.length_nil, List.replicate_succ, List.replicate_zero, List.cons_append, List.nil_append, isN, cnt_nil, cnt_cons, Bool.not_true, Bool.not_false, if_true, if_false, Option.map_some, Nat.reduceAdd, Nat.reduceSub, Nat.reduceLT, Nat.reduceLeDiff, Int.reduceLT, Bool.false_eq_true]
    obtain ⟨z0, z1⟩ := fmod_pos (i := val) m0
    refine q _ _ z0 z1 ⟨c, cells, at_, val.fdiv m, h1, ?_, ?_, h4, h5, h6⟩ (fr.trans (.set (by simp)))
    · rw [List.getElem?_set_self (lt_of_get h2)]
    · rw [List.getElem?_set_ne (by omega)]; exact h3
  obtain ⟨c, cells, at_, val, h1, h2, h3, h4, h5, h6⟩ := hp
  simp only [Ok_ok, Ok_bind, x_nil, x_one, x_asg, x_exp, x_ret, x_retN, x_pas, x_brk, x_cnt, x_ife, nxQ_nx, nxQ_rt, nxQ_bk, nxQ_ct, rtQ_nx, rtQ_rt, d_var', gv_some, d_non, d_bl, d_int, d_str, d_glb, d_tup, d_lst, d_bin, d_cmp, d_neg, d_nt, d_isN, d_nsN, d_chn, d_and, d_or, d_ife, d_cal, d_bi, d_isi, d_mth, d_ix, d_sl, d_rvs, d_lrg, d_lc, l_nil, l_cons, o_nil, o_cons, oiD, negD, notD, i_rng, i_enm, i_zip, i_cons, g_var, g_tup, g_ix, gs_nil, gs_cons, b_add, b_sub, b_mul, b_modP, b_fdvP, b_pow, b_adds, b_addt, b_addl, b_mull, addL_eq, c_lt, c_le, c_gt, c_ge, c_eq, c_ne, eqO_f, eqO_t, eq_ii, eq_ss, bi_len, lenD_some, len_t, len_r, seqO_l, seqO_s, bi_int, bi_intb, bi_maxii, bi_minii, ofS_some, bi_listr, bi_listt, bi_tupr, bi_tupt, ixO_some, ix_t, ix_r, at_0, at_1, at_2, at_3, sl_t, sl_r, rv_r, set_r, Ok_lim, decide_eq_true_eq, Ok_tstN, Ok_tstP, Ok_tst, tst_t, tst_f, List.getElem?_cons_zero, List.getElem?_cons_succ, List.set_cons_zero, List.set_cons_succ, List.map_cons, List.map_nil, List.length_cons, List.length_nil, List.replicate_succ, List.replicate_zero, List.cons_append, List.nil_append, isN, cnt_nil, cnt_cons, Bool.not_true, Bool.not_false, if_true, if_false, Option.map_some, Nat.reduceAdd, Nat.reduceSub, Nat.reduceLT, Nat.reduceLeDiff, Int.reduceLT, Bool.false_eq_true, h2]
  split
  · refine x_step fun K1 hK1 => ?_
    simp only [Ok_ok, Ok_bind, x_nil, x_one, x_asg, x_exp, x_ret, x_retN, x_pas, x_brk, x_cnt, x_ife, nxQ_nx, nxQ_rt, nxQ_bk, nxQ_ct, rtQ_nx, rtQ_rt, d_var', gv_some, d_non, d_bl, d_int, d_str, d_glb, d_tup, d_lst, d_bin, d_cmp, d_neg, d_nt, d_isN, d_nsN, d_chn, d_and, d_or, d_ife, d_cal, d_bi, d_isi, d_mth, d_ix, d_sl, d_rvs, d_lrg, d_lc, l_nil, l_cons, o_nil, o_cons, oiD, negD, notD, i_rng, i_enm, i_zip, i_cons, g_var, g_tup, g_ix, gs_nil, gs_cons, b_add, b_sub, b_mul, b_modP, b_fdvP, b_pow, b_adds, b_addt, b_addl, b_mull, addL_eq, c_lt, c_le, c_gt, c_ge, c_eq, c_ne, eqO_f, eqO_t, eq_ii, eq_ss, bi_len, lenD_some, len_t, len_r, seqO_l, seqO_s, bi_int, bi_intb, bi_maxii, bi_minii, ofS_some, bi_listr, bi_listt, bi_tupr, bi_tupt, ixO_some, ix_t, ix_r, at_0, at_1, at_2, at_3, sl_t, sl_r, rv_r, set_r, Ok_lim, decide_eq_true_eq, Ok_tstN, Ok_tstP, Ok_tst, tst_t, tst_f, List.getElem?_cons_zero, List.getElem?_cons_succ, List.set_cons_zero, List.set_cons_succ, List.map_cons, List.map_nil, List.length_cons, List.length_nil, List.replicate_succ, List.replicate_zero, List.cons_append, List.nil_append, isN, cnt_nil, cnt_cons, Bool.not_true, Bool.not_false, if_true, if_false, Option.map_some, Nat.reduceAdd, Nat.reduceSub, Nat.reduceLT, Nat.reduceLeDiff, Int.reduceLT, Bool.false_eq_true, h2]
    refine hK1 _ _ (x_step fun K1 hK1 => ?_)
    simp only [Ok_ok, Ok_bind, x_nil, x_one, x_asg, x_exp, x_ret, x_retN, x_pas, x_brk, x_cnt, x_ife, nxQ_nx, nxQ_rt, nxQ_bk, nxQ_ct, rtQ_nx, rtQ_rt, d_var', gv_some, d_non, d_bl, d_int, d_str, d_glb, d_tup, d_lst, d_bin, d_cmp, d_neg, d_nt, d_isN, d_nsN, d_chn, d_and, d_or, d_ife, d_cal, d_bi, d_isi, d_mth, d_ix, d_sl, d_rvs, d_lrg, d_lc, l_nil, l_cons, o_nil, o_cons, oiD, negD, notD, i_rng, i_enm, i_zip, i_cons, g_var, g_tup, g_ix, gs_nil, gs_cons, b_add, b_sub, b_mul, b_modP, b_fdvP, b_pow, b_adds, b_addt, b_addl, b_mull, addL_eq, c_lt, c_le, c_gt, c_ge, c_eq, c_ne, eqO_f, eqO_t, eq_ii, eq_ss, bi_len, lenD_some, len_t, len_r, seqO_l, seqO_s, bi_int, bi_intb, bi_maxii, bi_minii, ofS_some, bi_listr, bi_listt, bi_tupr, bi_tupt, ixO_some, ix_t, ix_r, at_0, at_1, at_2, at_3, sl_t, sl_r, rv_r, set_r, Ok_lim, decide_eq_true_eq, Ok_tstN, Ok_tstP, Ok_tst, tst_t, tst_f, List.getElem?_cons_zero, List.getElem?_cons_succ, List.set_cons_zero, List.set_cons_succ, List.map_cons, List.map_nil, List.length_cons, List.length_nil, List.replicate_succ, List.replicate_zero, List.cons_append, List.nil_append, isN, cnt_nil, cnt_cons, Bool.not_true, Bool.not_false, if_true, if_false, Option.map_some, Nat.reduceAdd, Nat.reduceSub, Nat.reduceLT, Nat.reduceLeDiff, Int.reduceLT, Bool.false_eq_true]
    refine hK1 _ _ (x_step fun K1 hK1 => ?_)
    simp only [Ok_ok, Ok_bind, x_nil, x_one, x_asg, x_exp, x_ret, x_retN, x_pas, x_brk, x_cnt, x_ife, nxQ_nx, nxQ_rt, nxQ_bk, nxQ_ct, rtQ_nx, rtQ_rt, d_var', gv_some, d_non, d_bl, d_int, d_str, d_glb, d_tup, d_lst, d_bin, d_cmp, d_neg, d_nt, d_isN, d_nsN, d_chn, d_and, d_or, d_ife, d_cal, d_bi, d_isi, d_mth, d_ix, d_sl, d_rvs, d_lrg, d_lc, l_nil, l_cons, o_nil, o_cons, oiD, negD, notD, i_rng, i_enm, i_zip, i_cons, g_var, g_tup, g_ix, gs_nil, gs_cons, b_add, b_sub, b_mul, b_modP, b_fdvP, b_pow, b_adds, b_addt, b_addl, b_mull, addL_eq, c_lt, c_le, c_gt, c_ge, c_eq, c_ne, eqO_f, eqO_t, eq_ii, eq_ss, bi_len, lenD_some, len_t, len_r, seqO_l, seqO_s, bi_int, bi_intb, bi_maxii, bi_minii, ofS_some, bi_listr, bi_listt, bi_tupr, bi_tupt, ixO_some, ix_t, ix_r, at_0, at_1, at_2, at_3, sl_t, sl_r, rv_r, set_r, Ok_lim, decide_eq_true_eq, Ok_tstN, Ok_tstP, Ok_tst, tst_t, tst_f, List.getElem?_cons_zero, List.getElem?_cons_succ, List.set_cons_zero, List.set_cons_succ, List.map_cons, List.map_nil, List.length_cons, List.length_nil, List.replicate_succ, List.replicate_zero, List.cons_append, List.nil_append, isN, cnt_nil, cnt_cons, Bool.not_true, Bool.not_false, if_true, if_false, Option.map_some, Nat.reduceAdd, Nat.reduceSub, Nat.reduceLT, Nat.reduceLeDiff, Int.reduceLT, Bool.false_eq_true, h2, h3, List.length_map]
    -- whatever the cell is
    have go : ∀ cell : Int, K1 [some (.ref p), some (.int m), none, some (.int at_), some (.int cell)] S := by
      intro cell
      refine hK1 _ _ (x_step fun K2 hK2 => ?_)
      simp only [Ok_ok, Ok_bind, x_nil, x_one, x_asg, x_exp, x_ret, x_retN, x_pas, x_brk, x_cnt, x_ife, nxQ_nx, nxQ_rt, nxQ_bk, nxQ_ct, rtQ_nx, rtQ_rt, d_var', gv_some, d_non, d_bl, d_int, d_str, d_glb, d_tup, d_lst, d_bin, d_cmp, d_neg, d_nt, d_isN, d_nsN, d_chn, d_and, d_or, d_ife, d_cal, d_bi, d_isi, d_mth, d_ix, d_sl, d_rvs, d_lrg, d_lc, l_nil, l_cons, o_nil, o_cons, oiD, negD, notD, i_rng, i_enm, i_zip, i_cons, g_var, g_tup, g_ix, gs_nil, gs_cons, b_add, b_sub, b_mul, b_modP, b_fdvP, b_pow, b_adds, b_addt, b_addl, b_mull, addL_eq, c_lt, c_le, c_gt, c_ge, c_eq, c_ne, eqO_f, eqO_t, eq_ii, eq_ss, bi_len, lenD_some, len_t, len_r, seqO_l, seqO_s, bi_int, bi_intb, bi_maxii, bi_minii, ofS_some, bi_listr, bi_listt, bi_tupr, bi_tupt, ixO_some, ix_t, ix_r, at_0, at_1, at_2, at_3, sl_t, sl_r, rv_r, set_r, Ok_lim, decide_eq_true_eq, Ok_tstN, Ok_tstP, Ok_tst, tst_t, tst_f, List.getElem?_cons_zero, List.getElem?_cons_succ, List.set_cons_zero, List.set_cons_succ, List.map_cons, List.map_nil, List.length_cons, List.length_nil, List.replicate_succ, List.replicate_zero, List.cons_append, List.nil_append, isN, cnt_nil, cnt_cons, Bool.not_true, Bool.not_false, if_true, if_false, Option.map_some, Nat.reduceAdd, Nat.reduceSub, Nat.reduceLT, Nat.reduceLeDiff, Int.reduceLT, Bool.false_eq_true, h2]
      rw [set3_1]
      refine hK2 _ _ ?_
      simp only [Ok_ok, Ok_bind, x_nil, x_one, x_asg, x_exp, x_ret, x_retN, x_pas, x_brk, x_cnt, x_ife, nxQ_nx, nxQ_rt, nxQ_bk, nxQ_ct, rtQ_nx, rtQ_rt, d_var', gv_some, d_non, d_bl, d_int, d_str, d_glb, d_tup, d_lst, d_bin, d_cmp, d_neg, d_nt, d_isN, d_nsN, d_chn, d_and, d_or, d_ife, d_cal, d_bi, d_isi, d_mth, d_ix, d_sl, d_rvs, d_lrg, d_lc, l_nil, l_cons, o_nil, o_cons, oiD, negD, notD, i_rng, i_enm, i_zip, i_cons, g_var, g_tup, g_ix, gs_nil, gs_cons, b_add, b_sub, b_mul, b_modP, b_fdvP, b_pow, b_adds, b_addt, b_addl, b_mull, addL_eq, c_lt, c_le, c_gt, c_ge, c_eq, c_ne, eqO_f, eqO_t, eq_ii, eq_ss, bi_len, lenD_some, len_t, len_r, seqO_l, seqO_s, bi_int, bi_intb, bi_maxii, bi_minii, ofS_some, bi_listr, bi_listt, bi_tupr, bi_tupt, ixO_some, ix_t, ix_r, at_0, at_1, at_2, at_3, sl_t, sl_r, rv_r, set_r, Ok_lim, decide_eq_true_eq, Ok_tstN, Ok_tstP, Ok_tst, tst_t, tst_f, List.getElem?_cons_zero, List.getElem?_cons_succ, List.set_cons_zero, List.set_cons_succ, List.map_cons, List.map_nil, List.length_cons, List.length_nil, List.replicate_succ, List.replicate_zero, List.cons_append, List.nil_append, isN, cnt_nil, cnt_cons, Bool.not_true, Bool.not_false, if_true, if_false, Option.map_some, Nat.reduceAdd, Nat.reduceSub, Nat.reduceLT, Nat.reduceLeDiff, Int.reduceLT, Bool.false_eq_true]
      refine hs _ _ _ _ h4 (by omega) fun z S' fr => ?_
      have g2 : S'[p]? = some (.lst [.ref c, .int (at_ + 1), .int val]) := fr.get0 (by rw [List.getElem?_set_self (lt_of_get h2)])
      have g3 : S'[c]? = some (.lst (cells.map D.int)) := fr.get0 (by rw [List.getElem?_set_ne (by omega)]; exact h3)
      simp only [Ok_ok, Ok_bind, x_nil, x_one, x_asg, x_exp, x_ret, x_retN, x_pas, x_brk, x_cnt, x_ife, nxQ_nx, nxQ_rt, nxQ_bk, nxQ_ct, rtQ_nx, rtQ_rt, d_var', gv_some, d_non, d_bl, d_int, d_str, d_glb, d_tup, d_lst, d_bin, d_cmp, d_neg, d_nt, d_isN, d_nsN, d_chn, d_and, d_or, d_ife, d_cal, d_bi, d_isi, d_mth, d_ix, d_sl, d_rvs, d_lrg, d_lc, l_nil, l_cons, o_nil, o_cons, oiD, negD, notD, i_rng, i_enm, i_zip, i_cons, g_var, g_tup, g_ix, gs_nil, gs_cons, b_add, b_sub, b_mul, b_modP, b_fdvP, b_pow, b_adds, b_addt, b_addl, b_mull, addL_eq, c_lt, c_le, c_gt, c_ge, c_eq, c_ne, eqO_f, eqO_t, eq_ii, eq_ss, bi_len, lenD_some, len_t, len_r, seqO_l, seqO_s, bi_int, bi_intb, bi_maxii, bi_minii, ofS_some, bi_listr, bi_listt, bi_tupr, bi_tupt, ixO_some, ix_t, ix_r, at_0, at_1, at_2, at_3, sl_t, sl_r, rv_r, set_r, Ok_lim, decide_eq_true_eq, Ok_tstN, Ok_tstP, Ok_tst, tst_t, tst_f, List.getElem?_cons_zero, List.getElem?_cons_succ, List.set_cons_zero, List.set_cons_succ, List.map_cons, List.map_nil, List.length_cons, List.length_nil, List.replicate_succ, List.replicate_zero, List.cons_append, List.nil_append, isN, cnt_nil, cnt_cons, Bool.not_true, Bool.not_false, if_true, if_false, Option.map_some, Nat.reduceAdd, Nat.reduceSub, Nat.reduceLT, Nat.reduceLeDiff, Int.reduceLT, Bool.false_eq_true, g2]
      rw [set3_2]
      refine fin _ _ _ ⟨c, cells, at_ + 1, z, h1, ?_, ?_, by omega, by omega, h6⟩ (((Fr.set (by simp)).trans fr.any).trans (.set (by simp)))
      · rw [List.getElem?_set_self (lt_of_get g2)]
      · rw [List.getElem?_set_ne (by omega)]; exact g3
    split
    · rename_i hlt
      obtain ⟨d, e1, e2⟩ := atI_int (ds := cells.map D.int) h4 (by rw [List.length_map]; exact hlt)
      obtain ⟨z, _, rfl⟩ := List.mem_map.mp e2
      simp only [Ok_ok, Ok_bind, x_nil, x_one, x_asg, x_exp, x_ret, x_retN, x_pas, x_brk, x_cnt, x_ife, nxQ_nx, nxQ_rt, nxQ_bk, nxQ_ct, rtQ_nx, rtQ_rt, d_var', gv_some, d_non, d_bl, d_int, d_str, d_glb, d_tup, d_lst, d_bin, d_cmp, d_neg, d_nt, d_isN, d_nsN, d_chn, d_and, d_or, d_ife, d_cal, d_bi, d_isi, d_mth, d_ix, d_sl, d_rvs, d_lrg, d_lc, l_nil, l_cons, o_nil, o_cons, oiD, negD, notD, i_rng, i_enm, i_zip, i_cons, g_var, g_tup, g_ix, gs_nil, gs_cons, b_add, b_sub, b_mul, b_modP, b_fdvP, b_pow, b_adds, b_addt, b_addl, b_mull, addL_eq, c_lt, c_le, c_gt, c_ge, c_eq, c_ne, eqO_f, eqO_t, eq_ii, eq_ss, bi_len, lenD_some, len_t, len_r, seqO_l, seqO_s, bi_int, bi_intb, bi_maxii, bi_minii, ofS_some, bi_listr, bi_listt, bi_tupr, bi_tupt, ixO_some, ix_t, ix_r, at_0, at_1, at_2, at_3, sl_t, sl_r, rv_r, set_r, Ok_lim, decide_eq_true_eq, Ok_tstN, Ok_tstP, Ok_tst, tst_t, tst_f, List.getElem?_cons_zero, List.getElem?_cons_succ, List.set_cons_zero, List.set_cons_succ, List.map_cons, List.map_nil, List.length_cons, List.length_nil, List.replicate_succ, List.replicate_zero, List.cons_append, List.nil_append, isN, cnt_nil, cnt_cons, Bool.not_true, Bool.not_false, if_true, if_false, Option.map_some, Nat.reduceAdd, Nat.reduceSub, Nat.reduceLT, Nat.reduceLeDiff, Int.reduceLT, Bool.false_eq_true, h2, h3, e1]
      exact go _
    · split
      · rename_i hpos
        obtain ⟨w0, w1⟩ := fmod_pos (i := at_ * 5 + 3) hpos
        obtain ⟨d, e1, e2⟩ := atI_int (ds := cells.map D.int) w0 (by rw [List.length_map]; exact w1)
        obtain ⟨z, _, rfl⟩ := List.mem_map.mp e2
        rw [if_pos (mulOk_r (by decide) (by decide))]
        simp only [Ok_ok, Ok_bind, x_nil, x_one, x_asg, x_exp, x_ret, x_retN, x_pas, x_brk, x_cnt, x_ife, nxQ_nx, nxQ_rt, nxQ_bk, nxQ_ct, rtQ_nx, rtQ_rt, d_var', gv_some, d_non, d_bl, d_int, d_str, d_glb, d_tup, d_lst, d_bin, d_cmp, d_neg, d_nt, d_isN, d_nsN, d_chn, d_and, d_or, d_ife, d_cal, d_bi, d_isi, d_mth, d_ix, d_sl, d_rvs, d_lrg, d_lc, l_nil, l_cons, o_nil, o_cons, oiD, negD, notD, i_rng, i_enm, i_zip, i_cons, g_var, g_tup, g_ix, gs_nil, gs_cons, b_add, b_sub, b_mul, b_modP, b_fdvP, b_pow, b_adds, b_addt, b_addl, b_mull, addL_eq, c_lt, c_le, c_gt, c_ge, c_eq, c_ne, eqO_f, eqO_t, eq_ii, eq_ss, bi_len, lenD_some, len_t, len_r, seqO_l, seqO_s, bi_int, bi_intb, bi_maxii, bi_minii, ofS_some, bi_listr, bi_listt, bi_tupr, bi_tupt, ixO_some, ix_t, ix_r, at_0, at_1, at_2, at_3, sl_t, sl_r, rv_r, set_r, Ok_lim, decide_eq_true_eq, Ok_tstN, Ok_tstP, Ok_tst, tst_t, tst_f, List.getElem?_cons_zero, List.getElem?_cons_succ, List.set_cons_zero, List.set_cons_succ, List.map_cons, List.map_nil, List.length_cons, List.length_nil, List.replicate_succ, List.replicate_zero, List.cons_append, List.nil_append, isN, cnt_nil, cnt_cons, Bool.not_true, Bool.not_false, if_true, if_false, Option.map_some, Nat.reduceAdd, Nat.reduceSub, Nat.reduceLT, Nat.reduceLeDiff, Int.reduceLT, Bool.false_eq_true, h3, e1, hpos]
        rw [show (10 : Int) ^ Int.toNat 17 = 100000000000000000 by decide, if_pos (by decide), b_modP (by omega)]
        exact go _
      · exact go _
  · exact fin _ _ _ ⟨c, cells, at_, val, h1, h2, h3, h4, by omega, h6⟩ .refl
theorem len_seq {S : Hs} {d : D} {ds : List D} (h : seqOf S d = some ds) : lenOf S d = some ds.length := by
  cases d with
  | tup xs => cases h; rfl
  | ref a => show (seqOf S (.ref a)).map List.length = _; rw [h]; rfl
  | _ => cases h
theorem ix_seq {S : Hs} {d : D} {ds : List D} {i : Int} {Q : D → Hs → Prop} (h : seqOf S d = some ds) : Ok (ixD S d (.int i)) Q = Ok (ixO S (L2.atI ds i)) Q := by
  cases d with
  | tup xs => cases h; exact ix_t
  | ref a => rw [ix_r]; rw [seq_r] at h; rw [h]; rfl
  | _ => cases h
theorem Fr.seq {mod : List Nat} {S S' : Hs} {d : D} {ds : List D} (f : Fr mod S S') (h : seqOf S d = some ds) (n : ∀ a ∈ mod, d ≠ .ref a) : seqOf S' d = some ds := by
  cases d with
  | tup xs => exact h
  | ref a =>
    rw [seq_r] at h ⊢
    cases e : S[a]? with
    | none => rw [e] at h; cases h
    | some o => rw [f.get e (fun z => n a z rfl), ← e]; exact h
  | _ => cases h
def OneOk (Φ : Nat → List D → Hs → R D) (i : Nat) : Prop := ∀ (p k : Nat) (s : D) (ds : List D) (S : Hs) (Q : D → Hs → Prop), Pen S p k → k ≤ 1048576 → seqOf S s = some ds → s ≠ .ref p → ds ≠ [] → ds.length < 1073741824 → (∀ d S', d ∈ ds → Pen S' p (k + 1) → Fr [p] S S' → Q d S') → Ok (Φ i [.ref p, s] S) Q
def OneStrOk (Φ : Nat → List D → Hs → R D) (i : Nat) : Prop := ∀ (p k : Nat) (x : PySem.Str) (S : Hs) (Q : D → Hs → Prop), Pen S p k → k ≤ 1048576 → 0 < x.length → x.length ≤ 1000000 → (∀ c S', c ∈ x.cps.toList → Pen S' p (k + 1) → Fr [p] S S' → Q (.str ⟨#[c]⟩) S') → Ok (Φ i [.ref p, .str x] S) Q
theorem one_ok {Φ : Nat → List D → Hs → R D} {G : Nat → D} {W i p k : Nat} {s : D} {ds : List D} {S : Hs} {Q : D → Hs → Prop} (ht : TakeOk Φ i) (hp : Pen S p k) (hk : k ≤ 1048576) (hs : seqOf S s = some ds) (np : s ≠ .ref p) (hne : ds ≠ []) (hl : ds.length < 1073741824)
    (q : ∀ d S', d ∈ ds → Pen S' p (k + 1) → Fr [p] S S' → Q d S') : Ok (exec Φ G W (B_law_one_of i) [some (.ref p), some s] S) (rtQ Q) := by
  unfold B_law_one_of
  simp only [Ok_ok, Ok_bind, x_nil, x_one, x_asg, x_exp, x_ret, x_retN, x_pas, x_brk, x_cnt, x_ife, nxQ_nx, nxQ_rt, nxQ_bk, nxQ_ct, rtQ_nx, rtQ_rt, d_var', gv_some, d_non, d_bl, d_int, d_str, d_glb, d_tup, d_lst, d_bin, d_cmp, d_neg, d_nt, d_isN, d_nsN, d_chn, d_and, d_or, d_ife, d_cal, d_bi, d_isi, d_mth, d_ix, d_sl, d_rvs, d_lrg, d_lc, l_nil, l_cons, o_nil, o_cons, oiD, negD, notD, i_rng, i_enm, i_zip, i_cons, g_var, g_tup, g_ix, gs_nil, gs_cons, b_add, b_sub, b_mul, b_modP, b_fdvP, b_pow, b_adds, b_addt, b_addl, b_mull, addL_eq, c_lt, c_le, c_gt, c_ge, c_eq, c_ne, eqO_f, eqO_t, eq_ii, eq_ss, bi_len, lenD_some, len_t, len_r, seqO_l, seqO_s, bi_int, bi_intb, bi_maxii, bi_minii, ofS_some, bi_listr, bi_listt, bi_tupr, bi_tupt, ixO_some, ix_t, ix_r, at_0, at_1, at_2, at_3, sl_t, sl_r, rv_r, set_r, Ok_lim, decide_eq_true_eq, Ok_tstN, Ok_tstP, Ok_tst, tst_t, tst_f, List.getElem?_cons_zero, List.getElem?_cons_succ, List.set_cons_zero, List.set_cons_succ, List.map_cons, List.map_nil, List.length_cons, List.length_nil, List.replicate_succ, List.replicate_zero, List.cons_append, List.nil_append, isN, cnt_nil, cnt_cons, Bool.not_true, Bool.not_false, if_true, if_false, Option.map_some, Nat.reduceAdd, Nat.reduceSub, Nat.reduceLT, Nat.reduceLeDiff, Int.reduceLT, Bool.false_eq_true]
  rw [len_seq hs]
  have h0 : 0 < ds.length := List.length_pos_iff.mpr hne
  refine ht _ _ _ _ _ hp hk (by omega) (by omega) fun z S' z0 z1 hp' fr => ?_
  have hs' := fr.seq hs (fun a ha => by rw [List.mem_singleton.mp ha]; exact np)
  obtain ⟨d, e1, e2⟩ := atI_int z0 z1
  rw [ix_seq hs', e1]
  exact q _ _ e2 hp' fr
theorem atI_intA {α : Type} {ds : List α} {i : Int} (h0 : 0 ≤ i) (h1 : i < ds.length) : ∃ d, L2.atI ds i = some d ∧ d ∈ ds := by
  obtain ⟨k, rfl⟩ := Int.eq_ofNat_of_zero_le h0
  have hk : k < ds.length := by omega
  refine ⟨ds[k], ?_, List.getElem_mem _⟩
  unfold L2.atI L2.ixN
  rw [if_pos h0, if_pos h1]
  simp [hk]
theorem one_str_ok {Φ : Nat → List D → Hs → R D} {G : Nat → D} {W i p k : Nat} {x : PySem.Str} {S : Hs} {Q : D → Hs → Prop} (ht : TakeOk Φ i) (hp : Pen S p k) (hk : k ≤ 1048576) (h0 : 0 < x.length) (hl : x.length ≤ 1000000)
    (q : ∀ c S', c ∈ x.cps.toList → Pen S' p (k + 1) → Fr [p] S S' → Q (.str ⟨#[c]⟩) S') : Ok (exec Φ G W (B_law_one_of i) [some (.ref p), some (.str x)] S) (rtQ Q) := by
  unfold B_law_one_of
  simp only [Ok_ok, Ok_bind, x_nil, x_one, x_asg, x_exp, x_ret, x_retN, x_pas, x_brk, x_cnt, x_ife, nxQ_nx, nxQ_rt, nxQ_bk, nxQ_ct, rtQ_nx, rtQ_rt, d_var', gv_some, d_non, d_bl, d_int, d_str, d_glb, d_tup, d_lst, d_bin, d_cmp, d_neg, d_nt, d_isN, d_nsN, d_chn, d_and, d_or, d_ife, d_cal, d_bi, d_isi, d_mth, d_ix, d_sl, d_rvs, d_lrg, d_lc, l_nil, l_cons, o_nil, o_cons, oiD, negD, notD, i_rng, i_enm, i_zip, i_cons, g_var, g_tup, g_ix, gs_nil, gs_cons, b_add, b_sub, b_mul, b_modP, b_fdvP, b_pow, b_adds, b_addt, b_addl, b_mull, addL_eq, c_lt, c_le, c_gt, c_ge, c_eq, c_ne, eqO_f, eqO_t, eq_ii, eq_ss, bi_len, lenD_some, len_t, len_r, seqO_l, seqO_s, bi_int, bi_intb, bi_maxii, bi_minii, ofS_some, bi_listr, bi_listt, bi_tupr, bi_tupt, ixO_some, ix_t, ix_r, at_0, at_1, at_2, at_3, sl_t, sl_r, rv_r, set_r, Ok_lim, decide_eq_true_eq, Ok_tstN, Ok_tstP, Ok_tst, tst_t, tst_f, List.getElem?_cons_zero, List.getElem?_cons_succ, List.set_cons_zero, List.set_cons_succ, List.map_cons, List.map_nil, List.length_cons, List.length_nil, List.replicate_succ, List.replicate_zero, List.cons_append, List.nil_append, isN, cnt_nil, cnt_cons, Bool.not_true, Bool.not_false, if_true, if_false, Option.map_some, Nat.reduceAdd, Nat.reduceSub, Nat.reduceLT, Nat.reduceLeDiff, Int.reduceLT, Bool.false_eq_true, len_s hl]
  refine ht _ _ _ _ _ hp hk (by omega) (by omega) fun z S' z0 z1 hp' fr => ?_
  obtain ⟨c, e1, e2⟩ := atI_intA (ds := x.cps.toList) z0 (by have : x.length = x.cps.toList.length := by rw [Array.length_toList]; rfl
                                                             omega)
  rw [ix_s hl, e1]
  exact q _ _ e2 hp' fr
theorem cutD_mem {α : Type} {xs : List α} {lo hi : Option Int} {x : α} (h : x ∈ cutD xs lo hi) : x ∈ xs := List.mem_of_mem_drop (List.mem_of_mem_take h)
def OpenOk (Φ : Nat → List D → Hs → R D) (i : Nat) : Prop := ∀ (s : Nat) (ns : List Int) (S : Hs) (Q : D → Hs → Prop), S[s]? = some (.scr (ns.map D.int)) → ns.length ≤ 63 → (∀ p S', S.length ≤ p → Pen S' p 0 → Fr [] S S' → Q (.ref p) S') → Ok (Φ i [.ref s] S) Q
theorem ints_of_mem {ds : List D} {ns : List Int} (h : ∀ d ∈ ds, d ∈ ns.map D.int) : ∃ ms : List Int, ds = ms.map D.int := by
  induction ds with
  | nil => exact ⟨[], rfl⟩
  | cons d ds ih =>
    obtain ⟨z, _, rfl⟩ := List.mem_map.mp (h d (by simp))
    obtain ⟨ms, rfl⟩ := ih fun d hd => h d (by simp [hd])
    exact ⟨z :: ms, rfl⟩
theorem open_ok {Φ : Nat → List D → Hs → R D} {G : Nat → D} {W s : Nat} {ns : List Int} {S : Hs} {Q : D → Hs → Prop} (hs : S[s]? = some (.scr (ns.map D.int))) (hn : ns.length ≤ 63) (q : ∀ p S', S.length ≤ p → Pen S' p 0 → Fr [] S S' → Q (.ref p) S') :
    Ok (exec Φ G W B_law_open [some (.ref s), none, none, none] S) (rtQ Q) := by
  unfold B_law_open
  refine x_step fun K hK => ?_
  simp only [Ok_ok, Ok_bind, x_nil, x_one, x_asg, x_exp, x_ret, x_retN, x_pas, x_brk, x_cnt, x_ife, nxQ_nx, nxQ_rt, nxQ_bk, nxQ_ct, rtQ_nx, rtQ_rt, d_var', gv_some, d_non, d_bl, d_int, d_str, d_glb, d_tup, d_lst, d_bin, d_cmp, d_neg, d_nt, d_isN, d_nsN, d_chn, d_and, d_or, d_ife, d_cal, d_bi, d_isi, d_mth, d_ix, d_sl, d_rvs, d_lrg, d_lc, l_nil, l_cons, o_nil, o_cons, oiD, negD, notD, i_rng, i_enm, i_zip, i_cons, g_var, g_tup, g_ix, gs_nil, gs_cons, b_add, b_sub, b_mul, b_modP, b_fdvP, b_pow, b_adds, b_addt, b_addl, b_mull, addL_eq, c_lt, c_le, c_gt, c_ge, c_eq, c_ne, eqO_f, eqO_t, eq_ii, eq_ss, bi_len, lenD_some, len_t, len_r, seqO_l, seqO_s, bi_int, bi_intb, bi_maxii, bi_minii, ofS_some, bi_listr, bi_listt, bi_tupr, bi_tupt, ixO_some, ix_t, ix_r, at_0, at_1, at_2, at_3, sl_t, sl_r, rv_r, set_r, Ok_lim, decide_eq_true_eq, Ok_tstN, Ok_tstP, Ok_tst, tst_t, tst_f, List.getElem?_cons_zero, List.getElem?_cons_succ, List.set_cons_zero, List.set_cons_succ, List.map_cons, List.map_nil, List.length_cons, List.length_nil, List.replicate_succ, List.replicate_zero, List.cons_append, List.nil_append, isN, cnt_nil, cnt_cons, Bool.not_true, Bool.not_false, if_true, if_false, Option.map_some, Nat.reduceAdd, Nat.reduceSub, Nat.reduceLT, Nat.reduceLeDiff, Int.reduceLT, Bool.false_eq_true, hs]
  refine Ok_newA fun a S1 ha ea ela f1 => ?_
  simp only [ha, Ok_ok, Ok_bind, x_nil, x_one, x_asg, x_exp, x_ret, x_retN, x_pas, x_brk, x_cnt, x_ife, nxQ_nx, nxQ_rt, nxQ_bk, nxQ_ct, rtQ_nx, rtQ_rt, d_var', gv_some, d_non, d_bl, d_int, d_str, d_glb, d_tup, d_lst, d_bin, d_cmp, d_neg, d_nt, d_isN, d_nsN, d_chn, d_and, d_or, d_ife, d_cal, d_bi, d_isi, d_mth, d_ix, d_sl, d_rvs, d_lrg, d_lc, l_nil, l_cons, o_nil, o_cons, oiD, negD, notD, i_rng, i_enm, i_zip, i_cons, g_var, g_tup, g_ix, gs_nil, gs_cons, b_add, b_sub, b_mul, b_modP, b_fdvP, b_pow, b_adds, b_addt, b_addl, b_mull, addL_eq, c_lt, c_le, c_gt, c_ge, c_eq, c_ne, eqO_f, eqO_t, eq_ii, eq_ss, bi_len, lenD_some, len_t, len_r, seqO_l, seqO_s, bi_int, bi_intb, bi_maxii, bi_minii, ofS_some, bi_listr, bi_listt, bi_tupr, bi_tupt, ixO_some, ix_t, ix_r, at_0, at_1, at_2, at_3, sl_t, sl_r, rv_r, set_r, Ok_lim, decide_eq_true_eq, Ok_tstN, Ok_tstP, Ok_tst, tst_t, tst_f, List.getElem?_cons_zero, List.getElem?_cons_succ, List.set_cons_zero, List.set_cons_succ, List.map_cons, List.map_nil, List.length_cons, List.length_nil, List.replicate_succ, List.replicate_zero, List.cons_append, List.nil_append, isN, cnt_nil, cnt_cons, Bool.not_true, Bool.not_false, if_true, if_false, Option.map_some, Nat.reduceAdd, Nat.reduceSub, Nat.reduceLT, Nat.reduceLeDiff, Int.reduceLT, Bool.false_eq_true]
  refine Ok_newA fun c S2 hc ec elc f2 => ?_
  obtain ⟨ms, hms⟩ := ints_of_mem (ds := cutD (ns.map D.int) none (some 12)) (ns := ns) fun d hd => cutD_mem hd
  have hcut : ∀ i : Nat, i < (cutD (ns.map D.int) (some 12) (some 63)).length → ms.length = 12 := by
    intro i hi
    have e := congrArg List.length hms
    have e63 : sIx (ns.map D.int).length (ns.map D.int).length (some 63) ≤ (ns.map D.int).length := sIx_le _ _ (Nat.le_refl _) _
    have e12 : sIx (ns.map D.int).length 0 (some 12) = min 12 (ns.map D.int).length := sIx_nat _ _ 12
    have e12' : sIx (ns.map D.int).length (ns.map D.int).length (some 12) = min 12 (ns.map D.int).length := sIx_nat _ _ 12
    have e0 : sIx (ns.map D.int).length 0 none = 0 := sIx_none _ _
    simp only [cutD, List.length_take, List.length_drop, List.length_map] at hi e e63 e12 e12' e0
    rw [e12', e0] at e
    rw [e12] at hi
    omega
  rw [hms] at hc
  refine hK _ _ (x_step fun K hK => ?_)
  rw [x_for]
  simp only [Ok_ok, Ok_bind, x_nil, x_one, x_asg, x_exp, x_ret, x_retN, x_pas, x_brk, x_cnt, x_ife, nxQ_nx, nxQ_rt, nxQ_bk, nxQ_ct, rtQ_nx, rtQ_rt, d_var', gv_some, d_non, d_bl, d_int, d_str, d_glb, d_tup, d_lst, d_bin, d_cmp, d_neg, d_nt, d_isN, d_nsN, d_chn, d_and, d_or, d_ife, d_cal, d_bi, d_isi, d_mth, d_ix, d_sl, d_rvs, d_lrg, d_lc, l_nil, l_cons, o_nil, o_cons, oiD, negD, notD, i_rng, i_enm, i_zip, i_cons, g_var, g_tup, g_ix, gs_nil, gs_cons, b_add, b_sub, b_mul, b_modP, b_fdvP, b_pow, b_adds, b_addt, b_addl, b_mull, addL_eq, c_lt, c_le, c_gt, c_ge, c_eq, c_ne, eqO_f, eqO_t, eq_ii, eq_ss, bi_len, lenD_some, len_t, len_r, seqO_l, seqO_s, bi_int, bi_intb, bi_maxii, bi_minii, ofS_some, bi_listr, bi_listt, bi_tupr, bi_tupt, ixO_some, ix_t, ix_r, at_0, at_1, at_2, at_3, sl_t, sl_r, rv_r, set_r, Ok_lim, decide_eq_true_eq, Ok_tstN, Ok_tstP, Ok_tst, tst_t, tst_f, List.getElem?_cons_zero, List.getElem?_cons_succ, List.set_cons_zero, List.set_cons_succ, List.map_cons, List.map_nil, List.length_cons, List.length_nil, List.replicate_succ, List.replicate_zero, List.cons_append, List.nil_append, isN, cnt_nil, cnt_cons, Bool.not_true, Bool.not_false, if_true, if_false, Option.map_some, Nat.reduceAdd, Nat.reduceSub, Nat.reduceLT, Nat.reduceLeDiff, Int.reduceLT, Bool.false_eq_true, f2.get0 (f1.get0 hs)]
  refine Ok_newA fun b S3 hb eb elb f3 => ?_
  rw [en_l hb]
  have hcb : c ≠ b := by omega
  refine forGo_ok (fun k ρ S' => ∃ (xs : List Int) (u v : Option D), ρ = [some (.ref s), some (.ref c), u, v] ∧ S'[c]? = some (.lst (xs.map D.int)) ∧ xs.length = ms.length ∧ S'[b]? = some (.lst (cutD (ns.map D.int) (some 12) (some 63))) ∧ S'.length = S3.length ∧ Fr [] S S')
    ⟨ms, none, none, rfl, f3.get0 hc, rfl, hb, rfl, (f1.trans f2).trans f3⟩ (fun k ρ S' _ h => ?_) (fun k d ρ S' hd h => ?_) fun ρ S' h => ?_
  · obtain ⟨xs, u, v, rfl, h1, h2, h3, h4, h5⟩ := h
    exact held_l h3
  · obtain ⟨xs, u, v, rfl, h1, h2, h3, h4, h5⟩ := h
    rw [numbered_get] at hd
    cases e : (cutD (ns.map D.int) (some 12) (some 63))[k]? with
    | none => rw [e] at hd; cases hd
    | some x =>
      rw [e] at hd
      cases hd
      obtain ⟨z, _, rfl⟩ := List.mem_map.mp (cutD_mem (List.mem_of_getElem? e))
      have hlen := hcut k (List.getElem?_eq_some_iff.mp e).1
      simp only [Ok_ok, Ok_bind, x_nil, x_one, x_asg, x_exp, x_ret, x_retN, x_pas, x_brk, x_cnt, x_ife, nxQ_nx, nxQ_rt, nxQ_bk, nxQ_ct, rtQ_nx, rtQ_rt, d_var', gv_some, d_non, d_bl, d_int, d_str, d_glb, d_tup, d_lst, d_bin, d_cmp, d_neg, d_nt, d_isN, d_nsN, d_chn, d_and, d_or, d_ife, d_cal, d_bi, d_isi, d_mth, d_ix, d_sl, d_rvs, d_lrg, d_lc, l_nil, l_cons, o_nil, o_cons, oiD, negD, notD, i_rng, i_enm, i_zip, i_cons, g_var, g_tup, g_ix, gs_nil, gs_cons, b_add, b_sub, b_mul, b_modP, b_fdvP, b_pow, b_adds, b_addt, b_addl, b_mull, addL_eq, c_lt, c_le, c_gt, c_ge, c_eq, c_ne, eqO_f, eqO_t, eq_ii, eq_ss, bi_len, lenD_some, len_t, len_r, seqO_l, seqO_s, bi_int, bi_intb, bi_maxii, bi_minii, ofS_some, bi_listr, bi_listt, bi_tupr, bi_tupt, ixO_some, ix_t, ix_r, at_0, at_1, at_2, at_3, sl_t, sl_r, rv_r, set_r, Ok_lim, decide_eq_true_eq, Ok_tstN, Ok_tstP, Ok_tst, tst_t, tst_f, List.getElem?_cons_zero, List.getElem?_cons_succ, List.set_cons_zero, List.set_cons_succ, List.map_cons, List.map_nil, List.length_cons, List.length_nil, List.replicate_succ, List.replicate_zero, List.cons_append, List.nil_append, isN, cnt_nil, cnt_cons, Bool.not_true, Bool.not_false, if_true, if_false, Option.map_some, Nat.reduceAdd, Nat.reduceSub, Nat.reduceLT, Nat.reduceLeDiff, Int.reduceLT, Bool.false_eq_true]
      have w := fmod_pos (i := ((0 + k : Nat) : Int)) (j := 12) (by decide)
      obtain ⟨j, hj⟩ := Int.eq_ofNat_of_zero_le w.1
      obtain ⟨d, e1, e2⟩ := atI_int (ds := xs.map D.int) w.1 (by rw [List.length_map, h2, hlen]; exact w.2)
      obtain ⟨y, _, rfl⟩ := List.mem_map.mp e2
      simp only [Ok_ok, Ok_bind, x_nil, x_one, x_asg, x_exp, x_ret, x_retN, x_pas, x_brk, x_cnt, x_ife, nxQ_nx, nxQ_rt, nxQ_bk, nxQ_ct, rtQ_nx, rtQ_rt, d_var', gv_some, d_non, d_bl, d_int, d_str, d_glb, d_tup, d_lst, d_bin, d_cmp, d_neg, d_nt, d_isN, d_nsN, d_chn, d_and, d_or, d_ife, d_cal, d_bi, d_isi, d_mth, d_ix, d_sl, d_rvs, d_lrg, d_lc, l_nil, l_cons, o_nil, o_cons, oiD, negD, notD, i_rng, i_enm, i_zip, i_cons, g_var, g_tup, g_ix, gs_nil, gs_cons, b_add, b_sub, b_mul, b_modP, b_fdvP, b_pow, b_adds, b_addt, b_addl, b_mull, addL_eq, c_lt, c_le, c_gt, c_ge, c_eq, c_ne, eqO_f, eqO_t, eq_ii, eq_ss, bi_len, lenD_some, len_t, len_r, seqO_l, seqO_s, bi_int, bi_intb, bi_maxii, bi_minii, ofS_some, bi_listr, bi_listt, bi_tupr, bi_tupt, ixO_some, ix_t, ix_r, at_0, at_1, at_2, at_3, sl_t, sl_r, rv_r, set_r, Ok_lim, decide_eq_true_eq, Ok_tstN, Ok_tstP, Ok_tst, tst_t, tst_f, List.getElem?_cons_zero, List.getElem?_cons_succ, List.set_cons_zero, List.set_cons_succ, List.map_cons, List.map_nil, List.length_cons, List.length_nil, List.replicate_succ, List.replicate_zero, List.cons_append, List.nil_append, isN, cnt_nil, cnt_cons, Bool.not_true, Bool.not_false, if_true, if_false, Option.map_some, Nat.reduceAdd, Nat.reduceSub, Nat.reduceLT, Nat.reduceLeDiff, Int.reduceLT, Bool.false_eq_true, h1, e1]
      have hx : L2.ixN (xs.map D.int).length (((0 + k : Nat) : Int).fmod 12) = some j := by
        rw [hj]
        rw [hj] at w
        unfold L2.ixN
        rw [if_pos (Int.natCast_nonneg j), if_pos (by rw [List.length_map, h2, hlen]; exact w.2)]; simp
      rw [setO_eq hx]
      refine ⟨xs.set j (y + z), _, _, rfl, ?_, by rw [List.length_set]; exact h2, ?_, by rw [List.length_set]; exact h4, h5.since (j := c) (.set (by simp)) (by have := f1.1; omega)⟩
      · rw [List.getElem?_set_self (lt_of_get h1), List.map_set]
      · rw [List.getElem?_set_ne hcb]; exact h3
  · obtain ⟨xs, u, v, rfl, h1, h2, h3, h4, h5⟩ := h
    refine hK _ _ ?_
    simp only [Ok_ok, Ok_bind, x_nil, x_one, x_asg, x_exp, x_ret, x_retN, x_pas, x_brk, x_cnt, x_ife, nxQ_nx, nxQ_rt, nxQ_bk, nxQ_ct, rtQ_nx, rtQ_rt, d_var', gv_some, d_non, d_bl, d_int, d_str, d_glb, d_tup, d_lst, d_bin, d_cmp, d_neg, d_nt, d_isN, d_nsN, d_chn, d_and, d_or, d_ife, d_cal, d_bi, d_isi, d_mth, d_ix, d_sl, d_rvs, d_lrg, d_lc, l_nil, l_cons, o_nil, o_cons, oiD, negD, notD, i_rng, i_enm, i_zip, i_cons, g_var, g_tup, g_ix, gs_nil, gs_cons, b_add, b_sub, b_mul, b_modP, b_fdvP, b_pow, b_adds, b_addt, b_addl, b_mull, addL_eq, c_lt, c_le, c_gt, c_ge, c_eq, c_ne, eqO_f, eqO_t, eq_ii, eq_ss, bi_len, lenD_some, len_t, len_r, seqO_l, seqO_s, bi_int, bi_intb, bi_maxii, bi_minii, ofS_some, bi_listr, bi_listt, bi_tupr, bi_tupt, ixO_some, ix_t, ix_r, at_0, at_1, at_2, at_3, sl_t, sl_r, rv_r, set_r, Ok_lim, decide_eq_true_eq, Ok_tstN, Ok_tstP, Ok_tst, tst_t, tst_f, List.getElem?_cons_zero, List.getElem?_cons_succ, List.set_cons_zero, List.set_cons_succ, List.map_cons, List.map_nil, List.length_cons, List.length_nil, List.replicate_succ, List.replicate_zero, List.cons_append, List.nil_append, isN, cnt_nil, cnt_cons, Bool.not_true, Bool.not_false, if_true, if_false, Option.map_some, Nat.reduceAdd, Nat.reduceSub, Nat.reduceLT, Nat.reduceLeDiff, Int.reduceLT, Bool.false_eq_true]
    refine Ok_newA fun p S4 hp ep elp f4 => ?_
    have hcl : ms.length ≤ 63 := by
      have e := congrArg List.length hms
      simp only [cutD, List.length_take, List.length_drop, List.length_map] at e
      omega
    exact q _ _ (by have := h5.1; omega) ⟨c, xs, 0, 0, by have := lt_of_get h1; omega, hp, f4.get0 h1, by omega, by omega, by omega⟩ (h5.trans f4)
end RS

namespace RS
open PySem
/-! ### values alike in kind and worth -/
def B_law_same (c_law_same : Nat) : C :=
  (.cons (.ife (.or (.isN (.var 1)) (.isN (.var 0)))
      (.cons (.ret (.and (.isN (.var 1)) (.isN (.var 0))))
      .nil)
      .nil)
  (.cons (.ife (.or (.isi [.bool] (.var 1)) (.isi [.bool] (.var 0)))
      (.cons (.ret (.and (.isi [.bool] (.var 1)) (.and (.isi [.bool] (.var 0)) (.cmp .eq (.var 0) (.var 1)))))
      .nil)
      .nil)
  (.cons (.ife (.isi [.int, .str] (.var 1))
      (.cons (.ife (.cmp .ne (.isi [.int] (.var 0)) (.isi [.int] (.var 1)))
          (.cons (.ret (.bl false))
          .nil)
          .nil)
      (.cons (.ret (.and (.isi [.int, .str] (.var 0)) (.cmp .eq (.var 0) (.var 1))))
      .nil))
      .nil)
  (.cons (.ife (.or (.cmp .ne (.isi [.tuple] (.var 1)) (.isi [.tuple] (.var 0))) (.cmp .ne (.isi [.list] (.var 1)) (.isi [.list] (.var 0))))
      (.cons (.ret (.bl false))
      .nil)
      .nil)
  (.cons (.ife (.cmp .ne (.bi .len (.cons (.var 0) .nil)) (.bi .len (.cons (.var 1) .nil)))
      (.cons (.ret (.bl false))
      .nil)
      .nil)
  (.cons (.ret (.cmp .nmem (.bl false) (.lc [2, 3] (.cal c_law_same (.cons (.var 2) (.cons (.var 3) .nil))) (.tup (.cons (.var 2) (.cons (.var 3) .nil))) (.zip false (.cons (.var 0) (.cons (.var 1) .nil))) (.bl true))))
  .nil))))))

theorem mapO_eq {α β : Type} {f g : α → Option β} {as : List α} {bs : List β} (h : mapO f as = some bs) (e : ∀ a ∈ as, ∀ b, f a = some b → g a = some b) : mapO g as = some bs := by
  induction as generalizing bs with
  | nil => simpa [mapO] using h
  | cons a as ih =>
    simp only [mapO] at h ⊢
    cases e1 : f a with
    | none => rw [e1] at h; cases h
    | some b =>
      cases e2 : mapO f as with
      | none => rw [e1, e2] at h; cases h
      | some cs =>
        rw [e1, e2] at h
        rw [e a (by simp) b e1, ih e2 fun x hx => e x (by simp [hx])]
        exact h
theorem mapO_len {α β : Type} {f : α → Option β} : ∀ {as : List α} {bs : List β}, mapO f as = some bs → bs.length = as.length
  | [], bs, h => by simp [mapO] at h; subst h; rfl
  | a :: as, bs, h => by
    simp only [mapO] at h
    cases e1 : f a with
    | none => rw [e1] at h; cases h
    | some b =>
      cases e2 : mapO f as with
      | none => rw [e1, e2] at h; cases h
      | some cs => rw [e1, e2] at h; cases h; simp [mapO_len e2]
theorem mapO_get {α β : Type} {f : α → Option β} : ∀ {as : List α} {bs : List β} {i : Nat} {a : α}, mapO f as = some bs → as[i]? = some a → ∃ b, bs[i]? = some b ∧ f a = some b
  | [], bs, i, a, h, e => by simp at e
  | x :: as, bs, i, a, h, e => by
    simp only [mapO] at h
    cases e1 : f x with
    | none => rw [e1] at h; cases h
    | some b =>
      cases e2 : mapO f as with
      | none => rw [e1, e2] at h; cases h
      | some cs =>
        rw [e1, e2] at h
        cases h
        cases i with
        | zero => simp at e; subst e; exact ⟨b, rfl, e1⟩
        | succ i => simp at e; simpa using mapO_get e2 e
theorem pdat_fr {S S' : Hs} (f : Fr [] S S') : ∀ (n : Nat) (d : D) (p : PyData), pdat S n d = some p → pdat S' n d = some p
  | 0, d, p, h => by simp [pdat] at h
  | n + 1, .non, p, h => by simpa only [pdat] using h
  | n + 1, .bl _, p, h => by simpa only [pdat] using h
  | n + 1, .int _, p, h => by simpa only [pdat] using h
  | n + 1, .str _, p, h => by simpa only [pdat] using h
  | n + 1, .tup ds, p, h => by
    simp only [pdat] at h ⊢
    obtain ⟨ps, h1, rfl⟩ := Option.map_eq_some_iff.mp h
    rw [mapO_eq h1 fun a _ b hb => pdat_fr f n a b hb]; rfl
  | n + 1, .ref a, p, h => by
    simp only [pdat] at h ⊢
    cases e : S[a]? with
    | none => rw [e] at h; cases h
    | some o =>
      rw [e] at h
      rw [f.get0 e]
      cases o with
      | lst ds =>
        obtain ⟨ps, h1, rfl⟩ := Option.map_eq_some_iff.mp h
        show (mapO (pdat S' n) ds).map PyData.list = _
        rw [mapO_eq h1 fun a _ b hb => pdat_fr f n a b hb]; rfl
      | scr ds =>
        obtain ⟨ps, h1, rfl⟩ := Option.map_eq_some_iff.mp h
        show (mapO (pdat S' n) ds).map PyData.list = _
        rw [mapO_eq h1 fun a _ b hb => pdat_fr f n a b hb]; rfl
      | _ => cases h
/-- the kinds of data -/
inductive Kd (S : Hs) (n : Nat) : D → PyData → Prop
  | non : Kd S n .non .none
  | bl (b : Bool) : Kd S n (.bl b) (.bool b)
  | int (i : Int) : Kd S n (.int i) (.int i)
  | str (s : Str) : Kd S n (.str s) (.str s)
  | tup (ds : List D) (ps : List PyData) : mapO (pdat S n) ds = some ps → Kd S n (.tup ds) (.tuple ps)
  | lst (a : Nat) (ds : List D) (ps : List PyData) : (S[a]? = some (.lst ds) ∨ S[a]? = some (.scr ds)) → mapO (pdat S n) ds = some ps → Kd S n (.ref a) (.list ps)
theorem kd_of {S : Hs} {n : Nat} {d : D} {p : PyData} (h : pdat S (n + 1) d = some p) : Kd S n d p := by
  cases d with
  | non => cases h; exact .non
  | bl b => cases h; exact .bl b
  | int i => cases h; exact .int i
  | str s => cases h; exact .str s
  | tup ds =>
    simp only [pdat] at h
    obtain ⟨ps, h1, rfl⟩ := Option.map_eq_some_iff.mp h
    exact .tup ds ps h1
  | ref a =>
    simp only [pdat] at h
    cases e : S[a]? with
    | none => rw [e] at h; cases h
    | some o =>
      rw [e] at h
      cases o with
      | lst ds =>
        obtain ⟨ps, h1, rfl⟩ := Option.map_eq_some_iff.mp h
        exact .lst a ds ps (.inl e) h1
      | scr ds =>
        obtain ⟨ps, h1, rfl⟩ := Option.map_eq_some_iff.mp h
        exact .lst a ds ps (.inr e) h1
      | _ => cases h
theorem prs_get : ∀ {xs ys : List D} {i : Nat} {d : D}, (pairsUp xs ys)[i]? = some d → ∃ x y, xs[i]? = some x ∧ ys[i]? = some y ∧ d = .tup [x, y]
  | [], _, i, d, h => by simp [pairsUp] at h
  | _ :: _, [], i, d, h => by simp [pairsUp] at h
  | x :: xs, y :: ys, 0, d, h => by simp [pairsUp] at h; exact ⟨x, y, rfl, rfl, h.symm⟩
  | x :: xs, y :: ys, i + 1, d, h => by simp [pairsUp] at h; simpa using prs_get h
theorem prs_len : ∀ {xs ys : List D}, xs.length = ys.length → (pairsUp xs ys).length = xs.length
  | [], ys, h => by simp [pairsUp]
  | x :: xs, [], h => by simp at h
  | x :: xs, y :: ys, h => by simp [pairsUp, prs_len (by simpa using h)]
mutual
def smallP : PyData → Bool
  | .list xs => decide (xs.length ≤ 1000000) && smallAll xs
  | .tuple xs => decide (xs.length ≤ 1000000) && smallAll xs
  | .none => true
  | .bool _ => true
  | .int _ => true
  | .str _ => true
  | .dict _ => true
def smallAll : List PyData → Bool
  | [] => true
  | x :: xs => smallP x && smallAll xs
end
theorem smallAll_mem : ∀ {ps : List PyData} {p : PyData}, smallAll ps = true → p ∈ ps → smallP p = true
  | x :: xs, p, h, hm => by
    simp only [smallAll, Bool.and_eq_true] at h
    rcases List.mem_cons.mp hm with e | e
    · rw [e]; exact h.1
    · exact smallAll_mem h.2 e
/-- what the def says of any two data, n deep -/
def SameOk (Φ : Nat → List D → Hs → R D) (i n : Nat) : Prop := ∀ (x y : D) (p r : PyData) (S : Hs) (Q : D → Hs → Prop), pdat S n x = some p → pdat S n y = some r → smallP p = true → (∀ b S', (b = true ↔ p = r) → Fr [] S S' → Q (.bl b) S') → Ok (Φ i [x, y] S) Q
theorem eqD_bb {S : Hs} {a b : Bool} : eqD S (.bl a) (.bl b) = some (a == b) := by cases a <;> cases b <;> rfl
theorem same_items {Φ : Nat → List D → Hs → R D} {G : Nat → D} {i n : Nat} {gs : List (Nat × List D)} {xs ys : List D} {ps rs : List PyData} {S : Hs} {ρ : Rho} {Q : D → Hs → Prop} (hΦ : SameOk Φ i n) (hx : mapO (pdat S n) xs = some ps) (hy : mapO (pdat S n) ys = some rs) (hl : xs.length = ys.length) (hs : xs.length ≤ 1000000) (hsm : smallAll ps = true) (hg : ∀ S', Fr [] S S' → held S' gs = true) (hρ : ∃ a b c d, ρ = [a, b, c, d])
    (q : ∀ b S', (b = true ↔ ps = rs) → Fr [] S S' → Q (.bl b) S') :
    Ok (lcGo gs (lcT Φ G [2, 3] (.cal i (.cons (.var 2) (.cons (.var 3) .nil))) (.tup (.cons (.var 2) (.cons (.var 3) .nil))) (.bl true) ρ) (pairsUp xs ys) S) fun r S2 => Ok (lim (pairsUp xs ys).length (newO (.lst r) S2)) fun y S2 => Ok (cmpD S2 .nmem (.bl false) y) Q := by
  obtain ⟨a, b, c, d, rfl⟩ := hρ
  have hpl := mapO_len hx
  have hrl := mapO_len hy
  refine lcGo_ok (fun (k : Nat) (r : List D) (S' : Hs) => Fr [] S S' ∧ ∃ bs : List Bool, r = bs.map D.bl ∧ bs.length = k ∧ ∀ (j : Nat) (b : Bool), bs[j]? = some b → (b = true ↔ ps[j]? = rs[j]?)) ⟨.refl, [], rfl, rfl, fun j b h => by cases h⟩ (fun k r S' _ h => hg S' h.1) (fun k d r S' hd h => ?_) (fun r S' h => ?_)
  · obtain ⟨f, bs, rfl, hk, hb⟩ := h
    obtain ⟨x, y, h1, h2, rfl⟩ := prs_get hd
    obtain ⟨p, hp, hp'⟩ := mapO_get hx h1
    obtain ⟨r, hr, hr'⟩ := mapO_get hy h2
    rw [lcT_eq]
    simp only [wipeR, Ok_ok, Ok_bind, x_nil, x_one, x_asg, x_exp, x_ret, x_retN, x_pas, x_brk, x_cnt, x_ife, nxQ_nx, nxQ_rt, nxQ_bk, nxQ_ct, rtQ_nx, rtQ_rt, d_var', gv_some, d_non, d_bl, d_int, d_str, d_glb, d_tup, d_lst, d_bin, d_cmp, d_neg, d_nt, d_isN, d_nsN, d_chn, d_and, d_or, d_ife, d_cal, d_bi, d_isi, d_mth, d_ix, d_sl, d_rvs, d_lrg, d_lc, l_nil, l_cons, o_nil, o_cons, oiD, negD, notD, i_rng, i_enm, i_zip, i_cons, g_var, g_tup, g_ix, gs_nil, gs_cons, b_add, b_sub, b_mul, b_modP, b_fdvP, b_pow, b_adds, b_addt, b_addl, addL_eq, c_lt, c_le, c_gt, c_ge, c_eq, c_ne, eqO_f, eqO_t, eq_ii, eq_ss, bi_len, lenD_some, len_t, len_r, seqO_l, seqO_s, bi_int, bi_intb, bi_maxii, bi_minii, ofS_some, bi_listr, bi_listt, bi_tupr, bi_tupt, ixO_some, ix_t, ix_r, at_0, at_1, at_2, at_3, sl_t, sl_r, rv_r, set_r, Ok_lim, decide_eq_true_eq, Ok_tstN, Ok_tstP, Ok_tst, tst_t, tst_f, List.getElem?_cons_zero, List.getElem?_cons_succ, List.set_cons_zero, List.set_cons_succ, List.map_cons, List.map_nil, List.length_cons, List.length_nil, List.replicate_succ, List.replicate_zero, List.cons_append, List.nil_append, isN, cnt_nil, cnt_cons, Bool.not_true, Bool.not_false, if_true, if_false, Option.map_some, Nat.reduceAdd, Nat.reduceSub, Nat.reduceLT, Nat.reduceLeDiff, Int.reduceLT, Bool.false_eq_true]
    refine hΦ _ _ p r _ _ (pdat_fr f _ _ _ hp') (pdat_fr f _ _ _ hr') (smallAll_mem hsm (List.mem_of_getElem? hp)) fun b S2 e f2 => ?_
    refine ⟨f.trans f2, bs ++ [b], by simp, by simp [hk], fun j b' hj => ?_⟩
    by_cases hjk : j < bs.length
    · rw [List.getElem?_append_left hjk] at hj
      exact hb j b' hj
    · rw [List.getElem?_append_right (by omega)] at hj
      have : j = k := by
        have := (List.getElem?_eq_some_iff.mp hj).1
        simp at this
        omega
      subst this
      rw [hk, Nat.sub_self] at hj
      simp at hj
      subst hj
      rw [hp, hr, e]
      simp
  · obtain ⟨f, bs, rfl, hk, hb⟩ := h
    rw [prs_len hl] at hk ⊢
    rw [Ok_lim hs]
    refine Ok_newA fun e S2 he _ _ f2 => ?_
    have hm : cmpD S2 .nmem (.bl false) (.ref e) = .ok (.bl (true != (bs.map D.bl).any fun z => eqF z (.bl false))) S2 := by
      show memD S2 true (.bl false) (.ref e) = _
      unfold memD
      simp only [seq_r, he, seqO_l]
      rw [if_pos]
      simp [flatD]
    rw [hm]
    refine q _ _ ?_ (f.trans f2)
    have hany : ((bs.map D.bl).any fun z => eqF z (.bl false)) = bs.any fun z => !z := by
      rw [List.any_map]
      congr 1
      funext z
      cases z <;> rfl
    rw [hany]
    constructor
    · intro h
      refine List.ext_getElem? fun j => ?_
      by_cases hj : j < bs.length
      · have h2 := hb j bs[j] (List.getElem?_eq_getElem hj)
        refine h2.mp ?_
        by_cases z : bs[j] = true
        · exact z
        · have : (bs.any fun z => !z) = true := List.any_eq_true.mpr ⟨bs[j], List.getElem_mem _, by simp [z]⟩
          rw [this] at h
          cases h
      · rw [List.getElem?_eq_none (by omega), List.getElem?_eq_none (by omega)]
    · rintro rfl
      have : (bs.any fun z => !z) = false := by
        rw [List.any_eq_false]
        intro z hz
        obtain ⟨j, hj⟩ := List.mem_iff_getElem?.mp hz
        have := (hb j z hj).mpr rfl
        simp [this]
      rw [this]; rfl
theorem isi_b {S : Hs} {x : D} : isiD S [.bool] x = .ok (.bl (match x with | .bl _ => true | _ => false)) S := by cases x <;> rfl
theorem isi_i {S : Hs} {x : D} : isiD S [.int] x = .ok (.bl (match x with | .int _ => true | .bl _ => true | _ => false)) S := by cases x <;> rfl
theorem isi_is {S : Hs} {x : D} : isiD S [.int, .str] x = .ok (.bl (match x with | .int _ => true | .bl _ => true | .str _ => true | _ => false)) S := by cases x <;> rfl
theorem isi_s {S : Hs} {x : D} : isiD S [.str] x = .ok (.bl (match x with | .str _ => true | _ => false)) S := by cases x <;> rfl
theorem isi_t {S : Hs} {x : D} : isiD S [.tuple] x = .ok (.bl (match x with | .tup _ => true | _ => false)) S := by cases x <;> rfl
theorem isi_l {S : Hs} {x : D} (h : ∀ a, x ≠ .ref a) : isiD S [.list] x = .ok (.bl false) S := by cases x <;> first | rfl | exact (h _ rfl).elim
theorem isi_li {S : Hs} {i : Int} : isiD S [.list] (.int i) = .ok (.bl false) S := rfl
theorem isi_ls {S : Hs} {i : Str} : isiD S [.list] (.str i) = .ok (.bl false) S := rfl
theorem isi_lt {S : Hs} {i : List D} : isiD S [.list] (.tup i) = .ok (.bl false) S := rfl
theorem isi_lr {S : Hs} {a : Nat} {ds : List D} (h : S[a]? = some (.lst ds) ∨ S[a]? = some (.scr ds)) : isiD S [.list] (.ref a) = .ok (.bl true) S := by
  rcases h with h | h <;> simp only [isiD, tysAre, tyIs, h, Bool.or_false]
theorem eqT {S : Hs} {Q : D → Hs → Prop} : Ok (eqO S false (eqD S (.bl true) (.bl true))) Q = Q (.bl true) S := rfl
theorem seqO_or {o : Option O} {ds : List D} (h : o = some (.lst ds) ∨ o = some (.scr ds)) : seqO o = some ds := by rcases h with h | h <;> rw [h] <;> rfl
theorem src_or {S : Hs} {a : Nat} {ds : List D} (h : S[a]? = some (.lst ds) ∨ S[a]? = some (.scr ds)) : srcOf S (.ref a) = some ⟨[(a, ds)], ds⟩ := by rcases h with h | h; exact src_l h; exact src_c h
theorem held_or {S : Hs} {a b : Nat} {ds es : List D} (h : S[a]? = some (.lst ds) ∨ S[a]? = some (.scr ds)) (h2 : S[b]? = some (.lst es) ∨ S[b]? = some (.scr es)) : held S [(a, ds), (b, es)] = true := by
  rcases h with h | h <;> rcases h2 with h2 | h2 <;> simp [held, heldAt, h, h2]
theorem Fr.or {S S' : Hs} {a : Nat} {ds : List D} (f : Fr [] S S') (h : S[a]? = some (.lst ds) ∨ S[a]? = some (.scr ds)) : S'[a]? = some (.lst ds) ∨ S'[a]? = some (.scr ds) := h.imp f.get0 f.get0
theorem bq_tf : (true == false) = false := by decide
theorem bq_ft : (false == true) = false := by decide
theorem bq_tt : (true == true) = true := by decide
theorem bq_ff : (false == false) = true := by decide
theorem same_ok {Φ : Nat → List D → Hs → R D} {G : Nat → D} {W i n : Nat} (hΦ : SameOk Φ i n) {x y : D} {p r : PyData} {S : Hs} {Q : D → Hs → Prop} (hx : pdat S (n + 1) x = some p) (hy : pdat S (n + 1) y = some r) (hsm : smallP p = true) (q : ∀ b S', (b = true ↔ p = r) → Fr [] S S' → Q (.bl b) S') :
    Ok (exec Φ G W (B_law_same i) [some x, some y, none, none] S) (rtQ Q) := by
  have kx := kd_of hx
  have ky := kd_of hy
  clear hx hy
  have no : ∀ {S'}, Fr [] S S' → p ≠ r → Q (.bl false) S' := fun f h => q _ _ (by simp [h]) f
  have yes : ∀ {S'}, Fr [] S S' → p = r → Q (.bl true) S' := fun f h => q _ _ (by simp [h]) f
  unfold B_law_same
  refine x_step fun K1 hK1 => ?_
  cases kx <;> cases ky <;> simp only [Ok_ok, Ok_bind, x_nil, x_one, x_asg, x_exp, x_ret, x_retN, x_pas, x_brk, x_cnt, x_ife, nxQ_nx, nxQ_rt, nxQ_bk, nxQ_ct, rtQ_nx, rtQ_rt, d_var', gv_some, d_non, d_bl, d_int, d_str, d_glb, d_tup, d_lst, d_bin, d_cmp, d_neg, d_nt, d_isN, d_nsN, d_chn, d_and, d_or, d_ife, d_cal, d_bi, d_isi, d_mth, d_ix, d_sl, d_rvs, d_lrg, d_lc, l_nil, l_cons, o_nil, o_cons, oiD, negD, notD, i_rng, i_enm, i_zip, i_cons, g_var, g_tup, g_ix, gs_nil, gs_cons, b_add, b_sub, b_mul, b_modP, b_fdvP, b_pow, b_adds, b_addt, b_addl, addL_eq, c_lt, c_le, c_gt, c_ge, c_eq, c_ne, eqO_f, eqO_t, eq_ii, eq_ss, bi_len, lenD_some, len_t, len_r, seqO_l, seqO_s, bi_int, bi_intb, bi_maxii, bi_minii, ofS_some, bi_listr, bi_listt, bi_tupr, bi_tupt, ixO_some, ix_t, ix_r, at_0, at_1, at_2, at_3, sl_t, sl_r, rv_r, set_r, Ok_lim, decide_eq_true_eq, Ok_tstN, Ok_tstP, Ok_tst, tst_t, tst_f, List.getElem?_cons_zero, List.getElem?_cons_succ, List.set_cons_zero, List.set_cons_succ, List.map_cons, List.map_nil, List.length_cons, List.length_nil, List.replicate_succ, List.replicate_zero, List.cons_append, List.nil_append, isN, cnt_nil, cnt_cons, Bool.not_true, Bool.not_false, if_true, if_false, Option.map_some, Nat.reduceAdd, Nat.reduceSub, Nat.reduceLT, Nat.reduceLeDiff, Int.reduceLT, Bool.false_eq_true] <;> first
    | exact no .refl (by simp)
    | exact yes .refl rfl
    | skip
  all_goals refine hK1 _ _ (x_step fun K2 hK2 => ?_)
  all_goals simp only [Ok_ok, Ok_bind, x_nil, x_one, x_asg, x_exp, x_ret, x_retN, x_pas, x_brk, x_cnt, x_ife, nxQ_nx, nxQ_rt, nxQ_bk, nxQ_ct, rtQ_nx, rtQ_rt, d_var', gv_some, d_non, d_bl, d_int, d_str, d_glb, d_tup, d_lst, d_bin, d_cmp, d_neg, d_nt, d_isN, d_nsN, d_chn, d_and, d_or, d_ife, d_cal, d_bi, d_isi, d_mth, d_ix, d_sl, d_rvs, d_lrg, d_lc, l_nil, l_cons, o_nil, o_cons, oiD, negD, notD, i_rng, i_enm, i_zip, i_cons, g_var, g_tup, g_ix, gs_nil, gs_cons, b_add, b_sub, b_mul, b_modP, b_fdvP, b_pow, b_adds, b_addt, b_addl, addL_eq, c_lt, c_le, c_gt, c_ge, c_eq, c_ne, eqO_f, eqO_t, eq_ii, eq_ss, bi_len, lenD_some, len_t, len_r, seqO_l, seqO_s, bi_int, bi_intb, bi_maxii, bi_minii, ofS_some, bi_listr, bi_listt, bi_tupr, bi_tupt, ixO_some, ix_t, ix_r, at_0, at_1, at_2, at_3, sl_t, sl_r, rv_r, set_r, Ok_lim, decide_eq_true_eq, Ok_tstN, Ok_tstP, Ok_tst, tst_t, tst_f, List.getElem?_cons_zero, List.getElem?_cons_succ, List.set_cons_zero, List.set_cons_succ, List.map_cons, List.map_nil, List.length_cons, List.length_nil, List.replicate_succ, List.replicate_zero, List.cons_append, List.nil_append, isN, cnt_nil, cnt_cons, Bool.not_true, Bool.not_false, if_true, if_false, Option.map_some, Nat.reduceAdd, Nat.reduceSub, Nat.reduceLT, Nat.reduceLeDiff, Int.reduceLT, Bool.false_eq_true, isi_b]
  all_goals first
    | exact no .refl (by simp)
    | (rw [eqD_bb]; simp only [Ok_ok, Ok_bind, x_nil, x_one, x_asg, x_exp, x_ret, x_retN, x_pas, x_brk, x_cnt, x_ife, nxQ_nx, nxQ_rt, nxQ_bk, nxQ_ct, rtQ_nx, rtQ_rt, d_var', gv_some, d_non, d_bl, d_int, d_str, d_glb, d_tup, d_lst, d_bin, d_cmp, d_neg, d_nt, d_isN, d_nsN, d_chn, d_and, d_or, d_ife, d_cal, d_bi, d_isi, d_mth, d_ix, d_sl, d_rvs, d_lrg, d_lc, l_nil, l_cons, o_nil, o_cons, oiD, negD, notD, i_rng, i_enm, i_zip, i_cons, g_var, g_tup, g_ix, gs_nil, gs_cons, b_add, b_sub, b_mul, b_modP, b_fdvP, b_pow, b_adds, b_addt, b_addl, addL_eq, c_lt, c_le, c_gt, c_ge, c_eq, c_ne, eqO_f, eqO_t, eq_ii, eq_ss, bi_len, lenD_some, len_t, len_r, seqO_l, seqO_s, bi_int, bi_intb, bi_maxii, bi_minii, ofS_some, bi_listr, bi_listt, bi_tupr, bi_tupt, ixO_some, ix_t, ix_r, at_0, at_1, at_2, at_3, sl_t, sl_r, rv_r, set_r, Ok_lim, decide_eq_true_eq, Ok_tstN, Ok_tstP, Ok_tst, tst_t, tst_f, List.getElem?_cons_zero, List.getElem?_cons_succ, List.set_cons_zero, List.set_cons_succ, List.map_cons, List.map_nil, List.length_cons, List.length_nil, List.replicate_succ, List.replicate_zero, List.cons_append, List.nil_append, isN, cnt_nil, cnt_cons, Bool.not_true, Bool.not_false, if_true, if_false, Option.map_some, Nat.reduceAdd, Nat.reduceSub, Nat.reduceLT, Nat.reduceLeDiff, Int.reduceLT, Bool.false_eq_true]; exact q _ _ (by simp) .refl)
    | skip
  all_goals refine hK2 _ _ (x_step fun K3 hK3 => ?_)
  all_goals simp only [Ok_ok, Ok_bind, x_nil, x_one, x_asg, x_exp, x_ret, x_retN, x_pas, x_brk, x_cnt, x_ife, nxQ_nx, nxQ_rt, nxQ_bk, nxQ_ct, rtQ_nx, rtQ_rt, d_var', gv_some, d_non, d_bl, d_int, d_str, d_glb, d_tup, d_lst, d_bin, d_cmp, d_neg, d_nt, d_isN, d_nsN, d_chn, d_and, d_or, d_ife, d_cal, d_bi, d_isi, d_mth, d_ix, d_sl, d_rvs, d_lrg, d_lc, l_nil, l_cons, o_nil, o_cons, oiD, negD, notD, i_rng, i_enm, i_zip, i_cons, g_var, g_tup, g_ix, gs_nil, gs_cons, b_add, b_sub, b_mul, b_modP, b_fdvP, b_pow, b_adds, b_addt, b_addl, addL_eq, c_lt, c_le, c_gt, c_ge, c_eq, c_ne, eqO_f, eqO_t, eq_ii, eq_ss, bi_len, lenD_some, len_t, len_r, seqO_l, seqO_s, bi_int, bi_intb, bi_maxii, bi_minii, ofS_some, bi_listr, bi_listt, bi_tupr, bi_tupt, ixO_some, ix_t, ix_r, at_0, at_1, at_2, at_3, sl_t, sl_r, rv_r, set_r, Ok_lim, decide_eq_true_eq, Ok_tstN, Ok_tstP, Ok_tst, tst_t, tst_f, List.getElem?_cons_zero, List.getElem?_cons_succ, List.set_cons_zero, List.set_cons_succ, List.map_cons, List.map_nil, List.length_cons, List.length_nil, List.replicate_succ, List.replicate_zero, List.cons_append, List.nil_append, isN, cnt_nil, cnt_cons, Bool.not_true, Bool.not_false, if_true, if_false, Option.map_some, Nat.reduceAdd, Nat.reduceSub, Nat.reduceLT, Nat.reduceLeDiff, Int.reduceLT, Bool.false_eq_true, isi_is]
  all_goals try (
    refine x_step fun K4 hK4 => ?_
    simp only [Ok_ok, Ok_bind, x_nil, x_one, x_asg, x_exp, x_ret, x_retN, x_pas, x_brk, x_cnt, x_ife, nxQ_nx, nxQ_rt, nxQ_bk, nxQ_ct, rtQ_nx, rtQ_rt, d_var', gv_some, d_non, d_bl, d_int, d_str, d_glb, d_tup, d_lst, d_bin, d_cmp, d_neg, d_nt, d_isN, d_nsN, d_chn, d_and, d_or, d_ife, d_cal, d_bi, d_isi, d_mth, d_ix, d_sl, d_rvs, d_lrg, d_lc, l_nil, l_cons, o_nil, o_cons, oiD, negD, notD, i_rng, i_enm, i_zip, i_cons, g_var, g_tup, g_ix, gs_nil, gs_cons, b_add, b_sub, b_mul, b_modP, b_fdvP, b_pow, b_adds, b_addt, b_addl, addL_eq, c_lt, c_le, c_gt, c_ge, c_eq, c_ne, eqO_f, eqO_t, eq_ii, eq_ss, bi_len, lenD_some, len_t, len_r, seqO_l, seqO_s, bi_int, bi_intb, bi_maxii, bi_minii, ofS_some, bi_listr, bi_listt, bi_tupr, bi_tupt, ixO_some, ix_t, ix_r, at_0, at_1, at_2, at_3, sl_t, sl_r, rv_r, set_r, Ok_lim, decide_eq_true_eq, Ok_tstN, Ok_tstP, Ok_tst, tst_t, tst_f, List.getElem?_cons_zero, List.getElem?_cons_succ, List.set_cons_zero, List.set_cons_succ, List.map_cons, List.map_nil, List.length_cons, List.length_nil, List.replicate_succ, List.replicate_zero, List.cons_append, List.nil_append, isN, cnt_nil, cnt_cons, Bool.not_true, Bool.not_false, if_true, if_false, Option.map_some, Nat.reduceAdd, Nat.reduceSub, Nat.reduceLT, Nat.reduceLeDiff, Int.reduceLT, Bool.false_eq_true, isi_i, isi_is, eqD_bb, bq_tf, bq_ft, bq_tt, bq_ff]
    first
      | exact no .refl (by simp)
      | (refine hK4 _ _ ?_
         simp only [Ok_ok, Ok_bind, x_nil, x_one, x_asg, x_exp, x_ret, x_retN, x_pas, x_brk, x_cnt, x_ife, nxQ_nx, nxQ_rt, nxQ_bk, nxQ_ct, rtQ_nx, rtQ_rt, d_var', gv_some, d_non, d_bl, d_int, d_str, d_glb, d_tup, d_lst, d_bin, d_cmp, d_neg, d_nt, d_isN, d_nsN, d_chn, d_and, d_or, d_ife, d_cal, d_bi, d_isi, d_mth, d_ix, d_sl, d_rvs, d_lrg, d_lc, l_nil, l_cons, o_nil, o_cons, oiD, negD, notD, i_rng, i_enm, i_zip, i_cons, g_var, g_tup, g_ix, gs_nil, gs_cons, b_add, b_sub, b_mul, b_modP, b_fdvP, b_pow, b_adds, b_addt, b_addl, addL_eq, c_lt, c_le, c_gt, c_ge, c_eq, c_ne, eqO_f, eqO_t, eq_ii, eq_ss, bi_len, lenD_some, len_t, len_r, seqO_l, seqO_s, bi_int, bi_intb, bi_maxii, bi_minii, ofS_some, bi_listr, bi_listt, bi_tupr, bi_tupt, ixO_some, ix_t, ix_r, at_0, at_1, at_2, at_3, sl_t, sl_r, rv_r, set_r, Ok_lim, decide_eq_true_eq, Ok_tstN, Ok_tstP, Ok_tst, tst_t, tst_f, List.getElem?_cons_zero, List.getElem?_cons_succ, List.set_cons_zero, List.set_cons_succ, List.map_cons, List.map_nil, List.length_cons, List.length_nil, List.replicate_succ, List.replicate_zero, List.cons_append, List.nil_append, isN, cnt_nil, cnt_cons, Bool.not_true, Bool.not_false, if_true, if_false, Option.map_some, Nat.reduceAdd, Nat.reduceSub, Nat.reduceLT, Nat.reduceLeDiff, Int.reduceLT, Bool.false_eq_true, isi_i, isi_is, eqD_bb, bq_tf, bq_ft, bq_tt, bq_ff]
         first
           | exact no .refl (by simp)
           | exact q _ _ (by simp) .refl))
  all_goals refine hK3 _ _ (x_step fun K5 hK5 => ?_)
  all_goals simp only [Ok_ok, Ok_bind, x_nil, x_one, x_asg, x_exp, x_ret, x_retN, x_pas, x_brk, x_cnt, x_ife, nxQ_nx, nxQ_rt, nxQ_bk, nxQ_ct, rtQ_nx, rtQ_rt, d_var', gv_some, d_non, d_bl, d_int, d_str, d_glb, d_tup, d_lst, d_bin, d_cmp, d_neg, d_nt, d_isN, d_nsN, d_chn, d_and, d_or, d_ife, d_cal, d_bi, d_isi, d_mth, d_ix, d_sl, d_rvs, d_lrg, d_lc, l_nil, l_cons, o_nil, o_cons, oiD, negD, notD, i_rng, i_enm, i_zip, i_cons, g_var, g_tup, g_ix, gs_nil, gs_cons, b_add, b_sub, b_mul, b_modP, b_fdvP, b_pow, b_adds, b_addt, b_addl, addL_eq, c_lt, c_le, c_gt, c_ge, c_eq, c_ne, eqO_f, eqO_t, eq_ii, eq_ss, bi_len, lenD_some, len_t, len_r, seqO_l, seqO_s, bi_int, bi_intb, bi_maxii, bi_minii, ofS_some, bi_listr, bi_listt, bi_tupr, bi_tupt, ixO_some, ix_t, ix_r, at_0, at_1, at_2, at_3, sl_t, sl_r, rv_r, set_r, Ok_lim, decide_eq_true_eq, Ok_tstN, Ok_tstP, Ok_tst, tst_t, tst_f, List.getElem?_cons_zero, List.getElem?_cons_succ, List.set_cons_zero, List.set_cons_succ, List.map_cons, List.map_nil, List.length_cons, List.length_nil, List.replicate_succ, List.replicate_zero, List.cons_append, List.nil_append, isN, cnt_nil, cnt_cons, Bool.not_true, Bool.not_false, if_true, if_false, Option.map_some, Nat.reduceAdd, Nat.reduceSub, Nat.reduceLT, Nat.reduceLeDiff, Int.reduceLT, Bool.false_eq_true, isi_t, eqD_bb, bq_tf, bq_ft, bq_tt, bq_ff]
  all_goals first
    | exact no .refl (by simp)
    | skip
  case int.lst =>
    rename_i i a ds ps h1 h2
    simp only [Ok_ok, Ok_bind, x_nil, x_one, x_asg, x_exp, x_ret, x_retN, x_pas, x_brk, x_cnt, x_ife, nxQ_nx, nxQ_rt, nxQ_bk, nxQ_ct, rtQ_nx, rtQ_rt, d_var', gv_some, d_non, d_bl, d_int, d_str, d_glb, d_tup, d_lst, d_bin, d_cmp, d_neg, d_nt, d_isN, d_nsN, d_chn, d_and, d_or, d_ife, d_cal, d_bi, d_isi, d_mth, d_ix, d_sl, d_rvs, d_lrg, d_lc, l_nil, l_cons, o_nil, o_cons, oiD, negD, notD, i_rng, i_enm, i_zip, i_cons, g_var, g_tup, g_ix, gs_nil, gs_cons, b_add, b_sub, b_mul, b_modP, b_fdvP, b_pow, b_adds, b_addt, b_addl, addL_eq, c_lt, c_le, c_gt, c_ge, c_eq, c_ne, eqO_f, eqO_t, eq_ii, eq_ss, bi_len, lenD_some, len_t, len_r, seqO_l, seqO_s, bi_int, bi_intb, bi_maxii, bi_minii, ofS_some, bi_listr, bi_listt, bi_tupr, bi_tupt, ixO_some, ix_t, ix_r, at_0, at_1, at_2, at_3, sl_t, sl_r, rv_r, set_r, Ok_lim, decide_eq_true_eq, Ok_tstN, Ok_tstP, Ok_tst, tst_t, tst_f, List.getElem?_cons_zero, List.getElem?_cons_succ, List.set_cons_zero, List.set_cons_succ, List.map_cons, List.map_nil, List.length_cons, List.length_nil, List.replicate_succ, List.replicate_zero, List.cons_append, List.nil_append, isN, cnt_nil, cnt_cons, Bool.not_true, Bool.not_false, if_true, if_false, Option.map_some, Nat.reduceAdd, Nat.reduceSub, Nat.reduceLT, Nat.reduceLeDiff, Int.reduceLT, Bool.false_eq_true, isi_lr h1, isi_li, isi_ls, isi_lt, eqD_bb, bq_tf, bq_ft, bq_tt, bq_ff]
    exact no .refl (by simp)
  case str.lst =>
    rename_i i a ds ps h1 h2
    simp only [Ok_ok, Ok_bind, x_nil, x_one, x_asg, x_exp, x_ret, x_retN, x_pas, x_brk, x_cnt, x_ife, nxQ_nx, nxQ_rt, nxQ_bk, nxQ_ct, rtQ_nx, rtQ_rt, d_var', gv_some, d_non, d_bl, d_int, d_str, d_glb, d_tup, d_lst, d_bin, d_cmp, d_neg, d_nt, d_isN, d_nsN, d_chn, d_and, d_or, d_ife, d_cal, d_bi, d_isi, d_mth, d_ix, d_sl, d_rvs, d_lrg, d_lc, l_nil, l_cons, o_nil, o_cons, oiD, negD, notD, i_rng, i_enm, i_zip, i_cons, g_var, g_tup, g_ix, gs_nil, gs_cons, b_add, b_sub, b_mul, b_modP, b_fdvP, b_pow, b_adds, b_addt, b_addl, addL_eq, c_lt, c_le, c_gt, c_ge, c_eq, c_ne, eqO_f, eqO_t, eq_ii, eq_ss, bi_len, lenD_some, len_t, len_r, seqO_l, seqO_s, bi_int, bi_intb, bi_maxii, bi_minii, ofS_some, bi_listr, bi_listt, bi_tupr, bi_tupt, ixO_some, ix_t, ix_r, at_0, at_1, at_2, at_3, sl_t, sl_r, rv_r, set_r, Ok_lim, decide_eq_true_eq, Ok_tstN, Ok_tstP, Ok_tst, tst_t, tst_f, List.getElem?_cons_zero, List.getElem?_cons_succ, List.set_cons_zero, List.set_cons_succ, List.map_cons, List.map_nil, List.length_cons, List.length_nil, List.replicate_succ, List.replicate_zero, List.cons_append, List.nil_append, isN, cnt_nil, cnt_cons, Bool.not_true, Bool.not_false, if_true, if_false, Option.map_some, Nat.reduceAdd, Nat.reduceSub, Nat.reduceLT, Nat.reduceLeDiff, Int.reduceLT, Bool.false_eq_true, isi_lr h1, isi_li, isi_ls, isi_lt, eqD_bb, bq_tf, bq_ft, bq_tt, bq_ff]
    exact no .refl (by simp)
  case tup.tup =>
    rename_i ds ps h1 es rs h2
    simp only [Ok_ok, Ok_bind, x_nil, x_one, x_asg, x_exp, x_ret, x_retN, x_pas, x_brk, x_cnt, x_ife, nxQ_nx, nxQ_rt, nxQ_bk, nxQ_ct, rtQ_nx, rtQ_rt, d_var', gv_some, d_non, d_bl, d_int, d_str, d_glb, d_tup, d_lst, d_bin, d_cmp, d_neg, d_nt, d_isN, d_nsN, d_chn, d_and, d_or, d_ife, d_cal, d_bi, d_isi, d_mth, d_ix, d_sl, d_rvs, d_lrg, d_lc, l_nil, l_cons, o_nil, o_cons, oiD, negD, notD, i_rng, i_enm, i_zip, i_cons, g_var, g_tup, g_ix, gs_nil, gs_cons, b_add, b_sub, b_mul, b_modP, b_fdvP, b_pow, b_adds, b_addt, b_addl, addL_eq, c_lt, c_le, c_gt, c_ge, c_eq, c_ne, eqO_f, eqO_t, eq_ii, eq_ss, bi_len, lenD_some, len_t, len_r, seqO_l, seqO_s, bi_int, bi_intb, bi_maxii, bi_minii, ofS_some, bi_listr, bi_listt, bi_tupr, bi_tupt, ixO_some, ix_t, ix_r, at_0, at_1, at_2, at_3, sl_t, sl_r, rv_r, set_r, Ok_lim, decide_eq_true_eq, Ok_tstN, Ok_tstP, Ok_tst, tst_t, tst_f, List.getElem?_cons_zero, List.getElem?_cons_succ, List.set_cons_zero, List.set_cons_succ, List.map_cons, List.map_nil, List.length_cons, List.length_nil, List.replicate_succ, List.replicate_zero, List.cons_append, List.nil_append, isN, cnt_nil, cnt_cons, Bool.not_true, Bool.not_false, if_true, if_false, Option.map_some, Nat.reduceAdd, Nat.reduceSub, Nat.reduceLT, Nat.reduceLeDiff, Int.reduceLT, Bool.false_eq_true, isi_lt, eqD_bb, bq_tf, bq_ft, bq_tt, bq_ff]
    refine hK5 _ _ (x_step fun K6 hK6 => ?_)
    simp only [Ok_ok, Ok_bind, x_nil, x_one, x_asg, x_exp, x_ret, x_retN, x_pas, x_brk, x_cnt, x_ife, nxQ_nx, nxQ_rt, nxQ_bk, nxQ_ct, rtQ_nx, rtQ_rt, d_var', gv_some, d_non, d_bl, d_int, d_str, d_glb, d_tup, d_lst, d_bin, d_cmp, d_neg, d_nt, d_isN, d_nsN, d_chn, d_and, d_or, d_ife, d_cal, d_bi, d_isi, d_mth, d_ix, d_sl, d_rvs, d_lrg, d_lc, l_nil, l_cons, o_nil, o_cons, oiD, negD, notD, i_rng, i_enm, i_zip, i_cons, g_var, g_tup, g_ix, gs_nil, gs_cons, b_add, b_sub, b_mul, b_modP, b_fdvP, b_pow, b_adds, b_addt, b_addl, addL_eq, c_lt, c_le, c_gt, c_ge, c_eq, c_ne, eqO_f, eqO_t, eq_ii, eq_ss, bi_len, lenD_some, len_t, len_r, seqO_l, seqO_s, bi_int, bi_intb, bi_maxii, bi_minii, ofS_some, bi_listr, bi_listt, bi_tupr, bi_tupt, ixO_some, ix_t, ix_r, at_0, at_1, at_2, at_3, sl_t, sl_r, rv_r, set_r, Ok_lim, decide_eq_true_eq, Ok_tstN, Ok_tstP, Ok_tst, tst_t, tst_f, List.getElem?_cons_zero, List.getElem?_cons_succ, List.set_cons_zero, List.set_cons_succ, List.map_cons, List.map_nil, List.length_cons, List.length_nil, List.replicate_succ, List.replicate_zero, List.cons_append, List.nil_append, isN, cnt_nil, cnt_cons, Bool.not_true, Bool.not_false, if_true, if_false, Option.map_some, Nat.reduceAdd, Nat.reduceSub, Nat.reduceLT, Nat.reduceLeDiff, Int.reduceLT, Bool.false_eq_true, decide_not, Bool.not_eq_true']
    have l1 := mapO_len h1
    have l2 := mapO_len h2
    simp only [smallP, Bool.and_eq_true, decide_eq_true_eq] at hsm
    split
    · rename_i hne
      refine no .refl fun e => ?_
      cases e
      simp at hne
      omega
    · rename_i hne
      simp at hne
      refine hK6 _ _ ?_
      have hne : ds.length = es.length := by omega
      simp only [Ok_ok, Ok_bind, x_nil, x_one, x_asg, x_exp, x_ret, x_retN, x_pas, x_brk, x_cnt, x_ife, nxQ_nx, nxQ_rt, nxQ_bk, nxQ_ct, rtQ_nx, rtQ_rt, d_var', gv_some, d_non, d_bl, d_int, d_str, d_glb, d_tup, d_lst, d_bin, d_cmp, d_neg, d_nt, d_isN, d_nsN, d_chn, d_and, d_or, d_ife, d_cal, d_bi, d_isi, d_mth, d_ix, d_sl, d_rvs, d_lrg, d_lc, l_nil, l_cons, o_nil, o_cons, oiD, negD, notD, i_rng, i_enm, i_zip, i_cons, g_var, g_tup, g_ix, gs_nil, gs_cons, b_add, b_sub, b_mul, b_modP, b_fdvP, b_pow, b_adds, b_addt, b_addl, addL_eq, c_lt, c_le, c_gt, c_ge, c_eq, c_ne, eqO_f, eqO_t, eq_ii, eq_ss, bi_len, lenD_some, len_t, len_r, seqO_l, seqO_s, bi_int, bi_intb, bi_maxii, bi_minii, ofS_some, bi_listr, bi_listt, bi_tupr, bi_tupt, ixO_some, ix_t, ix_r, at_0, at_1, at_2, at_3, sl_t, sl_r, rv_r, set_r, Ok_lim, decide_eq_true_eq, Ok_tstN, Ok_tstP, Ok_tst, tst_t, tst_f, List.getElem?_cons_zero, List.getElem?_cons_succ, List.set_cons_zero, List.set_cons_succ, List.map_cons, List.map_nil, List.length_cons, List.length_nil, List.replicate_succ, List.replicate_zero, List.cons_append, List.nil_append, isN, cnt_nil, cnt_cons, Bool.not_true, Bool.not_false, if_true, if_false, Option.map_some, Nat.reduceAdd, Nat.reduceSub, Nat.reduceLT, Nat.reduceLeDiff, Int.reduceLT, Bool.false_eq_true]
      rw [zp_tt]
      exact same_items hΦ h1 h2 hne (by omega) hsm.2 (fun _ _ => held_nil) ⟨_, _, _, _, rfl⟩ fun b S' e f => q b S' (by rw [e]; simp) f
  case lst.lst =>
    rename_i a ds ps g1 h1 b es rs g2 h2
    simp only [Ok_ok, Ok_bind, x_nil, x_one, x_asg, x_exp, x_ret, x_retN, x_pas, x_brk, x_cnt, x_ife, nxQ_nx, nxQ_rt, nxQ_bk, nxQ_ct, rtQ_nx, rtQ_rt, d_var', gv_some, d_non, d_bl, d_int, d_str, d_glb, d_tup, d_lst, d_bin, d_cmp, d_neg, d_nt, d_isN, d_nsN, d_chn, d_and, d_or, d_ife, d_cal, d_bi, d_isi, d_mth, d_ix, d_sl, d_rvs, d_lrg, d_lc, l_nil, l_cons, o_nil, o_cons, oiD, negD, notD, i_rng, i_enm, i_zip, i_cons, g_var, g_tup, g_ix, gs_nil, gs_cons, b_add, b_sub, b_mul, b_modP, b_fdvP, b_pow, b_adds, b_addt, b_addl, addL_eq, c_lt, c_le, c_gt, c_ge, c_eq, c_ne, eqO_f, eqO_t, eq_ii, eq_ss, bi_len, lenD_some, len_t, len_r, seqO_l, seqO_s, bi_int, bi_intb, bi_maxii, bi_minii, ofS_some, bi_listr, bi_listt, bi_tupr, bi_tupt, ixO_some, ix_t, ix_r, at_0, at_1, at_2, at_3, sl_t, sl_r, rv_r, set_r, Ok_lim, decide_eq_true_eq, Ok_tstN, Ok_tstP, Ok_tst, tst_t, tst_f, List.getElem?_cons_zero, List.getElem?_cons_succ, List.set_cons_zero, List.set_cons_succ, List.map_cons, List.map_nil, List.length_cons, List.length_nil, List.replicate_succ, List.replicate_zero, List.cons_append, List.nil_append, isN, cnt_nil, cnt_cons, Bool.not_true, Bool.not_false, if_true, if_false, Option.map_some, Nat.reduceAdd, Nat.reduceSub, Nat.reduceLT, Nat.reduceLeDiff, Int.reduceLT, Bool.false_eq_true, isi_lr g1, isi_lr g2, eqD_bb, bq_tf, bq_ft, bq_tt, bq_ff]
    refine hK5 _ _ (x_step fun K6 hK6 => ?_)
    simp only [Ok_ok, Ok_bind, x_nil, x_one, x_asg, x_exp, x_ret, x_retN, x_pas, x_brk, x_cnt, x_ife, nxQ_nx, nxQ_rt, nxQ_bk, nxQ_ct, rtQ_nx, rtQ_rt, d_var', gv_some, d_non, d_bl, d_int, d_str, d_glb, d_tup, d_lst, d_bin, d_cmp, d_neg, d_nt, d_isN, d_nsN, d_chn, d_and, d_or, d_ife, d_cal, d_bi, d_isi, d_mth, d_ix, d_sl, d_rvs, d_lrg, d_lc, l_nil, l_cons, o_nil, o_cons, oiD, negD, notD, i_rng, i_enm, i_zip, i_cons, g_var, g_tup, g_ix, gs_nil, gs_cons, b_add, b_sub, b_mul, b_modP, b_fdvP, b_pow, b_adds, b_addt, b_addl, addL_eq, c_lt, c_le, c_gt, c_ge, c_eq, c_ne, eqO_f, eqO_t, eq_ii, eq_ss, bi_len, lenD_some, len_t, len_r, seqO_l, seqO_s, bi_int, bi_intb, bi_maxii, bi_minii, ofS_some, bi_listr, bi_listt, bi_tupr, bi_tupt, ixO_some, ix_t, ix_r, at_0, at_1, at_2, at_3, sl_t, sl_r, rv_r, set_r, Ok_lim, decide_eq_true_eq, Ok_tstN, Ok_tstP, Ok_tst, tst_t, tst_f, List.getElem?_cons_zero, List.getElem?_cons_succ, List.set_cons_zero, List.set_cons_succ, List.map_cons, List.map_nil, List.length_cons, List.length_nil, List.replicate_succ, List.replicate_zero, List.cons_append, List.nil_append, isN, cnt_nil, cnt_cons, Bool.not_true, Bool.not_false, if_true, if_false, Option.map_some, Nat.reduceAdd, Nat.reduceSub, Nat.reduceLT, Nat.reduceLeDiff, Int.reduceLT, Bool.false_eq_true, seqO_or g1, seqO_or g2, decide_not, Bool.not_eq_true']
    have l1 := mapO_len h1
    have l2 := mapO_len h2
    simp only [smallP, Bool.and_eq_true, decide_eq_true_eq] at hsm
    split
    · rename_i hne
      refine no .refl fun e => ?_
      cases e
      simp at hne
      omega
    · rename_i hne
      simp at hne
      refine hK6 _ _ ?_
      have hne : ds.length = es.length := by omega
      simp only [Ok_ok, Ok_bind, x_nil, x_one, x_asg, x_exp, x_ret, x_retN, x_pas, x_brk, x_cnt, x_ife, nxQ_nx, nxQ_rt, nxQ_bk, nxQ_ct, rtQ_nx, rtQ_rt, d_var', gv_some, d_non, d_bl, d_int, d_str, d_glb, d_tup, d_lst, d_bin, d_cmp, d_neg, d_nt, d_isN, d_nsN, d_chn, d_and, d_or, d_ife, d_cal, d_bi, d_isi, d_mth, d_ix, d_sl, d_rvs, d_lrg, d_lc, l_nil, l_cons, o_nil, o_cons, oiD, negD, notD, i_rng, i_enm, i_zip, i_cons, g_var, g_tup, g_ix, gs_nil, gs_cons, b_add, b_sub, b_mul, b_modP, b_fdvP, b_pow, b_adds, b_addt, b_addl, addL_eq, c_lt, c_le, c_gt, c_ge, c_eq, c_ne, eqO_f, eqO_t, eq_ii, eq_ss, bi_len, lenD_some, len_t, len_r, seqO_l, seqO_s, bi_int, bi_intb, bi_maxii, bi_minii, ofS_some, bi_listr, bi_listt, bi_tupr, bi_tupt, ixO_some, ix_t, ix_r, at_0, at_1, at_2, at_3, sl_t, sl_r, rv_r, set_r, Ok_lim, decide_eq_true_eq, Ok_tstN, Ok_tstP, Ok_tst, tst_t, tst_f, List.getElem?_cons_zero, List.getElem?_cons_succ, List.set_cons_zero, List.set_cons_succ, List.map_cons, List.map_nil, List.length_cons, List.length_nil, List.replicate_succ, List.replicate_zero, List.cons_append, List.nil_append, isN, cnt_nil, cnt_cons, Bool.not_true, Bool.not_false, if_true, if_false, Option.map_some, Nat.reduceAdd, Nat.reduceSub, Nat.reduceLT, Nat.reduceLeDiff, Int.reduceLT, Bool.false_eq_true]
      have hz : zpD false S [.ref a, .ref b] = .ok ⟨[(a, ds), (b, es)], pairsUp ds es⟩ S := by simp [zpD, src_or g1, src_or g2, zpD_, ofO]
      rw [hz]
      exact same_items hΦ h1 h2 hne (by omega) hsm.2 (fun _ f => held_or (f.or g1) (f.or g2)) ⟨_, _, _, _, rfl⟩ fun b S' e f => q b S' (by rw [e]; simp) f
end RS

namespace RS
open PySem
/-! ### data by themselves, texts -/
mutual
/-- no thing that changes within, all texts fit for a comparison -/
def pureD : D → Bool
  | .non => true
  | .bl _ => true
  | .int _ => true
  | .str s => PyData.strOk s
  | .tup ds => pureDs ds
  | .ref _ => false
def pureDs : List D → Bool
  | [] => true
  | d :: ds => pureD d && pureDs ds
end
mutual
def dp : D → PyData
  | .non => .none
  | .bl b => .bool b
  | .int i => .int i
  | .str s => .str s
  | .tup ds => .tuple (dps ds)
  | .ref _ => .none
def dps : List D → List PyData
  | [] => []
  | d :: ds => dp d :: dps ds
end
mutual
def dep : D → Nat
  | .tup ds => deps ds + 1
  | .non => 0
  | .bl _ => 0
  | .int _ => 0
  | .str _ => 0
  | .ref _ => 0
def deps : List D → Nat
  | [] => 0
  | d :: ds => max (dep d) (deps ds)
end
theorem dps_len : ∀ ds : List D, (dps ds).length = ds.length
  | [] => rfl
  | d :: ds => by simp only [dps, List.length_cons, dps_len ds]
mutual
theorem pdat_pure {S : Hs} : ∀ (n : Nat) (d : D), pureD d = true → dep d < n → pdat S n d = some (dp d)
  | 0, d, _, h => absurd h (Nat.not_lt_zero _)
  | n + 1, .non, _, _ => by simp only [pdat, dp]
  | n + 1, .bl _, _, _ => by simp only [pdat, dp]
  | n + 1, .int _, _, _ => by simp only [pdat, dp]
  | n + 1, .str _, _, _ => by simp only [pdat, dp]
  | n + 1, .ref _, h, _ => by simp [pureD] at h
  | n + 1, .tup ds, h, hd => by
    simp only [pureD] at h
    simp only [dep] at hd
    simp only [pdat, dp, pdats_pure n ds h (by omega), Option.map_some]
theorem pdats_pure {S : Hs} : ∀ (n : Nat) (ds : List D), pureDs ds = true → deps ds < n → mapO (pdat S n) ds = some (dps ds)
  | _, [], _, _ => by simp only [mapO, dps]
  | n, d :: ds, h, hd => by
    simp only [pureDs, Bool.and_eq_true] at h
    simp only [deps] at hd
    simp only [mapO, pdat_pure n d h.1 (by omega), pdats_pure n ds h.2 (by omega), dps]
end
mutual
theorem lay_pure : ∀ d : D, pureD d = true → (dp d).canLay0 = true ∧ (dp d).depth ≤ dep d
  | .non, _ => ⟨rfl, Nat.le_refl _⟩
  | .bl _, _ => ⟨rfl, Nat.le_refl _⟩
  | .int _, _ => ⟨rfl, Nat.le_refl _⟩
  | .str _, h => ⟨by simpa only [pureD, dp, PyData.canLay0] using h, by simp [dp, PyData.depth]⟩
  | .ref _, h => by simp [pureD] at h
  | .tup ds, h => by
    simp only [pureD] at h
    obtain ⟨h1, h2⟩ := lays_pure ds h
    exact ⟨by simpa only [dp, PyData.canLay0] using h1, by simp only [dp, PyData.depth, dep]; omega⟩
theorem lays_pure : ∀ ds : List D, pureDs ds = true → PyData.canLayAll0 (dps ds) = true ∧ PyData.depthAll (dps ds) ≤ deps ds
  | [], _ => ⟨rfl, Nat.le_refl _⟩
  | d :: ds, h => by
    simp only [pureDs, Bool.and_eq_true] at h
    obtain ⟨h1, h2⟩ := lay_pure d h.1
    obtain ⟨h3, h4⟩ := lays_pure ds h.2
    exact ⟨by simp only [dps, PyData.canLayAll0, h1, h3, Bool.and_self], by simp only [dps, PyData.depthAll, deps]; omega⟩
end
/-- a list of data -/
theorem shp_lst {S : Hs} {a : Nat} {ds : List D} (h : S[a]? = some (.lst ds)) (hp : pureDs ds = true) (hd : deps ds ≤ 60) : shp S (.ref a) = some (.list (dps ds)) := by
  have e : pdat S 66 (.ref a) = some (.list (dps ds)) := by
    simp only [pdat, h]
    rw [pdats_pure 65 ds hp (by omega)]; rfl
  obtain ⟨h1, h2⟩ := lays_pure ds hp
  unfold shp
  rw [e]
  show (if SeqAt.shaped (.list (dps ds)) = true then _ else _) = _
  rw [if_pos]
  unfold SeqAt.shaped
  simp only [PyData.canLay0, h1, Bool.true_and, decide_eq_true_eq]
  show PyData.depthAll (dps ds) + 1 ≤ 64
  omega
theorem shp_pure {S : Hs} {d : D} (hp : pureD d = true) (hd : dep d ≤ 60) : shp S d = some (dp d) := by
  have e : pdat S 66 d = some (dp d) := pdat_pure 66 d hp (by omega)
  obtain ⟨h1, h2⟩ := lay_pure d hp
  unfold shp
  rw [e]
  show (if SeqAt.shaped (dp d) = true then _ else _) = _
  rw [if_pos]
  unfold SeqAt.shaped
  simp only [h1, Bool.true_and, decide_eq_true_eq]
  omega
theorem eq_nil {S : Hs} {a b : Nat} {ds : List D} (h : S[a]? = some (.lst ds)) (h2 : S[b]? = some (.lst [])) (hp : pureDs ds = true) (hd : deps ds ≤ 60) : eqD S (.ref a) (.ref b) = some (decide (ds = [])) := by
  simp only [eqD, shp_lst h hp hd, shp_lst h2 rfl (by decide)]
  cases ds <;> simp [dps, PyData.eqv, PyData.eqvAll]
theorem pureDs_mem {ds : List D} : pureDs ds = true ↔ ∀ d ∈ ds, pureD d = true := by
  induction ds with
  | nil => simp [pureDs]
  | cons d ds ih => simp [pureDs, ih]
theorem deps_le {ds : List D} {n : Nat} : deps ds ≤ n ↔ ∀ d ∈ ds, dep d ≤ n := by
  induction ds with
  | nil => simp [deps]
  | cons d ds ih => simp only [deps, List.mem_cons, forall_eq_or_imp, ← ih]; omega
/-- small letters -/
def LowS (s : Str) : Prop := ∀ c ∈ s.cps.toList, 97 ≤ c ∧ c ≤ 122
theorem LowS.ok {s : Str} (h : LowS s) : PyData.strOk s = true := by
  unfold PyData.strOk
  rw [← Array.all_toList, List.all_eq_true]
  intro c hc
  have := h c hc
  simp only [decide_eq_true_eq]
  omega
theorem join_signs (cs : List Nat) : Txt.join "" (cs.map fun c => (⟨#[c]⟩ : Str)) = ⟨cs.toArray⟩ := by
  rw [TL.join_eq]
  have e : TL.tl (Str.join "" (cs.map fun c => (⟨#[c]⟩ : Str))) = cs := by
    rw [TL.tl_join]
    have e0 : TL.tl ("" : Str) = [] := by decide
    rw [e0, List.map_map]
    induction cs with
    | nil => rfl
    | cons c cs ih =>
      cases cs with
      | nil => rfl
      | cons d ds =>
        simp only [List.map_cons, TL.joinL] at ih ⊢
        rw [ih]; rfl
  rw [← TL.mk_tl (Str.join "" (cs.map fun c => (⟨#[c]⟩ : Str))), e]
end RS

/-! V1: values with lists by value; how they stand for the values of the language; who owns what -/
namespace RS
open PySem

/-- a value: lists and dicts by what they hold; pen: the pen -/
inductive U where
  | non | bl (b : Bool) | int (i : Int) | str (s : Str) | tup (us : List U) | lst (us : List U) | dct (ks us : List U) | ins (c : Nat) (ns : List Str) (us : List U) | pen
deriving Inhabited

section
variable (S : Hs) (p : Nat) (av : Nat → Prop)
mutual
/-- d stands for u; nothing that av holds is looked into -/
def Hld : U → D → Prop
  | .non, d => d = .non
  | .bl b, d => d = .bl b
  | .int i, d => d = .int i
  | .str s, d => d = .str s
  | .pen, d => d = .ref p
  | .tup us, d => ∃ ds, d = .tup ds ∧ Hlds us ds
  | .lst us, d => ∃ n ds, d = .ref n ∧ ¬ av n ∧ S[n]? = some (.lst ds) ∧ Hlds us ds
  | .dct ks us, d => ∃ n kvs, d = .ref n ∧ ¬ av n ∧ S[n]? = some (.dct kvs) ∧ Hlds ks (kvs.map Prod.fst) ∧ Hlds us (kvs.map Prod.snd)
  | .ins c ns us, d => ∃ n fs, d = .ref n ∧ ¬ av n ∧ S[n]? = some (.ins c fs) ∧ fs.map Prod.fst = ns ∧ Hlds us (fs.map Prod.snd)
def Hlds : List U → List D → Prop
  | [], ds => ds = []
  | u :: us, ds => ∃ d r, ds = d :: r ∧ Hld u d ∧ Hlds us r
end
/-- what stands at n, where n itself may be owned -/
def Body (u : U) (n : Nat) : Prop := match u with
  | .lst us => ∃ ds, S[n]? = some (.lst ds) ∧ Hlds S p av us ds
  | .dct ks us => ∃ kvs, S[n]? = some (.dct kvs) ∧ Hlds S p av ks (kvs.map Prod.fst) ∧ Hlds S p av us (kvs.map Prod.snd)
  | .ins c ns us => ∃ fs, S[n]? = some (.ins c fs) ∧ fs.map Prod.fst = ns ∧ Hlds S p av us (fs.map Prod.snd)
  | _ => False
end
section
variable {S S' : Hs} {p : Nat} {av av' : Nat → Prop}
theorem Hld_non {d : D} : Hld S p av .non d ↔ d = .non := by simp only [Hld]
theorem Hld_bl {b : Bool} {d : D} : Hld S p av (.bl b) d ↔ d = .bl b := by simp only [Hld]
theorem Hld_int {b : Int} {d : D} : Hld S p av (.int b) d ↔ d = .int b := by simp only [Hld]
theorem Hld_str {b : Str} {d : D} : Hld S p av (.str b) d ↔ d = .str b := by simp only [Hld]
theorem Hld_pen {d : D} : Hld S p av .pen d ↔ d = .ref p := by simp only [Hld]
theorem Hld_tup {us : List U} {d : D} : Hld S p av (.tup us) d ↔ ∃ ds, d = .tup ds ∧ Hlds S p av us ds := by simp only [Hld]
theorem Hld_lst {us : List U} {d : D} : Hld S p av (.lst us) d ↔ ∃ n ds, d = .ref n ∧ ¬ av n ∧ S[n]? = some (.lst ds) ∧ Hlds S p av us ds := by simp only [Hld]
theorem Hld_dct {ks us : List U} {d : D} : Hld S p av (.dct ks us) d ↔ ∃ n kvs, d = .ref n ∧ ¬ av n ∧ S[n]? = some (.dct kvs) ∧ Hlds S p av ks (kvs.map Prod.fst) ∧ Hlds S p av us (kvs.map Prod.snd) := by simp only [Hld]
theorem Hld_ins {c : Nat} {ns : List Str} {us : List U} {d : D} : Hld S p av (.ins c ns us) d ↔ ∃ n fs, d = .ref n ∧ ¬ av n ∧ S[n]? = some (.ins c fs) ∧ fs.map Prod.fst = ns ∧ Hlds S p av us (fs.map Prod.snd) := by simp only [Hld]
theorem Hlds_nil {ds : List D} : Hlds S p av [] ds ↔ ds = [] := by simp only [Hlds]
theorem Hlds_cons {u : U} {us : List U} {ds : List D} : Hlds S p av (u :: us) ds ↔ ∃ d r, ds = d :: r ∧ Hld S p av u d ∧ Hlds S p av us r := by simp only [Hlds]
mutual
/-- .. in a later heap -/
theorem Hld.mv (h : ∀ n o, S[n]? = some o → ¬ av n → S'[n]? = some o ∧ ¬ av' n) : ∀ (u : U) (d : D), Hld S p av u d → Hld S' p av' u d
  | .non, _, x => by simpa only [Hld] using x
  | .bl _, _, x => by simpa only [Hld] using x
  | .int _, _, x => by simpa only [Hld] using x
  | .str _, _, x => by simpa only [Hld] using x
  | .pen, _, x => by simpa only [Hld] using x
  | .tup us, _, x => by
    rw [Hld_tup] at x ⊢
    obtain ⟨ds, e, r⟩ := x
    exact ⟨ds, e, Hlds.mv h us ds r⟩
  | .lst us, _, x => by
    rw [Hld_lst] at x ⊢
    obtain ⟨n, ds, e, a, s, r⟩ := x
    exact ⟨n, ds, e, (h n _ s a).2, (h n _ s a).1, Hlds.mv h us ds r⟩
  | .dct ks us, _, x => by
    rw [Hld_dct] at x ⊢
    obtain ⟨n, ds, e, a, s, r, t⟩ := x
    exact ⟨n, ds, e, (h n _ s a).2, (h n _ s a).1, Hlds.mv h ks _ r, Hlds.mv h us _ t⟩
  | .ins c ns us, _, x => by
    rw [Hld_ins] at x ⊢
    obtain ⟨n, ds, e, a, s, r, t⟩ := x
    exact ⟨n, ds, e, (h n _ s a).2, (h n _ s a).1, r, Hlds.mv h us _ t⟩
theorem Hlds.mv (h : ∀ n o, S[n]? = some o → ¬ av n → S'[n]? = some o ∧ ¬ av' n) : ∀ (us : List U) (ds : List D), Hlds S p av us ds → Hlds S' p av' us ds
  | [], _, x => by simpa only [Hlds] using x
  | u :: us, _, x => by
    rw [Hlds_cons] at x ⊢
    obtain ⟨d, r, e, a, b⟩ := x
    exact ⟨d, r, e, Hld.mv h u d a, Hlds.mv h us r b⟩
end
theorem Hlds.len : ∀ {us : List U} {ds : List D}, Hlds S p av us ds → us.length = ds.length
  | [], _, x => by rw [Hlds_nil] at x; rw [x]; rfl
  | u :: us, _, x => by
    rw [Hlds_cons] at x
    obtain ⟨d, r, rfl, _, b⟩ := x
    simp [b.len]
theorem Hlds.get : ∀ {us : List U} {ds : List D} {i : Nat} {u : U}, Hlds S p av us ds → us[i]? = some u → ∃ d, ds[i]? = some d ∧ Hld S p av u d
  | [], _, i, _, _, e => by simp at e
  | u :: us, _, i, u', x, e => by
    rw [Hlds_cons] at x
    obtain ⟨d, r, rfl, a, b⟩ := x
    cases i with
    | zero => simp at e; subst e; exact ⟨d, by simp, a⟩
    | succ i =>
      obtain ⟨y, q1, q2⟩ := Hlds.get (i := i) b (by simpa using e)
      exact ⟨y, by simpa using q1, q2⟩
theorem Hlds.app : ∀ {us vs : List U} {ds es : List D}, Hlds S p av us ds → Hlds S p av vs es → Hlds S p av (us ++ vs) (ds ++ es)
  | [], _, _, _, x, y => by rw [Hlds_nil] at x; subst x; simpa using y
  | u :: us, vs, _, es, x, y => by
    rw [Hlds_cons] at x
    obtain ⟨d, r, rfl, a, b⟩ := x
    show Hlds S p av (u :: (us ++ vs)) (d :: (r ++ es))
    rw [Hlds_cons]
    exact ⟨d, _, rfl, a, b.app y⟩
theorem Hlds.one {u : U} {d : D} (x : Hld S p av u d) : Hlds S p av [u] [d] := by
  rw [Hlds_cons]; exact ⟨d, [], rfl, x, by rw [Hlds_nil]⟩
theorem Hlds.drop : ∀ (n : Nat) {us : List U} {ds : List D}, Hlds S p av us ds → Hlds S p av (us.drop n) (ds.drop n)
  | 0, _, _, x => by simpa using x
  | n + 1, [], _, x => by rw [Hlds_nil] at x; subst x; simp [Hlds_nil]
  | n + 1, u :: us, _, x => by
    rw [Hlds_cons] at x
    obtain ⟨d, r, rfl, a, b⟩ := x
    simpa using b.drop n
theorem Hlds.take : ∀ (n : Nat) {us : List U} {ds : List D}, Hlds S p av us ds → Hlds S p av (us.take n) (ds.take n)
  | 0, _, _, x => by simp [Hlds_nil]
  | n + 1, [], _, x => by rw [Hlds_nil] at x; subst x; simp [Hlds_nil]
  | n + 1, u :: us, _, x => by
    rw [Hlds_cons] at x
    obtain ⟨d, r, rfl, a, b⟩ := x
    simp only [List.take_succ_cons]
    rw [Hlds_cons]
    exact ⟨d, _, rfl, a, b.take n⟩
theorem Hlds.set {u : U} {d : D} (x : Hld S p av u d) : ∀ (i : Nat) {us : List U} {ds : List D}, Hlds S p av us ds → Hlds S p av (us.set i u) (ds.set i d)
  | _, [], _, y => by rw [Hlds_nil] at y; subst y; simp [Hlds_nil]
  | 0, v :: us, _, y => by
    rw [Hlds_cons] at y
    obtain ⟨d', r, rfl, a, b⟩ := y
    simp only [List.set_cons_zero]
    rw [Hlds_cons]
    exact ⟨d, _, rfl, x, b⟩
  | i + 1, v :: us, _, y => by
    rw [Hlds_cons] at y
    obtain ⟨d', r, rfl, a, b⟩ := y
    simp only [List.set_cons_succ]
    rw [Hlds_cons]
    exact ⟨d', _, rfl, a, b.set x i⟩
theorem Hlds.erase : ∀ (i : Nat) {us : List U} {ds : List D}, Hlds S p av us ds → Hlds S p av (us.eraseIdx i) (ds.eraseIdx i)
  | _, [], _, y => by rw [Hlds_nil] at y; subst y; simp [Hlds_nil]
  | 0, v :: us, _, y => by
    rw [Hlds_cons] at y
    obtain ⟨d', r, rfl, a, b⟩ := y
    simpa using b
  | i + 1, v :: us, _, y => by
    rw [Hlds_cons] at y
    obtain ⟨d', r, rfl, a, b⟩ := y
    simp only [List.eraseIdx_cons_succ]
    rw [Hlds_cons]
    exact ⟨d', _, rfl, a, b.erase i⟩
theorem Hlds.rev : ∀ {us : List U} {ds : List D}, Hlds S p av us ds → Hlds S p av us.reverse ds.reverse
  | [], _, y => by rw [Hlds_nil] at y; subst y; simp [Hlds_nil]
  | v :: us, _, y => by
    rw [Hlds_cons] at y
    obtain ⟨d', r, rfl, a, b⟩ := y
    simp only [List.reverse_cons]
    exact b.rev.app (.one a)
theorem Hlds.dropLast {us : List U} {ds : List D} (h : Hlds S p av us ds) : Hlds S p av us.dropLast ds.dropLast := by
  rw [List.dropLast_eq_take, List.dropLast_eq_take, h.len]
  exact h.take _
theorem Hlds.rep : ∀ (n : Nat) {us : List U} {ds : List D}, Hlds S p av us ds → Hlds S p av (RS.rep n us) (RS.rep n ds)
  | 0, _, _, _ => by simp [RS.rep, Hlds_nil]
  | n + 1, us, ds, h => by
    have ih := h.rep n
    simp only [RS.rep, List.replicate_succ, List.flatten_cons] at ih ⊢
    exact h.app ih
theorem Body.mv {u : U} {n : Nat} (h : ∀ n o, S[n]? = some o → ¬ av n → S'[n]? = some o ∧ ¬ av' n) (hn : ∀ o, S[n]? = some o → S'[n]? = some o) (b : Body S p av u n) : Body S' p av' u n := by
  cases u with
  | lst us => obtain ⟨ds, e, r⟩ := b; exact ⟨ds, hn _ e, r.mv h⟩
  | dct ks us => obtain ⟨ds, e, r, t⟩ := b; exact ⟨ds, hn _ e, r.mv h, t.mv h⟩
  | ins c ns us => obtain ⟨ds, e, r, t⟩ := b; exact ⟨ds, hn _ e, r, t.mv h⟩
  | _ => exact b.elim
theorem Body.hld {u : U} {n : Nat} (b : Body S p av u n) (ha : ¬ av n) : Hld S p av u (.ref n) := by
  cases u with
  | lst us => obtain ⟨ds, e, r⟩ := b; rw [Hld_lst]; exact ⟨n, ds, rfl, ha, e, r⟩
  | dct ks us => obtain ⟨ds, e, r, t⟩ := b; rw [Hld_dct]; exact ⟨n, ds, rfl, ha, e, r, t⟩
  | ins c ns us => obtain ⟨ds, e, r, t⟩ := b; rw [Hld_ins]; exact ⟨n, ds, rfl, ha, e, r, t⟩
  | _ => exact b.elim
theorem Body.lt {u : U} {n : Nat} (b : Body S p av u n) : n < S.length := by
  cases u with
  | lst us => obtain ⟨ds, e, r⟩ := b; exact lt_of_get e
  | dct ks us => obtain ⟨ds, e, r, t⟩ := b; exact lt_of_get e
  | ins c ns us => obtain ⟨ds, e, r, t⟩ := b; exact lt_of_get e
  | _ => exact b.elim
end

/-! ### slots and their owners -/
abbrev Slot := Option (U × Bool)
abbrev Env := List Slot
def owns (ρ : Rho) (σ : Env) (i n : Nat) : Prop := ∃ u, σ[i]? = some (some (u, true)) ∧ ρ[i]? = some (some (.ref n))
def Own (ρ : Rho) (σ : Env) (n : Nat) : Prop := ∃ i, owns ρ σ i n
def Av (p : Nat) (X : Nat → Prop) (ρ : Rho) (σ : Env) (n : Nat) : Prop := n = p ∨ X n ∨ Own ρ σ n
structure Rel (p : Nat) (X : Nat → Prop) (lo : Nat) (S : Hs) (ρ : Rho) (σ : Env) : Prop where
  len : ρ.length = σ.length
  pl : ∀ (i : Nat) (u : U), σ[i]? = some (some (u, false)) → ∃ d, ρ[i]? = some (some d) ∧ Hld S p (Av p X ρ σ) u d
  ow : ∀ (i : Nat) (u : U), σ[i]? = some (some (u, true)) → ∃ n, ρ[i]? = some (some (.ref n)) ∧ Body S p (Av p X ρ σ) u n
  dis : ∀ i j n, owns ρ σ i n → owns ρ σ j n → i = j
  out : ∀ i n, owns ρ σ i n → lo ≤ n ∧ n ≠ p ∧ ¬ X n
  los : lo ≤ S.length
  plo : p < lo
  xlt : ∀ n, X n → n < S.length
/-- from S to S': what is not owned stays -/
structure Out (p : Nat) (S : Hs) (ρ : Rho) (σ : Env) (S' : Hs) (ρ' : Rho) (σ' : Env) : Prop where
  len : S.length ≤ S'.length
  frm : ∀ n, n < S.length → n ≠ p → ¬ Own ρ σ n → S'[n]? = S[n]?
  grow : ∀ n, Own ρ' σ' n → Own ρ σ n ∨ S.length ≤ n
section
variable {p lo : Nat} {X : Nat → Prop} {S S' S1 S2 : Hs} {ρ ρ' ρ1 ρ2 : Rho} {σ σ' σ1 σ2 : Env}
theorem Out.refl : Out p S ρ σ S ρ σ := ⟨Nat.le_refl _, fun _ _ _ _ => rfl, fun _ h => .inl h⟩
theorem Out.trans (a : Out p S ρ σ S1 ρ1 σ1) (b : Out p S1 ρ1 σ1 S2 ρ2 σ2) : Out p S ρ σ S2 ρ2 σ2 := by
  refine ⟨Nat.le_trans a.len b.len, fun n hn hp ho => ?_, fun n h => ?_⟩
  · rw [b.frm n (Nat.lt_of_lt_of_le hn a.len) hp fun h => ?_, a.frm n hn hp ho]
    rcases a.grow n h with h | h
    · exact ho h
    · omega
  · rcases b.grow n h with h | h
    · exact a.grow n h
    · exact .inr (Nat.le_trans a.len h)
theorem Out.avm (a : Out p S ρ σ S' ρ' σ') : ∀ n o, S[n]? = some o → ¬ Av p X ρ σ n → S'[n]? = some o ∧ ¬ Av p X ρ' σ' n := by
  intro n o e h
  have hn := lt_of_get e
  have hp : n ≠ p := fun q => h (.inl q)
  have ho : ¬ Own ρ σ n := fun q => h (.inr (.inr q))
  refine ⟨(a.frm n hn hp ho).trans e, fun q => ?_⟩
  rcases q with q | q | q
  · exact hp q
  · exact h (.inr (.inl q))
  · rcases a.grow n q with q | q
    · exact ho q
    · omega
theorem Out.hld (a : Out p S ρ σ S' ρ' σ') {u : U} {d : D} (h : Hld S p (Av p X ρ σ) u d) : Hld S' p (Av p X ρ' σ') u d := h.mv a.avm
theorem Out.hlds (a : Out p S ρ σ S' ρ' σ') {u : List U} {d : List D} (h : Hlds S p (Av p X ρ σ) u d) : Hlds S' p (Av p X ρ' σ') u d := h.mv a.avm
/-- a pure growth of the heap -/
theorem Out.app {T : Hs} : Out p S ρ σ (S ++ T) ρ σ := ⟨by simp, fun n hn _ _ => List.getElem?_append_left hn, fun _ h => .inl h⟩
theorem Rel.app {T : Hs} (r : Rel p X lo S ρ σ) : Rel p X lo (S ++ T) ρ σ := by
  have h : ∀ n o, S[n]? = some o → ¬ Av p X ρ σ n → (S ++ T)[n]? = some o ∧ ¬ Av p X ρ σ n := fun n o e a => ⟨by rw [List.getElem?_append_left (lt_of_get e)]; exact e, a⟩
  refine ⟨r.len, fun i u e => ?_, fun i u e => ?_, r.dis, r.out, by rw [List.length_append]; exact Nat.le_trans r.los (by omega), r.plo, fun n hn => by rw [List.length_append]; exact Nat.lt_of_lt_of_le (r.xlt n hn) (by omega)⟩
  · obtain ⟨d, h1, h2⟩ := r.pl i u e
    exact ⟨d, h1, h2.mv h⟩
  · obtain ⟨n, h1, h2⟩ := r.ow i u e
    exact ⟨n, h1, h2.mv h fun o e => by rw [List.getElem?_append_left (lt_of_get e)]; exact e⟩
theorem Av.lt (r : Rel p X lo S ρ σ) {n : Nat} (h : Av p X ρ σ n) : n < S.length := by
  rcases h with h | h | ⟨i, u, h1, h2⟩
  · have := r.plo; have := r.los; omega
  · exact r.xlt n h
  · obtain ⟨m, h3, h4⟩ := r.ow i u h1
    rw [h2] at h3
    cases h3
    exact h4.lt
/-- the address that comes next is avoided by all -/
theorem Rel.fresh {o : O} (r : Rel p X lo S ρ σ) : Rel p (fun m => X m ∨ m = S.length) lo (S ++ [o]) ρ σ := by
  have h : ∀ n o', S[n]? = some o' → ¬ Av p X ρ σ n → (S ++ [o])[n]? = some o' ∧ ¬ Av p (fun m => X m ∨ m = S.length) ρ σ n := fun n o' e a => ⟨by rw [List.getElem?_append_left (lt_of_get e)]; exact e, fun q => by
    rcases q with q | (q | q) | q
    · exact a (.inl q)
    · exact a (.inr (.inl q))
    · have := lt_of_get e; omega
    · exact a (.inr (.inr q))⟩
  refine ⟨r.len, fun i u e => ?_, fun i u e => ?_, r.dis, fun i n e => ?_, by rw [List.length_append]; exact Nat.le_trans r.los (by omega), r.plo, fun n hn => ?_⟩
  · obtain ⟨d, h1, h2⟩ := r.pl i u e
    exact ⟨d, h1, h2.mv h⟩
  · obtain ⟨n, h1, h2⟩ := r.ow i u e
    exact ⟨n, h1, h2.mv h fun o e => by rw [List.getElem?_append_left (lt_of_get e)]; exact e⟩
  · obtain ⟨h1, h2, h3⟩ := r.out i n e
    have := (show Av p X ρ σ n from .inr (.inr ⟨i, e⟩)).lt r
    exact ⟨h1, h2, fun q => q.elim h3 (by omega)⟩
  · rw [List.length_append, List.length_singleton]
    rcases hn with hn | hn
    · have := r.xlt n hn; omega
    · omega
theorem Av.fresh_hld {o : O} {u : U} {d : D} (r : Rel p X lo S ρ σ) (h : Hld S p (Av p X ρ σ) u d) : Hld (S ++ [o]) p (Av p (fun m => X m ∨ m = S.length) ρ σ) u d :=
  h.mv fun n o' e a => ⟨by rw [List.getElem?_append_left (lt_of_get e)]; exact e, fun q => by
    rcases q with q | (q | q) | q
    · exact a (.inl q)
    · exact a (.inr (.inl q))
    · have := lt_of_get e; omega
    · exact a (.inr (.inr q))⟩
theorem Av.fresh_hlds {o : O} {u : List U} {d : List D} (r : Rel p X lo S ρ σ) (h : Hlds S p (Av p X ρ σ) u d) : Hlds (S ++ [o]) p (Av p (fun m => X m ∨ m = S.length) ρ σ) u d :=
  h.mv fun n o' e a => ⟨by rw [List.getElem?_append_left (lt_of_get e)]; exact e, fun q => by
    rcases q with q | (q | q) | q
    · exact a (.inl q)
    · exact a (.inr (.inl q))
    · have := lt_of_get e; omega
    · exact a (.inr (.inr q))⟩
/-- what a value is: owned by nobody (fr), or looked at -/
def Res (p : Nat) (X : Nat → Prop) (lo : Nat) (S0 : Hs) (S : Hs) (ρ : Rho) (σ : Env) (u : U) (fr : Bool) (d : D) : Prop := match fr with
  | false => Rel p X lo S ρ σ ∧ Hld S p (Av p X ρ σ) u d
  | true => ∃ n, d = .ref n ∧ Rel p (fun m => X m ∨ m = n) lo S ρ σ ∧ Body S p (Av p (fun m => X m ∨ m = n) ρ σ) u n ∧ lo ≤ n ∧ S0.length ≤ n ∧ n ≠ p ∧ ¬ X n ∧ ¬ Own ρ σ n
theorem Rel.less {Y : Nat → Prop} (r : Rel p Y lo S ρ σ) (h : ∀ n, X n → Y n) : Rel p X lo S ρ σ := by
  have g : ∀ n o, S[n]? = some o → ¬ Av p Y ρ σ n → S[n]? = some o ∧ ¬ Av p X ρ σ n := fun n o e a => ⟨e, fun q => by
    rcases q with q | q | q
    · exact a (.inl q)
    · exact a (.inr (.inl (h n q)))
    · exact a (.inr (.inr q))⟩
  refine ⟨r.len, fun i u e => ?_, fun i u e => ?_, r.dis, fun i n e => ?_, r.los, r.plo, fun n hn => r.xlt n (h n hn)⟩
  · obtain ⟨d, h1, h2⟩ := r.pl i u e
    exact ⟨d, h1, h2.mv g⟩
  · obtain ⟨n, h1, h2⟩ := r.ow i u e
    exact ⟨n, h1, h2.mv g fun _ e => e⟩
  · obtain ⟨h1, h2, h3⟩ := r.out i n e
    exact ⟨h1, h2, fun q => h3 (h n q)⟩
theorem Av.less_hld {Y : Nat → Prop} {u : U} {d : D} (h : ∀ n, X n → Y n) (x : Hld S p (Av p Y ρ σ) u d) : Hld S p (Av p X ρ σ) u d :=
  x.mv fun n o e a => ⟨e, fun q => by
    rcases q with q | q | q
    · exact a (.inl q)
    · exact a (.inr (.inl (h n q)))
    · exact a (.inr (.inr q))⟩
theorem Av.less_body {Y : Nat → Prop} {u : U} {n : Nat} (h : ∀ n, X n → Y n) (x : Body S p (Av p Y ρ σ) u n) : Body S p (Av p X ρ σ) u n :=
  x.mv (fun n o e a => ⟨e, fun q => by
    rcases q with q | q | q
    · exact a (.inl q)
    · exact a (.inr (.inl (h n q)))
    · exact a (.inr (.inr q))⟩) fun _ e => e
theorem Res.plain {S0 : Hs} {u : U} {fr : Bool} {d : D} (r : Res p X lo S0 S ρ σ u fr d) : Rel p X lo S ρ σ ∧ Hld S p (Av p X ρ σ) u d := by
  cases fr with
  | false => exact r
  | true =>
    obtain ⟨n, rfl, r1, r2, h1, h2, h3, h4, h5⟩ := r
    have r3 := r1.less (X := X) fun n h => .inl h
    refine ⟨r3, (Av.less_body (X := X) (fun n h => .inl h) r2).hld fun q => ?_⟩
    rcases q with q | q | q
    · exact h3 q
    · exact h4 q
    · exact h5 q
theorem Res.rel {S0 : Hs} {u : U} {fr : Bool} {d : D} (r : Res p X lo S0 S ρ σ u fr d) : Rel p X lo S ρ σ := r.plain.1
/-- a new thing -/
theorem Res.newL {us : List U} {ds : List D} {S0 : Hs} (r : Rel p X lo S ρ σ) (h : Hlds S p (Av p X ρ σ) us ds) (hl : S0.length ≤ S.length) : Res p X lo S0 (S ++ [.lst ds]) ρ σ (.lst us) true (.ref S.length) := by
  have hr := r.los
  have hp := r.plo
  refine ⟨S.length, rfl, r.fresh, ⟨ds, by simp, Av.fresh_hlds r h⟩, hr, hl, by omega, fun q => ?_, fun q => ?_⟩
  · have := r.xlt _ q; omega
  · have := (show Av p X ρ σ _ from .inr (.inr q)).lt r; omega
end
end RS

/-! V2: operators, built-ins, methods on values with lists by value; each against the language's own -/
namespace RS
open PySem
/-! ### the functions -/
def seqU : U → Option (List U)
  | .tup us => some us
  | .lst us => some us
  | _ => none
def pyU : Nat → U → Option PyData
  | 0, _ => none
  | _ + 1, .non => some .none
  | _ + 1, .bl b => some (.bool b)
  | _ + 1, .int i => some (.int i)
  | _ + 1, .str s => some (.str s)
  | n + 1, .tup us => (mapO (pyU n) us).map .tuple
  | n + 1, .lst us => (mapO (pyU n) us).map .list
  | _, _ => none
def shpU (u : U) : Option PyData := match pyU 66 u with
  | some p => if SeqAt.shaped p = true then some p else none
  | none => none
def asIU : U → Option Int
  | .int i => some i
  | _ => none
def asBU : U → Option Bool
  | .bl b => some b
  | _ => none
def asSU : U → Option Str
  | .str x => some x
  | _ => none
def flatU : U → Bool
  | .non => true
  | .bl _ => true
  | .int _ => true
  | .str _ => true
  | _ => false
def eqFU : U → U → Bool
  | .non, .non => true
  | .bl a, .bl b => a == b
  | .int a, .int b => a == b
  | .bl a, .int b => (if a then 1 else 0) == b
  | .int a, .bl b => a == (if b then 1 else 0)
  | .str a, .str b => a == b
  | _, _ => false
def binU : Bop → U → U → Option (U × Bool)
  | .add, .int i, .int j => some (.int (i + j), false)
  | .add, .str x, .str y => if x.length + y.length ≤ sizeLine then some (.str (x ++ y), false) else none
  | .add, .tup xs, .tup ys => if xs.length + ys.length ≤ sizeLine then some (.tup (xs ++ ys), false) else none
  | .add, .lst xs, .lst ys => if xs.length + ys.length ≤ sizeLine then some (.lst (xs ++ ys), true) else none
  | .sub, .int i, .int j => some (.int (i - j), false)
  | .mul, .int i, .int j => if mulOk i j then some (.int (i * j), false) else none
  | .mul, .tup xs, .int k => if xs ≠ [] ∧ 2 ≤ k ∧ k ≤ 1000 ∧ xs.length ≤ 1000 then some (.tup (rep k.toNat xs), false) else none
  | .mul, .lst xs, .int k => if -(2 ^ 63) ≤ k ∧ k < 2 ^ 63 ∧ xs.length * k.toNat ≤ sizeLine then some (.lst (rep k.toNat xs), true) else none
  | .fdv, .int i, .int j => if j ≠ 0 ∧ j.natAbs < 1073741824 then some (.int (i.fdiv j), false) else none
  | .mod, .int i, .int j => if j ≠ 0 then some (.int (i.fmod j), false) else none
  | .pow, .int i, .int j => if 0 ≤ j ∧ j ≤ 1000000 ∧ i.natAbs < 2 ^ 64 then some (.int (i ^ j.toNat), false) else none
  | _, _, _ => none
def augU : Bop → U → U → Option U
  | .add, .int i, .int j => some (.int (i + j))
  | .sub, .int i, .int j => some (.int (i - j))
  | _, _, _ => none
def eqU : U → U → Option Bool
  | .int i, .int j => some (decide (i = j))
  | .str x, .str y => some (decide (x = y))
  | x, y => match shpU x, shpU y with
    | some p, some q => some (PyData.eqv p q)
    | _, _ => none
def memU (x : U) : U → Option Bool
  | .str z => match x with
    | .str y => some (!(Builtin.Str.occurrences z y 0 z.length 1).isEmpty)
    | _ => none
  | y => match seqU y with
    | some us => if flatU x && us.all flatU then some (us.any fun z => eqFU z x) else none
    | none => none
def cmpU : Cop → U → U → Option Bool
  | .lt, .int i, .int j => some (decide (i < j))
  | .le, .int i, .int j => some (decide (i ≤ j))
  | .gt, .int i, .int j => some (decide (j < i))
  | .ge, .int i, .int j => some (decide (j ≤ i))
  | .eq, x, y => eqU x y
  | .ne, x, y => (eqU x y).map (!·)
  | .mem, x, y => memU x y
  | .nmem, x, y => (memU x y).map (!·)
  | _, _, _ => none
def isNU : U → Bool
  | .non => true
  | _ => false
def tyIsU (u : U) : Ty → Option Bool
  | .int => some (match u with | .int _ => true | .bl _ => true | _ => false)
  | .bool => some (match u with | .bl _ => true | _ => false)
  | .str => some (match u with | .str _ => true | _ => false)
  | .tuple => some (match u with | .tup _ => true | _ => false)
  | .list => match u with
    | .lst _ => some true
    | .pen => none
    | _ => some false
  | .dict => match u with
    | .dct _ _ => some true
    | .pen => none
    | _ => some false
  | .cls c => match u with
    | .ins c' _ _ => some (decide (c = c'))
    | .pen => none
    | _ => some false
def tysAreU (u : U) : List Ty → Option Bool
  | [] => some false
  | t :: ts => match tyIsU u t, tysAreU u ts with
    | some a, some b => some (a || b)
    | _, _ => none
def signsU (x : Str) : List U := x.cps.toList.map fun c => .str ⟨#[c]⟩
def lenU : U → Option Nat
  | .str x => if x.length ≤ sizeLine then some x.length else none
  | u => (seqU u).map List.length
def biU : Bi → List U → Option (U × Bool)
  | .len, [u] => (lenU u).map fun (n : Nat) => (.int (n : Int), false)
  | .int, [.int i] => some (.int i, false)
  | .int, [.bl b] => some (.int (if b then 1 else 0), false)
  | .list, [.str x] => if x.length ≤ sizeLine then some (.lst (signsU x), true) else none
  | .list, [u] => (seqU u).map fun us => (.lst us, true)
  | .tuple, [u] => (seqU u).map fun us => (.tup us, false)
  | .sum, [.lst us] => (mapO asIU us).map fun ns => (.int ns.sum, false)
  | .all, [.lst us] => (mapO asBU us).map fun bs => (.bl (bs.all id), false)
  | .any, [.lst us] => (mapO asBU us).map fun bs => (.bl (bs.any id), false)
  | .max, [.lst us] => ((mapO asIU us).bind maxL).map fun n => (.int n, false)
  | .min, [.lst us] => ((mapO asIU us).bind minL).map fun n => (.int n, false)
  | .max, [.int i, .int j] => some (.int (if j > i then j else i), false)
  | .min, [.int i, .int j] => some (.int (if j < i then j else i), false)
  | .sortedSet, [.str x] => if x.length + 1 < 4096 then some (.lst ((sortC x.cps.toList).map fun c => .str ⟨#[c]⟩), true) else none
  | .sortedSet, [.lst us] => if us.length + 1 < 4096 then (mapO asIU us).map fun is => (.lst ((sortI is).map .int), true) else none
  | .split, [.str x, .str y] => if (y.length == 0) = false ∧ x.length + 2 ≤ sizeLine then some (.lst ((Txt.split x y).map .str), true) else none
  | _, _ => none
/-- methods that change a list: what they give, what the list is then -/
def mtU : Mt → List U → List U → Option (U × List U)
  | .append, xs, [x] => if xs.length < sizeLine then some (.non, xs ++ [x]) else none
  | .extend, xs, [.lst ys] => if xs.length + ys.length ≤ sizeLine then some (.non, xs ++ ys) else none
  | .insert, xs, [.int i, x] => if xs.length < sizeLine ∧ 0 ≤ i ∧ i < 2 ^ 63 then some (.non, xs.take i.toNat ++ [x] ++ xs.drop i.toNat) else none
  | .pop, xs, [] => match xs[xs.length - 1]? with
    | some y => some (y, xs.dropLast)
    | none => none
  | .pop, xs, [.int i] => if -(2 ^ 63) ≤ i ∧ i < 2 ^ 63 then match L2.ixN xs.length i with
      | some k => match xs[k]? with
        | some y => some (y, xs.eraseIdx k)
        | none => none
      | none => none
    else none
  | _, _, _ => none
def joinU (x : Str) (u : U) : Option U := match (seqU u).bind (mapO asSU) with
  | some ys => if (ys.map (·.length)).sum + ys.length * x.length ≤ 16777216 then some (.str (Txt.join x ys)) else none
  | none => none
def ixU : U → U → Option U
  | .str x, .int i => if x.length ≤ sizeLine then (L2.atI x.cps.toList i).map fun c => .str ⟨#[c]⟩ else none
  | u, .int i => (seqU u).bind fun us => L2.atI us i
  | _, _ => none
def slU (u : U) (lo hi : Option Int) : Option (U × Bool) := match u with
  | .str x => if x.length ≤ sizeLine then some (.str ⟨(cutD x.cps.toList lo hi).toArray⟩, false) else none
  | .tup us => some (.tup (cutD us lo hi), false)
  | .lst us => some (.lst (cutD us lo hi), true)
  | _ => none
def rangeU (lo : Int) (n : Nat) : List U := (List.range n).map fun (i : Nat) => .int (lo + i)
def rangeCU (lo c : Int) (n : Nat) : List U := (List.range n).map fun (i : Nat) => .int (lo + i * c)
def rgU : List U → Option (List U)
  | [.int j] => if big62 j then some (rangeU 0 j.toNat) else none
  | [.int i, .int j] => if big62 i && big62 j then some (rangeU i (j - i).toNat) else none
  | [.int i, .int j, .int c] => if big62 i && big62 j && decide (c = -1) then some (rangeCU i (-1) (i - j).toNat) else none
  | _ => none
def lrU : List U → Option U
  | [.int j] => if big62 j = true ∧ j.toNat ≤ 2 ^ 24 then some (.lst (rangeU 0 j.toNat)) else none
  | [.int i, .int j] => if big62 i = true ∧ big62 j = true ∧ (j - i).toNat ≤ 2 ^ 24 then some (.lst (rangeU i (j - i).toNat)) else none
  | _ => none
def srcU : U → Option (List U)
  | .tup us => some us
  | .lst us => some us
  | .str x => some (signsU x)
  | _ => none
def numberedU : Nat → List U → List U
  | _, [] => []
  | i, d :: ds => .tup [.int i, d] :: numberedU (i + 1) ds
def pairsUpU : List U → List U → List U
  | x :: xs, y :: ys => .tup [x, y] :: pairsUpU xs ys
  | _, _ => []
def zpU (st : Bool) : List U → Option (List U)
  | [.tup xs, .tup ys] => if st && xs.length != ys.length then none else some (pairsUpU xs ys)
  | [.lst xs, .lst ys] => if st && xs.length != ys.length then none else some (pairsUpU xs ys)
  | _ => none

/-! ### against the language -/
/-- an operand: looked at, its top perhaps owned -/
def Opn (S : Hs) (p : Nat) (av : Nat → Prop) (u : U) (d : D) : Prop := Hld S p av u d ∨ ∃ n, d = .ref n ∧ Body S p av u n
/-- what an operator gives -/
def HldO (S : Hs) (p : Nat) (av : Nat → Prop) : U → O → Prop
  | .lst us, .lst ds => Hlds S p av us ds
  | .dct ks us, .dct kvs => Hlds S p av ks (kvs.map Prod.fst) ∧ Hlds S p av us (kvs.map Prod.snd)
  | .ins c ns us, .ins c' fs => c = c' ∧ fs.map Prod.fst = ns ∧ Hlds S p av us (fs.map Prod.snd)
  | _, _ => False
def OpR (S : Hs) (p : Nat) (av : Nat → Prop) (r : R D) (u : U) (fr : Bool) : Prop := match fr with
  | false => ∃ d, r = .ok d S ∧ Hld S p av u d
  | true => ∃ o, r = newO o S ∧ HldO S p av u o
section
variable {S : Hs} {p : Nat} {av : Nat → Prop}
theorem Opn.lst {us : List U} {d : D} (h : Opn S p av (.lst us) d) : ∃ n ds, d = .ref n ∧ S[n]? = some (.lst ds) ∧ Hlds S p av us ds := by
  rcases h with h | ⟨n, rfl, ds, e, r⟩
  · rw [Hld_lst] at h
    obtain ⟨n, ds, rfl, _, e, r⟩ := h
    exact ⟨n, ds, rfl, e, r⟩
  · exact ⟨n, ds, rfl, e, r⟩
theorem Opn.dct {ks us : List U} {d : D} (h : Opn S p av (.dct ks us) d) : ∃ n kvs, d = .ref n ∧ S[n]? = some (.dct kvs) ∧ Hlds S p av ks (kvs.map Prod.fst) ∧ Hlds S p av us (kvs.map Prod.snd) := by
  rcases h with h | ⟨n, rfl, ds, e, r⟩
  · rw [Hld_dct] at h
    obtain ⟨n, ds, rfl, _, e, r⟩ := h
    exact ⟨n, ds, rfl, e, r⟩
  · exact ⟨n, ds, rfl, e, r⟩
theorem Opn.ins {c : Nat} {ns : List Str} {us : List U} {d : D} (h : Opn S p av (.ins c ns us) d) : ∃ n fs, d = .ref n ∧ S[n]? = some (.ins c fs) ∧ fs.map Prod.fst = ns ∧ Hlds S p av us (fs.map Prod.snd) := by
  rcases h with h | ⟨n, rfl, ds, e, r⟩
  · rw [Hld_ins] at h
    obtain ⟨n, ds, rfl, _, e, r⟩ := h
    exact ⟨n, ds, rfl, e, r⟩
  · exact ⟨n, ds, rfl, e, r⟩
theorem Opn.non {d : D} (h : Opn S p av .non d) : d = .non := h.elim Hld_non.mp fun ⟨_, _, b⟩ => b.elim
theorem Opn.bl {b : Bool} {d : D} (h : Opn S p av (.bl b) d) : d = .bl b := h.elim Hld_bl.mp fun ⟨_, _, b⟩ => b.elim
theorem Opn.int {i : Int} {d : D} (h : Opn S p av (.int i) d) : d = .int i := h.elim Hld_int.mp fun ⟨_, _, b⟩ => b.elim
theorem Opn.str {x : Str} {d : D} (h : Opn S p av (.str x) d) : d = .str x := h.elim Hld_str.mp fun ⟨_, _, b⟩ => b.elim
theorem Opn.pen {d : D} (h : Opn S p av .pen d) : d = .ref p := h.elim Hld_pen.mp fun ⟨_, _, b⟩ => b.elim
theorem Opn.tup {us : List U} {d : D} (h : Opn S p av (.tup us) d) : ∃ ds, d = .tup ds ∧ Hlds S p av us ds := h.elim Hld_tup.mp fun ⟨_, _, b⟩ => b.elim
theorem Opn.seq {u : U} {us : List U} {d : D} (h : Opn S p av u d) (e : seqU u = some us) : ∃ ds, seqOf S d = some ds ∧ Hlds S p av us ds := by
  cases u with
  | tup vs => cases e; obtain ⟨ds, rfl, r⟩ := h.tup; exact ⟨ds, rfl, r⟩
  | lst vs => cases e; obtain ⟨n, ds, rfl, e, r⟩ := h.lst; exact ⟨ds, by simp only [seqOf, e], r⟩
  | _ => cases e
theorem mapO_hlds {α : Type} {f : U → Option α} {g : D → Option α} (h : ∀ u d a, Hld S p av u d → f u = some a → g d = some a) : ∀ {us : List U} {ds : List D} {as : List α}, Hlds S p av us ds → mapO f us = some as → mapO g ds = some as
  | [], ds, as, x, e => by rw [Hlds_nil] at x; subst x; exact e
  | u :: us, _, as, x, e => by
    rw [Hlds_cons] at x
    obtain ⟨d, r, rfl, a, b⟩ := x
    simp only [mapO] at e ⊢
    cases q : f u with
    | none => rw [q] at e; cases e
    | some v =>
      cases q2 : mapO f us with
      | none => rw [q, q2] at e; cases e
      | some vs =>
        rw [q, q2] at e
        rw [h u d v a q, mapO_hlds h b q2]
        exact e
theorem asI_hld {u : U} {d : D} {i : Int} (h : Hld S p av u d) (e : asIU u = some i) : asI d = some i := by
  cases u <;> simp only [asIU] at e <;> try cases e
  rw [Hld_int] at h; rw [h]; rfl
theorem asB_hld {u : U} {d : D} {i : Bool} (h : Hld S p av u d) (e : asBU u = some i) : asB d = some i := by
  cases u <;> simp only [asBU] at e <;> try cases e
  rw [Hld_bl] at h; rw [h]; rfl
theorem asS_hld {u : U} {d : D} {i : Str} (h : Hld S p av u d) (e : asSU u = some i) : asS d = some i := by
  cases u <;> simp only [asSU] at e <;> try cases e
  rw [Hld_str] at h; rw [h]; rfl
theorem pyU_hld : ∀ (n : Nat) {u : U} {d : D} {q : PyData}, Opn S p av u d → pyU n u = some q → pdat S n d = some q
  | 0, _, _, _, _, e => by simp [pyU] at e
  | n + 1, u, d, q, h, e => by
    cases u with
    | non => rw [h.non]; simpa only [pyU, pdat] using e
    | bl b => rw [h.bl]; simpa only [pyU, pdat] using e
    | int b => rw [h.int]; simpa only [pyU, pdat] using e
    | str b => rw [h.str]; simpa only [pyU, pdat] using e
    | tup us =>
      obtain ⟨ds, rfl, r⟩ := h.tup
      simp only [pyU] at e
      simp only [pdat]
      obtain ⟨qs, e1, rfl⟩ := Option.map_eq_some_iff.mp e
      rw [mapO_hlds (fun u d a x y => pyU_hld n (.inl x) y) r e1]; rfl
    | lst us =>
      obtain ⟨m, ds, rfl, hm, r⟩ := h.lst
      simp only [pyU] at e
      simp only [pdat, hm]
      obtain ⟨qs, e1, rfl⟩ := Option.map_eq_some_iff.mp e
      rw [mapO_hlds (fun u d a x y => pyU_hld n (.inl x) y) r e1]; rfl
    | _ => simp [pyU] at e
theorem shpU_hld {u : U} {d : D} {q : PyData} (h : Opn S p av u d) (e : shpU u = some q) : shp S d = some q := by
  unfold shpU at e
  unfold shp
  cases e1 : pyU 66 u with
  | none => rw [e1] at e; cases e
  | some r => rw [e1] at e; rw [pyU_hld 66 h e1]; exact e
theorem eqU_hld {x y : U} {a b : D} {r : Bool} (h : Opn S p av x a) (h2 : Opn S p av y b) (e : eqU x y = some r) : eqD S a b = some r := by
  have gen : (match shpU x, shpU y with | some p, some q => some (PyData.eqv p q) | _, _ => none) = some r → (match shp S a, shp S b with | some p, some q => some (PyData.eqv p q) | _, _ => none) = some r := by
    intro e
    cases e1 : shpU x with
    | none => rw [e1] at e; cases e
    | some q =>
      cases e2 : shpU y with
      | none => rw [e1, e2] at e; cases e
      | some q2 =>
        rw [e1, e2] at e
        rw [shpU_hld h e1, shpU_hld h2 e2]
        exact e
  have tail : (∀ i j, ¬ (a = .int i ∧ b = .int j)) → (∀ i j, ¬ (a = .str i ∧ b = .str j)) → (match shp S a, shp S b with | some p, some q => some (PyData.eqv p q) | _, _ => none) = some r → eqD S a b = some r := by
    intro n1 n2 g
    unfold eqD
    cases a <;> cases b <;> first | exact g | exact absurd ⟨rfl, rfl⟩ (n1 _ _) | exact absurd ⟨rfl, rfl⟩ (n2 _ _)
  have ni : ∀ {u : U} {d : D} {i : Int}, Opn S p av u d → d = .int i → u = .int i := by
    intro u d i h e; subst e
    rcases h with h | ⟨n, h, _⟩
    · cases u <;> simp [Hld] at h; subst h; rfl
    · cases h
  have ns : ∀ {u : U} {d : D} {i : Str}, Opn S p av u d → d = .str i → u = .str i := by
    intro u d i h e; subst e
    rcases h with h | ⟨n, h, _⟩
    · cases u <;> simp [Hld] at h; subst h; rfl
    · cases h
  by_cases c1 : ∃ i j, x = .int i ∧ y = .int j
  · obtain ⟨i, j, rfl, rfl⟩ := c1
    rw [h.int, h2.int]; exact e
  by_cases c2 : ∃ i j, x = .str i ∧ y = .str j
  · obtain ⟨i, j, rfl, rfl⟩ := c2
    rw [h.str, h2.str]; exact e
  refine tail (fun i j q => c1 ⟨i, j, ni h q.1, ni h2 q.2⟩) (fun i j q => c2 ⟨i, j, ns h q.1, ns h2 q.2⟩) (gen ?_)
  unfold eqU at e
  cases x <;> cases y <;> first | exact e | exact absurd ⟨_, _, rfl, rfl⟩ c1 | exact absurd ⟨_, _, rfl, rfl⟩ c2
end
end RS

/-! V3: each operator on values against the language's own -/
namespace RS
open PySem
section
variable {S : Hs} {p : Nat} {av : Nat → Prop}
theorem OpR.ok {r : R D} {u : U} {d : D} (h : r = .ok d S) (x : Hld S p av u d) : OpR S p av r u false := ⟨d, h, x⟩
theorem OpR.nw {r : R D} {us : List U} {ds : List D} (h : r = newO (.lst ds) S) (x : Hlds S p av us ds) : OpR S p av r (.lst us) true := ⟨.lst ds, h, x⟩
theorem ite_someP {α : Type} {c : Prop} [Decidable c] {x y : α} (h : (if c then some x else none) = some y) : c ∧ x = y := by
  split at h
  · exact ⟨by assumption, Option.some.inj h⟩
  · cases h
theorem Hlds.ne {us : List U} {ds : List D} (h : Hlds S p av us ds) (n : us ≠ []) : ds ≠ [] := fun e => by
  subst e
  cases us with
  | nil => exact n rfl
  | cons u us => rw [Hlds_cons] at h; obtain ⟨d, r, e, _⟩ := h; cases e
theorem binU_hld {o : Bop} {x y u : U} {fr : Bool} {a b : D} (h : Opn S p av x a) (h2 : Opn S p av y b) (e : binU o x y = some (u, fr)) : OpR S p av (binD S o a b) u fr := by
  unfold binU at e
  split at e
  · cases e; rw [h.int, h2.int]; exact .ok rfl (Hld_int.mpr rfl)
  · obtain ⟨c, e⟩ := ite_someP e
    cases e; rw [h.str, h2.str]; exact .ok (by simp only [binD, lim, if_pos c]) (Hld_str.mpr rfl)
  · obtain ⟨c, e⟩ := ite_someP e
    obtain ⟨xs, rfl, r1⟩ := h.tup
    obtain ⟨ys, rfl, r2⟩ := h2.tup
    cases e; exact .ok (by simp only [binD, lim]; rw [← r1.len, ← r2.len, if_pos c]) (Hld_tup.mpr ⟨_, rfl, r1.app r2⟩)
  · obtain ⟨c, e⟩ := ite_someP e
    obtain ⟨n, xs, rfl, s1, r1⟩ := h.lst
    obtain ⟨m, ys, rfl, s2, r2⟩ := h2.lst
    cases e; exact .nw (by simp only [binD, s1, s2, lim]; rw [← r1.len, ← r2.len, if_pos c]) (r1.app r2)
  · cases e; rw [h.int, h2.int]; exact .ok rfl (Hld_int.mpr rfl)
  · obtain ⟨c, e⟩ := ite_someP e
    cases e; rw [h.int, h2.int]; exact .ok (by simp only [binD, if_pos c]) (Hld_int.mpr rfl)
  · obtain ⟨c, e⟩ := ite_someP e
    obtain ⟨xs, rfl, r1⟩ := h.tup
    cases e; rw [h2.int]; exact .ok (by simp only [binD]; rw [if_pos ⟨r1.ne c.1, c.2.1, c.2.2.1, by rw [← r1.len]; exact c.2.2.2⟩]) (Hld_tup.mpr ⟨_, rfl, r1.rep _⟩)
  · obtain ⟨c, e⟩ := ite_someP e
    obtain ⟨n, xs, rfl, s1, r1⟩ := h.lst
    cases e; rw [h2.int]; exact .nw (by simp only [binD, s1]; rw [if_pos (by rw [← r1.len]; exact c)]) (r1.rep _)
  · obtain ⟨c, e⟩ := ite_someP e
    cases e; rw [h.int, h2.int]; exact .ok (by simp only [binD, if_pos c]) (Hld_int.mpr rfl)
  · obtain ⟨c, e⟩ := ite_someP e
    cases e; rw [h.int, h2.int]; exact .ok (by simp only [binD, if_pos c]) (Hld_int.mpr rfl)
  · obtain ⟨c, e⟩ := ite_someP e
    cases e; rw [h.int, h2.int]; exact .ok (by simp only [binD, if_pos c]) (Hld_int.mpr rfl)
  · cases e
theorem augU_hld {o : Bop} {x y u : U} {a b : D} (h : Opn S p av x a) (h2 : Opn S p av y b) (e : augU o x y = some u) : ∃ d, augD S o a b = .ok d S ∧ Hld S p av u d := by
  unfold augU at e
  split at e
  · cases e; rw [h.int, h2.int]; exact ⟨_, rfl, Hld_int.mpr rfl⟩
  · cases e; rw [h.int, h2.int]; exact ⟨_, rfl, Hld_int.mpr rfl⟩
  · cases e
theorem flat_hld {u : U} {d : D} (h : Hld S p av u d) (f : flatU u = true) : flatD d = true := by
  cases u <;> simp only [flatU, Bool.false_eq_true] at f <;> simp only [Hld] at h <;> rw [h] <;> rfl
theorem eqF_hld {x y : U} {a b : D} (h : Hld S p av x a) (h2 : Hld S p av y b) (f : flatU x = true) (f2 : flatU y = true) : eqF a b = eqFU x y := by
  cases x <;> simp only [flatU, Bool.false_eq_true] at f <;> cases y <;> simp only [flatU, Bool.false_eq_true] at f2 <;> simp only [Hld] at h h2 <;> subst h <;> subst h2 <;> rfl
theorem flats_hld : ∀ {us : List U} {ds : List D}, Hlds S p av us ds → us.all flatU = true → ds.all flatD = true
  | [], _, h, _ => by rw [Hlds_nil] at h; subst h; rfl
  | u :: us, _, h, f => by
    rw [Hlds_cons] at h
    obtain ⟨d, r, rfl, a, b⟩ := h
    simp only [List.all_cons, Bool.and_eq_true] at f ⊢
    exact ⟨flat_hld a f.1, flats_hld b f.2⟩
theorem anyF_hld {x : U} {a : D} (h : Hld S p av x a) (f : flatU x = true) : ∀ {us : List U} {ds : List D}, Hlds S p av us ds → us.all flatU = true → (ds.any fun z => eqF z a) = us.any fun z => eqFU z x
  | [], _, h, _ => by rw [Hlds_nil] at h; subst h; rfl
  | u :: us, _, h', f' => by
    rw [Hlds_cons] at h'
    obtain ⟨d, r, rfl, q, b⟩ := h'
    simp only [List.all_cons, Bool.and_eq_true] at f'
    simp only [List.any_cons]
    rw [eqF_hld q h f'.1 f, anyF_hld h f b f'.2]
theorem memU_hld {x y : U} {a b : D} {r : Bool} {neg : Bool} (h : Opn S p av x a) (h2 : Opn S p av y b) (e : memU x y = some r) : memD S neg a b = .ok (.bl (neg != r)) S := by
  have gen : ∀ us, seqU y = some us → memD S neg a b = .ok (.bl (neg != r)) S := by
    intro us q
    obtain ⟨ds, q1, q2⟩ := h2.seq q
    have e' : (if flatU x && us.all flatU then some (us.any fun z => eqFU z x) else none) = some r := by
      unfold memU at e
      cases y with
      | tup vs => cases q; exact e
      | lst vs => cases q; exact e
      | _ => cases q
    obtain ⟨c, e'⟩ := ite_someP e'
    rw [Bool.and_eq_true] at c
    have hx : Hld S p av x a := by
      rcases h with h | ⟨n, _, bo⟩
      · exact h
      · cases x <;> simp only [flatU, Bool.false_eq_true, false_and] at c <;> exact bo.elim
    unfold memD
    cases b with
    | str z => simp [seqOf] at q1
    | _ =>
      simp only [q1]
      rw [if_pos (by rw [Bool.and_eq_true]; exact ⟨flat_hld hx c.1, flats_hld q2 c.2⟩), anyF_hld hx c.1 q2 c.2, e']
  cases y with
  | str z =>
    rw [h2.str]
    cases x with
    | str w => rw [h.str]; simp only [memU] at e; cases e; rfl
    | _ => simp [memU] at e
  | tup us => exact gen us rfl
  | lst us => exact gen us rfl
  | _ => simp [memU, seqU] at e
theorem cmpU_hld {o : Cop} {x y : U} {a b : D} {r : Bool} (h : Opn S p av x a) (h2 : Opn S p av y b) (e : cmpU o x y = some r) : cmpD S o a b = .ok (.bl r) S := by
  unfold cmpU at e
  split at e
  · cases e; rw [h.int, h2.int]; rfl
  · cases e; rw [h.int, h2.int]; rfl
  · cases e; rw [h.int, h2.int]; rfl
  · cases e; rw [h.int, h2.int]; rfl
  · simp only [cmpD, eqU_hld h h2 e]
  · obtain ⟨q, e1, rfl⟩ := Option.map_eq_some_iff.mp e
    simp only [cmpD, eqU_hld h h2 e1]
  · simp only [cmpD, memU_hld h h2 e]
    cases r <;> rfl
  · obtain ⟨q, e1, rfl⟩ := Option.map_eq_some_iff.mp e
    simp only [cmpD, memU_hld h h2 e1]
    cases q <;> rfl
  · cases e
theorem isN_hld {u : U} {d : D} (h : Opn S p av u d) : isN d = isNU u := by
  cases u with
  | non => rw [h.non]; rfl
  | bl _ => rw [h.bl]; rfl
  | int _ => rw [h.int]; rfl
  | str _ => rw [h.str]; rfl
  | pen => rw [h.pen]; rfl
  | tup _ => obtain ⟨_, rfl, _⟩ := h.tup; rfl
  | lst _ => obtain ⟨_, _, rfl, _⟩ := h.lst; rfl
  | dct _ _ => obtain ⟨_, _, rfl, _⟩ := h.dct; rfl
  | ins _ _ _ => obtain ⟨_, _, rfl, _⟩ := h.ins; rfl
theorem tyIs_hld {u : U} {d : D} {t : Ty} {r : Bool} (h : Opn S p av u d) (e : tyIsU u t = some r) : tyIs S d t = some r := by
  cases u with
  | non => rw [h.non]; cases t <;> exact e
  | bl _ => rw [h.bl]; cases t <;> exact e
  | int _ => rw [h.int]; cases t <;> exact e
  | str _ => rw [h.str]; cases t <;> exact e
  | pen => rw [h.pen]; cases t <;> first | exact e | (simp [tyIsU] at e)
  | tup _ => obtain ⟨_, rfl, _⟩ := h.tup; cases t <;> exact e
  | lst _ => obtain ⟨_, _, rfl, q, _⟩ := h.lst; cases t <;> first | exact e | (simp only [tyIs, q]; exact e)
  | dct _ _ => obtain ⟨_, _, rfl, q, _⟩ := h.dct; cases t <;> first | exact e | (simp only [tyIs, q]; exact e)
  | ins _ _ _ => obtain ⟨_, _, rfl, q, _⟩ := h.ins; cases t <;> first | exact e | (simp only [tyIs, q]; exact e)
theorem tysAre_hld {u : U} {d : D} (h : Opn S p av u d) : ∀ {ts : List Ty} {r : Bool}, tysAreU u ts = some r → tysAre S d ts = some r
  | [], _, e => e
  | t :: ts, r, e => by
    unfold tysAreU at e
    unfold tysAre
    cases q : tyIsU u t with
    | none => rw [q] at e; cases e
    | some a =>
      cases q2 : tysAreU u ts with
      | none => rw [q, q2] at e; cases e
      | some b => rw [q, q2] at e; rw [tyIs_hld h q, tysAre_hld h q2]; exact e
theorem signs_hld (x : Str) : Hlds S p av (signsU x) (signs x) := by
  unfold signsU signs
  induction x.cps.toList with
  | nil => simp [Hlds_nil]
  | cons c cs ih => rw [List.map_cons, List.map_cons, Hlds_cons]; exact ⟨_, _, rfl, Hld_str.mpr rfl, ih⟩
theorem len_hld {u : U} {d : D} {n : Nat} (h : Opn S p av u d) (e : lenU u = some n) : lenOf S d = some n := by
  have gen : (seqU u).map List.length = some n → (∀ x, d ≠ .str x) → lenOf S d = some n := by
    intro e ns
    obtain ⟨us, e1, rfl⟩ := Option.map_eq_some_iff.mp e
    obtain ⟨ds, q1, q2⟩ := h.seq e1
    cases d with
    | str x => exact absurd rfl (ns x)
    | _ => simp only [lenOf, q1, Option.map_some]; rw [q2.len]
  cases u with
  | str x => rw [h.str]; exact e
  | tup _ => refine gen e ?_; obtain ⟨_, rfl, _⟩ := h.tup; intro x q; cases q
  | lst _ => refine gen e ?_; obtain ⟨_, _, rfl, _⟩ := h.lst; intro x q; cases q
  | _ => simp [lenU, seqU] at e
/-- operands -/
def Opns (S : Hs) (p : Nat) (av : Nat → Prop) : List U → List D → Prop
  | [], ds => ds = []
  | u :: us, ds => ∃ d r, ds = d :: r ∧ Opn S p av u d ∧ Opns S p av us r
theorem Opns.one {u : U} {ds : List D} (h : Opns S p av [u] ds) : ∃ d, ds = [d] ∧ Opn S p av u d := by
  obtain ⟨d, r, rfl, a, b⟩ := h
  exact ⟨d, by rw [show r = [] from b], a⟩
theorem Opns.two {u v : U} {ds : List D} (h : Opns S p av [u, v] ds) : ∃ d e, ds = [d, e] ∧ Opn S p av u d ∧ Opn S p av v e := by
  obtain ⟨d, r, rfl, a, b⟩ := h
  obtain ⟨e, rfl, c⟩ := b.one
  exact ⟨d, e, rfl, a, c⟩
theorem Opns.three {u v w : U} {ds : List D} (h : Opns S p av [u, v, w] ds) : ∃ d e f, ds = [d, e, f] ∧ Opn S p av u d ∧ Opn S p av v e ∧ Opn S p av w f := by
  obtain ⟨d, r, rfl, a, b⟩ := h
  obtain ⟨e, f, rfl, b1, c⟩ := b.two
  exact ⟨d, e, f, rfl, a, b1, c⟩
theorem strs_hld {α : Type} (f : α → Str) : ∀ l : List α, Hlds S p av (l.map fun c => U.str (f c)) (l.map fun c => D.str (f c))
  | [] => by simp [Hlds_nil]
  | c :: cs => by rw [List.map_cons, List.map_cons, Hlds_cons]; exact ⟨_, _, rfl, Hld_str.mpr rfl, strs_hld f cs⟩
theorem ints_hld : ∀ l : List Int, Hlds S p av (l.map U.int) (l.map D.int)
  | [] => by simp [Hlds_nil]
  | c :: cs => by rw [List.map_cons, List.map_cons, Hlds_cons]; exact ⟨_, _, rfl, Hld_int.mpr rfl, ints_hld cs⟩
theorem biU_hld {f : Bi} {us : List U} {ds : List D} {u : U} {fr : Bool} (hh : Opns S p av us ds) (e : biU f us = some (u, fr)) : OpR S p av (biF S f ds) u fr := by
  unfold biU at e
  split at e
  · obtain ⟨d, rfl, h⟩ := hh.one
    obtain ⟨n, e1, e2⟩ := Option.map_eq_some_iff.mp e
    cases e2; exact .ok (by simp only [biF, len_hld h e1]) (Hld_int.mpr rfl)
  · obtain ⟨d, rfl, h⟩ := hh.one
    cases e; rw [h.int]; exact .ok rfl (Hld_int.mpr rfl)
  · obtain ⟨d, rfl, h⟩ := hh.one
    cases e; rw [h.bl]; exact .ok rfl (Hld_int.mpr rfl)
  · obtain ⟨d, rfl, h⟩ := hh.one
    obtain ⟨c, e⟩ := ite_someP e
    cases e; rw [h.str]; exact .nw (by simp only [biF, lim, if_pos c]) (signs_hld _)
  · rename_i w hns
    obtain ⟨d, rfl, h⟩ := hh.one
    obtain ⟨vs, e1, e2⟩ := Option.map_eq_some_iff.mp e
    obtain ⟨es, q1, q2⟩ := h.seq e1
    cases e2
    refine .nw ?_ q2
    cases d with
    | str x => simp [seqOf] at q1
    | _ => simp only [biF, q1]
  · obtain ⟨d, rfl, h⟩ := hh.one
    obtain ⟨vs, e1, e2⟩ := Option.map_eq_some_iff.mp e
    obtain ⟨es, q1, q2⟩ := h.seq e1
    cases e2; exact .ok (by simp only [biF, q1]) (Hld_tup.mpr ⟨_, rfl, q2⟩)
  · obtain ⟨d, rfl, h⟩ := hh.one
    obtain ⟨ns, e1, e2⟩ := Option.map_eq_some_iff.mp e
    obtain ⟨n, es, rfl, s1, r1⟩ := h.lst
    cases e2; exact .ok (by simp only [biF, seqOf, s1, Option.bind_some, intsOf, mapO_hlds (fun _ _ _ => asI_hld) r1 e1]) (Hld_int.mpr rfl)
  · obtain ⟨d, rfl, h⟩ := hh.one
    obtain ⟨ns, e1, e2⟩ := Option.map_eq_some_iff.mp e
    obtain ⟨n, es, rfl, s1, r1⟩ := h.lst
    cases e2; exact .ok (by simp only [biF, seqOf, s1, Option.bind_some, boolsOf, mapO_hlds (fun _ _ _ => asB_hld) r1 e1]) (Hld_bl.mpr rfl)
  · obtain ⟨d, rfl, h⟩ := hh.one
    obtain ⟨ns, e1, e2⟩ := Option.map_eq_some_iff.mp e
    obtain ⟨n, es, rfl, s1, r1⟩ := h.lst
    cases e2; exact .ok (by simp only [biF, seqOf, s1, Option.bind_some, boolsOf, mapO_hlds (fun _ _ _ => asB_hld) r1 e1]) (Hld_bl.mpr rfl)
  · obtain ⟨d, rfl, h⟩ := hh.one
    obtain ⟨m, e1, e2⟩ := Option.map_eq_some_iff.mp e
    obtain ⟨ns, e0, e1⟩ := Option.bind_eq_some_iff.mp e1
    obtain ⟨n, es, rfl, s1, r1⟩ := h.lst
    cases e2; exact .ok (by simp only [biF, seqOf, s1, Option.bind_some, intsOf, mapO_hlds (fun _ _ _ => asI_hld) r1 e0, e1]) (Hld_int.mpr rfl)
  · obtain ⟨d, rfl, h⟩ := hh.one
    obtain ⟨m, e1, e2⟩ := Option.map_eq_some_iff.mp e
    obtain ⟨ns, e0, e1⟩ := Option.bind_eq_some_iff.mp e1
    obtain ⟨n, es, rfl, s1, r1⟩ := h.lst
    cases e2; exact .ok (by simp only [biF, seqOf, s1, Option.bind_some, intsOf, mapO_hlds (fun _ _ _ => asI_hld) r1 e0, e1]) (Hld_int.mpr rfl)
  · obtain ⟨d, d2, rfl, h, h2⟩ := hh.two
    cases e; rw [h.int, h2.int]; exact .ok rfl (Hld_int.mpr rfl)
  · obtain ⟨d, d2, rfl, h, h2⟩ := hh.two
    cases e; rw [h.int, h2.int]; exact .ok rfl (Hld_int.mpr rfl)
  · obtain ⟨d, rfl, h⟩ := hh.one
    obtain ⟨c, e⟩ := ite_someP e
    cases e; rw [h.str]; exact .nw (by simp only [biF, setD, if_pos c]) (strs_hld _ _)
  · obtain ⟨d, rfl, h⟩ := hh.one
    split at e
    rotate_left
    · cases e
    rename_i c
    obtain ⟨is, e1, e2⟩ := Option.map_eq_some_iff.mp e
    obtain ⟨n, es, rfl, s1, r1⟩ := h.lst
    rw [r1.len] at c
    cases e2; exact .nw (by simp only [biF, setD, seqOf, s1, if_pos c, intsOf, mapO_hlds (fun _ _ _ => asI_hld) r1 e1]) (ints_hld _)
  · obtain ⟨d, d2, rfl, h, h2⟩ := hh.two
    obtain ⟨c, e⟩ := ite_someP e
    cases e; rw [h.str, h2.str]; exact .nw (by simp only [biF, if_pos c]) (strs_hld _ _)
  · cases e
theorem mtU_hld {m : Mt} {xs xs' as : List U} {es bs : List D} {n : Nat} {u : U} (hn : S[n]? = some (.lst es)) (h : Hlds S p av xs es) (hh : Opns S p av as bs) (h3 : as.length = 1 → m = .append ∨ m = .insert → Hlds S p av as bs) (h4 : m = .insert → Hlds S p av as bs) (e : mtU m xs as = some (u, xs')) :
    mtK S m (.ref n) = true ∧ ∃ d es', mtF S m (.ref n) bs = .ok d (S.set n (.lst es')) ∧ Hlds S p av xs' es' ∧ Hld S p av u d := by
  have hat : lstAt S n = some es := lstAt_of hn
  unfold mtU at e
  split at e
  · obtain ⟨d, rfl, _⟩ := hh.one
    obtain ⟨c, e⟩ := ite_someP e
    have h5 := h3 rfl (.inl rfl)
    cases e
    rename_i x
    refine ⟨mk_append hn, .non, es ++ [d], ?_, h.app h5, Hld_non.mpr rfl⟩
    simp only [mtF, hat]
    rw [if_pos (by rw [← h.len]; exact c)]
  · obtain ⟨d, rfl, h2⟩ := hh.one
    obtain ⟨c, e⟩ := ite_someP e
    obtain ⟨k, ds, rfl, s1, r1⟩ := h2.lst
    cases e
    refine ⟨mk_extend hn, .non, es ++ ds, ?_, h.app r1, Hld_non.mpr rfl⟩
    simp only [mtF, hat, lstAt_of s1, lim]
    rw [if_pos (by rw [← h.len, ← r1.len]; exact c)]
  · obtain ⟨d, d2, rfl, h2, _⟩ := hh.two
    obtain ⟨c, e⟩ := ite_someP e
    have h5 := h4 rfl
    rw [Hlds_cons] at h5
    obtain ⟨_, _, q, _, h6⟩ := h5
    cases q
    rw [h2.int]
    cases e
    refine ⟨mk_insert hn, .non, _, ?_, ((h.take _).app h6).app (h.drop _), Hld_non.mpr rfl⟩
    simp only [mtF, hat]
    rw [if_pos (by rw [← h.len]; exact c)]
  · rw [show bs = [] from hh]
    split at e
    · rename_i y hy
      cases e
      obtain ⟨d, q1, q2⟩ := h.get hy
      refine ⟨mk_pop hn, d, es.dropLast, ?_, h.dropLast, q2⟩
      rw [h.len] at q1
      simp only [mtF, hat, q1]
    · cases e
  · obtain ⟨d, rfl, h2⟩ := hh.one
    rw [h2.int]
    split at e
    · rename_i c
      split at e
      · rename_i k hk
        split at e
        · rename_i y hy
          cases e
          obtain ⟨d, q1, q2⟩ := h.get hy
          refine ⟨mk_pop hn, d, es.eraseIdx k, ?_, h.erase k, q2⟩
          rw [h.len] at hk
          simp only [mtF, hat, hk, q1]
          rw [if_pos c]
        · cases e
      · cases e
    · cases e
  · cases e
theorem joinU_hld {x : Str} {y u : U} {d : D} (h : Opn S p av y d) (e : joinU x y = some u) : mtK S .join (.str x) = true ∧ ∃ r, mtF S .join (.str x) [d] = .ok r S ∧ Hld S p av u r := by
  unfold joinU at e
  split at e
  · rename_i ys hy
    obtain ⟨us, e1, e2⟩ := Option.bind_eq_some_iff.mp hy
    obtain ⟨c, e⟩ := ite_someP e
    obtain ⟨ds, q1, q2⟩ := h.seq e1
    cases e
    refine ⟨rfl, _, ?_, Hld_str.mpr rfl⟩
    simp only [mtF, q1, Option.bind_some, strsOf, mapO_hlds (fun _ _ _ => asS_hld) q2 e2]
    rw [if_pos c]
  · cases e
theorem atI_hld {us : List U} {ds : List D} {i : Int} {u : U} (h : Hlds S p av us ds) (e : L2.atI us i = some u) : ∃ d, L2.atI ds i = some d ∧ Hld S p av u d := by
  unfold L2.atI at e ⊢
  rw [← h.len]
  cases q : L2.ixN us.length i with
  | none => rw [q] at e; cases e
  | some k => rw [q] at e; exact h.get e
theorem ixU_hld {x y u : U} {a b : D} (h : Opn S p av x a) (h2 : Opn S p av y b) (e : ixU x y = some u) : ∃ d, ixD S a b = .ok d S ∧ Hld S p av u d := by
  unfold ixU at e
  split at e
  · split at e
    · rename_i c
      obtain ⟨z, e1, rfl⟩ := Option.map_eq_some_iff.mp e
      rw [h.str, h2.int]
      exact ⟨_, by simp only [ixD, if_pos c, e1], Hld_str.mpr rfl⟩
    · cases e
  · rename_i hns
    obtain ⟨us, e1, e2⟩ := Option.bind_eq_some_iff.mp e
    obtain ⟨ds, q1, q2⟩ := h.seq e1
    obtain ⟨d, q3, q4⟩ := atI_hld q2 e2
    rw [h2.int]
    refine ⟨d, ?_, q4⟩
    cases a with
    | str x => simp [seqOf] at q1
    | _ => simp only [ixD, ixS, q1, q3]
  · cases e
theorem Hlds.cut {us : List U} {ds : List D} (h : Hlds S p av us ds) (lo hi : Option Int) : Hlds S p av (cutD us lo hi) (cutD ds lo hi) := by
  unfold cutD
  rw [← h.len]
  exact (h.drop _).take _
theorem slU_hld {x u : U} {a : D} {lo hi : Option Int} {fr : Bool} (h : Opn S p av x a) (e : slU x lo hi = some (u, fr)) : OpR S p av (slD S a lo hi) u fr := by
  unfold slU at e
  split at e
  · obtain ⟨c, e⟩ := ite_someP e
    cases e; rw [h.str]; exact .ok (by simp only [slD, if_pos c]) (Hld_str.mpr rfl)
  · cases e; obtain ⟨ds, rfl, r⟩ := h.tup; exact .ok rfl (Hld_tup.mpr ⟨_, rfl, r.cut lo hi⟩)
  · cases e; obtain ⟨n, ds, rfl, s1, r⟩ := h.lst; exact .nw (by simp only [slD, seqOf, s1]) (r.cut lo hi)
  · cases e
theorem rvU_hld {us : List U} {a : D} (h : Opn S p av (.lst us) a) : OpR S p av (rvD S a) (.lst us.reverse) true := by
  obtain ⟨n, ds, rfl, s1, r⟩ := h.lst
  exact .nw (by simp only [rvD, seqOf, s1]) r.rev
theorem range_hld (f : Nat → Int) (l : List Nat) : Hlds S p av (l.map fun i => .int (f i)) (l.map fun i => .int (f i)) := by
  induction l with
  | nil => simp [Hlds_nil]
  | cons c cs ih => rw [List.map_cons, List.map_cons, Hlds_cons]; exact ⟨_, _, rfl, Hld_int.mpr rfl, ih⟩
theorem lrU_hld {us : List U} {ds : List D} {u : U} (hh : Opns S p av us ds) (e : lrU us = some u) : OpR S p av (lrD S ds) u true := by
  unfold lrU at e
  split at e
  · obtain ⟨d, rfl, h⟩ := hh.one
    obtain ⟨c, e⟩ := ite_someP e
    cases e; rw [h.int]; exact .nw (by simp only [lrD]; rw [if_pos c]; rfl) (range_hld _ _)
  · obtain ⟨d, d2, rfl, h, h2⟩ := hh.two
    obtain ⟨c, e⟩ := ite_someP e
    cases e; rw [h.int, h2.int]; exact .nw (by simp only [lrD]; rw [if_pos c]; rfl) (range_hld _ _)
  · cases e
/-- what is walked, against the language's -/
def SrcR (S : Hs) (p : Nat) (av : Nat → Prop) (us : List U) (s : Src) : Prop := Hlds S p av us s.its ∧ ∀ g ∈ s.gs, ¬ av g.1 ∧ S[g.1]? = some (.lst g.2)
theorem SrcR.held {us : List U} {s : Src} (h : SrcR S p av us s) : held S s.gs = true := by
  unfold RS.held
  rw [List.all_eq_true]
  intro g hg
  simp [heldAt, (h.2 g hg).2]
theorem SrcR.mv {S' : Hs} {av' : Nat → Prop} {us : List U} {s : Src} (h : ∀ n o, S[n]? = some o → ¬ av n → S'[n]? = some o ∧ ¬ av' n) (x : SrcR S p av us s) : SrcR S' p av' us s :=
  ⟨x.1.mv h, fun g hg => by
    obtain ⟨a, b⟩ := x.2 g hg
    exact ⟨(h _ _ b a).2, (h _ _ b a).1⟩⟩
theorem srcU_hld {u : U} {d : D} {us : List U} (h : Hld S p av u d) (e : srcU u = some us) : ∃ s, srcOf S d = some s ∧ SrcR S p av us s := by
  cases u with
  | tup vs => cases e; rw [Hld_tup] at h; obtain ⟨ds, rfl, r⟩ := h; exact ⟨_, rfl, r, fun g hg => by cases hg⟩
  | str x => cases e; rw [Hld_str] at h; subst h; exact ⟨_, rfl, signs_hld _, fun g hg => by cases hg⟩
  | lst vs =>
    cases e
    rw [Hld_lst] at h
    obtain ⟨n, ds, rfl, a, s1, r⟩ := h
    exact ⟨⟨[(n, ds)], ds⟩, by simp only [srcOf, s1], r, fun g hg => by rw [List.mem_singleton] at hg; subst hg; exact ⟨a, s1⟩⟩
  | _ => cases e
theorem rgU_hld {us vs : List U} {ds : List D} (hh : Opns S p av us ds) (e : rgU us = some vs) : ∃ s, rgD S ds = .ok s S ∧ SrcR S p av vs s := by
  unfold rgU at e
  split at e
  · obtain ⟨d, rfl, h⟩ := hh.one
    obtain ⟨c, e⟩ := ite_someP e
    cases e; rw [h.int]; exact ⟨_, by simp only [rgD]; rw [if_pos c], range_hld _ _, fun g hg => by cases hg⟩
  · obtain ⟨d, d2, rfl, h, h2⟩ := hh.two
    obtain ⟨c, e⟩ := ite_someP e
    cases e; rw [h.int, h2.int]; exact ⟨_, by simp only [rgD]; rw [if_pos c], range_hld _ _, fun g hg => by cases hg⟩
  · obtain ⟨d, d2, d3, rfl, h, h2, h3⟩ := hh.three
    obtain ⟨c, e⟩ := ite_someP e
    cases e; rw [h.int, h2.int, h3.int]; exact ⟨_, by simp only [rgD]; rw [if_pos c], range_hld _ _, fun g hg => by cases hg⟩
  · cases e
theorem numbered_hld : ∀ {us : List U} {ds : List D} (i : Nat), Hlds S p av us ds → Hlds S p av (numberedU i us) (numbered i ds)
  | [], _, _, h => by rw [Hlds_nil] at h; subst h; simp [numberedU, numbered, Hlds_nil]
  | u :: us, _, i, h => by
    rw [Hlds_cons] at h
    obtain ⟨d, r, rfl, a, b⟩ := h
    simp only [numberedU, numbered]
    rw [Hlds_cons]
    refine ⟨_, _, rfl, ?_, numbered_hld (i + 1) b⟩
    rw [Hld_tup]
    exact ⟨_, rfl, by rw [Hlds_cons]; exact ⟨_, _, rfl, Hld_int.mpr rfl, .one a⟩⟩
theorem pairs_hld : ∀ {us vs : List U} {ds es : List D}, Hlds S p av us ds → Hlds S p av vs es → Hlds S p av (pairsUpU us vs) (pairsUp ds es)
  | [], _, _, _, h, _ => by rw [Hlds_nil] at h; subst h; simp [pairsUpU, pairsUp, Hlds_nil]
  | u :: us, [], _, _, h, h2 => by
    rw [Hlds_nil] at h2; subst h2
    rw [Hlds_cons] at h
    obtain ⟨d, r, rfl, a, b⟩ := h
    simp [pairsUpU, pairsUp, Hlds_nil]
  | u :: us, v :: vs, _, _, h, h2 => by
    rw [Hlds_cons] at h h2
    obtain ⟨d, r, rfl, a, b⟩ := h
    obtain ⟨d2, r2, rfl, a2, b2⟩ := h2
    simp only [pairsUpU, pairsUp]
    rw [Hlds_cons]
    refine ⟨_, _, rfl, ?_, pairs_hld b b2⟩
    rw [Hld_tup]
    exact ⟨_, rfl, by rw [Hlds_cons]; exact ⟨_, _, rfl, a, .one a2⟩⟩
theorem enU_hld {u : U} {d : D} {us : List U} (h : Hld S p av u d) (e : srcU u = some us) : ∃ s, enD S [d] = .ok s S ∧ SrcR S p av (numberedU 0 us) s := by
  obtain ⟨s, q1, q2⟩ := srcU_hld h e
  exact ⟨⟨s.gs, numbered 0 s.its⟩, by simp only [enD, q1], numbered_hld 0 q2.1, q2.2⟩
theorem zpU_hld {st : Bool} {us vs : List U} {ds : List D} (h : Hlds S p av us ds) (e : zpU st us = some vs) : ∃ s, zpD st S ds = .ok s S ∧ SrcR S p av vs s := by
  unfold zpU at e
  split at e
  · rw [Hlds_cons] at h
    obtain ⟨d, r, rfl, a, h⟩ := h
    rw [Hlds_cons] at h
    obtain ⟨d2, r2, rfl, a2, h⟩ := h
    rw [Hlds_nil] at h; subst h
    rw [Hld_tup] at a a2
    obtain ⟨xs, rfl, r1⟩ := a
    obtain ⟨ys, rfl, r2⟩ := a2
    split at e
    · cases e
    · rename_i c
      cases e
      rw [r1.len, r2.len] at c
      exact ⟨⟨[], pairsUp xs ys⟩, by simp only [zpD, zpD_]; rw [if_neg c]; rfl, pairs_hld r1 r2, fun g hg => by cases hg⟩
  · rw [Hlds_cons] at h
    obtain ⟨d, r, rfl, a, h⟩ := h
    rw [Hlds_cons] at h
    obtain ⟨d2, r2, rfl, a2, h⟩ := h
    rw [Hlds_nil] at h; subst h
    rw [Hld_lst] at a a2
    obtain ⟨n, xs, rfl, b1, s1, r1⟩ := a
    obtain ⟨m, ys, rfl, b2, s2, r2⟩ := a2
    split at e
    · cases e
    · rename_i c
      cases e
      rw [r1.len, r2.len] at c
      refine ⟨⟨[(n, xs)] ++ [(m, ys)], pairsUp xs ys⟩, ?_, pairs_hld r1 r2, fun g hg => ?_⟩
      · simp only [zpD, srcOf, s1, s2, zpD_]
        rw [if_neg c]; rfl
      · simp only [List.mem_append, List.mem_singleton] at hg
        rcases hg with rfl | rfl
        · exact ⟨b1, s1⟩
        · exact ⟨b2, s2⟩
  · cases e
end
end RS

/-! V4: what is wanted of a run, on values with lists by value; how the state moves -/
namespace RS
open PySem
abbrev ExT := Nat → Option U → Nat → Prop
abbrev PsiT := Nat → List U → Nat → (U → Bool → Nat → Prop) → ExT → Prop
def got {α : Type} (o : Option α) (K : α → Prop) : Prop := match o with
  | some a => K a
  | none => False
theorem got_some {α : Type} {a : α} {K : α → Prop} : got (some a) K = K a := nrfl
theorem got_none {α : Type} {K : α → Prop} : got (none : Option α) K = False := nrfl
theorem got.out {α : Type} {o : Option α} {K : α → Prop} (h : got o K) : ∃ a, o = some a ∧ K a := by
  cases o with
  | none => exact h.elim
  | some a => exact ⟨a, rfl, h⟩
def tstU (u : U) (A B : Prop) : Prop := match u with
  | .bl true => A
  | .bl false => B
  | _ => False
abbrev Opd := U ⊕ Nat
def resU (σ : Env) : Opd → Option U
  | .inl u => some u
  | .inr i => match σ[i]? with
    | some (some (u, _)) => some u
    | _ => none
def ressU (σ : Env) : List Opd → Option (List U) := mapO (resU σ)
/-- an operand: a slot that is owned is not handed out -/
def brw (e : E) (w : Env → Nat → (U → Bool → Env → Nat → Prop) → Prop) (σ : Env) (k : Nat) (Q : Opd → Env → Nat → Prop) : Prop := match e with
  | .var i => match σ[i]? with
    | some (some (_, true)) => Q (.inr i) σ k
    | some (some (u, false)) => Q (.inl u) σ k
    | _ => False
  | _ => w σ k fun u _ σ' k' => Q (.inl u) σ' k'
def wipeU (σ : Env) : List Nat → Env
  | [] => σ
  | v :: vs => (wipeU σ vs).set v none
/-- behind a comprehension: its names are again what they were -/
def restU (σ0 : Env) : List Nat → Env → Env
  | [], σ => σ
  | v :: vs, σ => match σ0[v]? with
    | some (some (u, false)) => (restU σ0 vs σ).set v (some (u, false))
    | _ => (restU σ0 vs σ).set v none
mutual
/-- a target of names takes a value -/
def bindU : E → U → Env → Option Env
  | .var i, u, σ => if i < σ.length then some (σ.set i (some (u, false))) else none
  | .tup es, u, σ => match u with
    | .tup us => if us.length = cnt es then bindsU es us σ else none
    | _ => none
  | _, _, _ => none
def bindsU : E → List U → Env → Option Env
  | .nil, [], σ => some σ
  | .cons a b, u :: us, σ => match bindU a u σ with
    | some σ1 => bindsU b us σ1
    | none => none
  | _, _, _ => none
end
def slotsE : E → List Nat
  | .var i => [i]
  | .tup es => slotsE es
  | .cons a b => slotsE a ++ slotsE b
  | _ => []
def lcU (turn : U → Env → Nat → (Option U → Env → Nat → Prop) → Prop) (vs : List Nat) : List U → Env → Nat → List U → (List U → Env → Nat → Prop) → Prop
  | [], σ, k, acc, Q => Q acc σ k
  | u :: us, σ, k, acc, Q => turn u (wipeU σ vs) k fun o σ1 k1 => lcU turn vs us σ1 k1 (acc ++ o.toList) Q
def lstMt : Mt → Bool
  | .append => true
  | .insert => true
  | .pop => true
  | _ => false
def mthW (m : Mt) (o : E) (wE : Env → Nat → (U → Bool → Env → Nat → Prop) → Prop) (wL : Env → Nat → (List (U × Bool) → Env → Nat → Prop) → Prop) (wM : Env → Nat → (List Opd → Env → Nat → Prop) → Prop) (σ : Env) (k : Nat) (Q : U → Bool → Env → Nat → Prop) : Prop :=
  match m, o with
    | .join, _ => wE σ k fun x _ σ1 k1 => got (asSU x) fun s => wM σ1 k1 fun as σ2 k2 => got (ressU σ2 as) fun us => match us with
      | [y] => got (joinU s y) fun r => Q r false σ2 k2
      | _ => False
    | .extend, .var i => match σ[i]? with
      | some (some (.lst _, true)) => wM σ k fun as σ1 k1 => match σ1[i]? with
        | some (some (.lst xs, true)) => got (ressU σ1 as) fun us => got (mtU .extend xs us) fun r => Q r.1 false (σ1.set i (some (.lst r.2, true))) k1
        | _ => False
      | _ => False
    | m, .var i => match σ[i]? with
      | some (some (.lst _, true)) => lstMt m = true ∧ wL σ k fun as σ1 k1 => match σ1[i]? with
        | some (some (.lst xs, true)) => got (mtU m xs (as.map Prod.fst)) fun r => Q r.1 false (σ1.set i (some (.lst r.2, true))) k1
        | _ => False
      | _ => False
    | _, _ => False
section
variable (Ψ : PsiT) (G : Nat → U)
mutual
def wpE : E → ExT → Env → Nat → (U → Bool → Env → Nat → Prop) → Prop
  | .var i, _, σ, k, Q => match σ[i]? with
    | some (some (u, true)) => Q u false (σ.set i (some (u, false))) k
    | some (some (u, false)) => Q u false σ k
    | _ => False
  | .non, _, σ, k, Q => Q .non false σ k
  | .bl b, _, σ, k, Q => Q (.bl b) false σ k
  | .int i, _, σ, k, Q => Q (.int i) false σ k
  | .str x, _, σ, k, Q => Q (.str x) false σ k
  | .glb g, _, σ, k, Q => Q (G g) false σ k
  | .tup es, X, σ, k, Q => wpL es X σ k fun us σ1 k1 => us.length ≤ sizeLine ∧ Q (.tup (us.map Prod.fst)) false σ1 k1
  | .lst es, X, σ, k, Q => wpL es X σ k fun us σ1 k1 => us.length ≤ sizeLine ∧ Q (.lst (us.map Prod.fst)) true σ1 k1
  | .bin o a b, X, σ, k, Q => brw a (wpE a X) σ k fun x σ1 k1 => brw b (wpE b X) σ1 k1 fun y σ2 k2 => got (resU σ2 x) fun x => got (resU σ2 y) fun y => got (binU o x y) fun r => Q r.1 r.2 σ2 k2
  | .neg a, X, σ, k, Q => wpE a X σ k fun u _ σ1 k1 => got (asIU u) fun i => Q (.int (-i)) false σ1 k1
  | .nt a, X, σ, k, Q => wpE a X σ k fun u _ σ1 k1 => got (asBU u) fun b => Q (.bl (!b)) false σ1 k1
  | .cmp o a b, X, σ, k, Q => brw a (wpE a X) σ k fun x σ1 k1 => brw b (wpE b X) σ1 k1 fun y σ2 k2 => got (resU σ2 x) fun x => got (resU σ2 y) fun y => got (cmpU o x y) fun r => Q (.bl r) false σ2 k2
  | .isN a, X, σ, k, Q => brw a (wpE a X) σ k fun x σ1 k1 => got (resU σ1 x) fun x => Q (.bl (isNU x)) false σ1 k1
  | .nsN a, X, σ, k, Q => brw a (wpE a X) σ k fun x σ1 k1 => got (resU σ1 x) fun x => Q (.bl (!isNU x)) false σ1 k1
  | .chn o p a b c, X, σ, k, Q => brw a (wpE a X) σ k fun x σ1 k1 => brw b (wpE b X) σ1 k1 fun y σ2 k2 => got (resU σ2 x) fun x => got (resU σ2 y) fun y1 => got (cmpU o x y1) fun r =>
      if r = true then brw c (wpE c X) σ2 k2 fun z σ3 k3 => got (resU σ3 y) fun y2 => got (resU σ3 z) fun z => got (cmpU p y2 z) fun r => Q (.bl r) false σ3 k3 else Q (.bl false) false σ2 k2
  | .and a b, X, σ, k, Q => wpE a X σ k fun x _ σ1 k1 => tstU x (wpE b X σ1 k1 Q) (Q (.bl false) false σ1 k1)
  | .or a b, X, σ, k, Q => wpE a X σ k fun x _ σ1 k1 => tstU x (Q (.bl true) false σ1 k1) (wpE b X σ1 k1 Q)
  | .ife c a b, X, σ, k, Q => wpE c X σ k fun x _ σ1 k1 => tstU x (wpE a X σ1 k1 Q) (wpE b X σ1 k1 Q)
  | .cal f es, X, σ, k, Q => wpL es X σ k fun us σ1 k1 => Ψ f (us.map Prod.fst) k1 (fun u fr k2 => Q u fr σ1 k2) X
  | .bi f es, X, σ, k, Q => wpM es X σ k fun as σ1 k1 => got (ressU σ1 as) fun us => got (biU f us) fun r => Q r.1 r.2 σ1 k1
  | .isi ts a, X, σ, k, Q => brw a (wpE a X) σ k fun x σ1 k1 => got (resU σ1 x) fun x => got (tysAreU x ts) fun r => Q (.bl r) false σ1 k1
  | .mth m o es, X, σ, k, Q => mthW m o (wpE o X) (wpL es X) (wpM es X) σ k Q
  | .ix a i, X, σ, k, Q => brw a (wpE a X) σ k fun x σ1 k1 => brw i (wpE i X) σ1 k1 fun y σ2 k2 => got (resU σ2 x) fun x => got (resU σ2 y) fun y => got (ixU x y) fun r => Q r false σ2 k2
  | .sl a lo hi, X, σ, k, Q => brw a (wpE a X) σ k fun x σ1 k1 => wpO lo X σ1 k1 fun l σ2 k2 => wpO hi X σ2 k2 fun h σ3 k3 => got (resU σ3 x) fun x => got (slU x l h) fun r => Q r.1 r.2 σ3 k3
  | .rvs a, X, σ, k, Q => brw a (wpE a X) σ k fun x σ1 k1 => got (resU σ1 x) fun x => match x with
    | .lst us => Q (.lst us.reverse) true σ1 k1
    | _ => False
  | .lrg es, X, σ, k, Q => wpL es X σ k fun us σ1 k1 => got (lrU (us.map Prod.fst)) fun r => Q r true σ1 k1
  | .lc vs e tg it c, X, σ, k, Q => (onlyNames tg = true ∧ (slotsE tg).all (vs.contains ·) = true) ∧ wpI it X σ k fun its σ1 k1 =>
      lcU (fun u σ' k' K => got (bindU tg u σ') fun σ2 => wpE c X σ2 k' fun b _ σ3 k3 => tstU b (wpE e X σ3 k3 fun x _ σ4 k4 => K (some x) σ4 k4) (K none σ3 k3)) vs its σ1 k1 [] fun rs σ2 k2 =>
        its.length ≤ sizeLine ∧ Q (.lst rs) true (restU σ1 vs σ2) k2
  | _, _, _, _, _ => False
/-- arguments, displayed items: handed out -/
def wpL : E → ExT → Env → Nat → (List (U × Bool) → Env → Nat → Prop) → Prop
  | .nil, _, σ, k, Q => Q [] σ k
  | .cons a b, X, σ, k, Q => wpE a X σ k fun u fr σ1 k1 => wpL b X σ1 k1 fun us σ2 k2 => Q ((u, fr) :: us) σ2 k2
  | _, _, _, _, _ => False
/-- operands -/
def wpM : E → ExT → Env → Nat → (List Opd → Env → Nat → Prop) → Prop
  | .nil, _, σ, k, Q => Q [] σ k
  | .cons a b, X, σ, k, Q => brw a (wpE a X) σ k fun o σ1 k1 => wpM b X σ1 k1 fun os σ2 k2 => Q (o :: os) σ2 k2
  | _, _, _, _, _ => False
def wpO : E → ExT → Env → Nat → (Option Int → Env → Nat → Prop) → Prop
  | .nil, _, σ, k, Q => Q none σ k
  | .cons a _, X, σ, k, Q => wpE a X σ k fun u _ σ1 k1 => got (asIU u) fun i => Q (some i) σ1 k1
  | _, _, _, _, _ => False
def wpI : E → ExT → Env → Nat → (List U → Env → Nat → Prop) → Prop
  | .rng es, X, σ, k, Q => wpL es X σ k fun us σ1 k1 => got (rgU (us.map Prod.fst)) fun its => Q its σ1 k1
  | .enm es, X, σ, k, Q => wpL es X σ k fun us σ1 k1 => match us with
    | [u] => got (srcU u.1) fun its => Q (numberedU 0 its) σ1 k1
    | _ => False
  | .zip st es, X, σ, k, Q => wpL es X σ k fun us σ1 k1 => got (zpU st (us.map Prod.fst)) fun its => Q its σ1 k1
  | .cons a _, X, σ, k, Q => wpE a X σ k fun u _ σ1 k1 => got (srcU u) fun its => Q its σ1 k1
  | _, _, _, _, _ => False
end
end
/-! ### the state moves -/
theorem ltg {α : Type} {l : List α} {i : Nat} {a : α} (h : l[i]? = some a) : i < l.length := (List.getElem?_eq_some_iff.mp h).1
theorem Pen.lo {S S' : Hs} {p k : Nat} (h : Pen S p k) (f : ∀ n, n ≤ p → S'[n]? = S[n]?) : Pen S' p k := by
  obtain ⟨c, cells, at_, val, h1, h2, h3, h4⟩ := h
  exact ⟨c, cells, at_, val, h1, (f p (Nat.le_refl _)).trans h2, (f c (by omega)).trans h3, h4⟩
section
variable {p lo : Nat} {X : Nat → Prop} {S S' S1 S2 : Hs} {ρ ρ' ρ1 ρ2 : Rho} {σ σ' σ1 σ2 : Env}
theorem Rel.own_lo (r : Rel p X lo S ρ σ) {n : Nat} (h : Own ρ σ n) : lo ≤ n ∧ n ≠ p ∧ ¬ X n := let ⟨i, q⟩ := h; r.out i n q
/-- the heap grows, the pen's place may change -/
theorem Rel.grow {Y : Nat → Prop} (r : Rel p X lo S ρ σ) (hl : S.length ≤ S'.length) (f : ∀ n, n < S.length → n ≠ p → S'[n]? = S[n]?) (hy : ∀ n, Y n → S.length ≤ n ∧ n < S'.length) : Rel p (fun m => X m ∨ Y m) lo S' ρ σ := by
  have h : ∀ n o', S[n]? = some o' → ¬ Av p X ρ σ n → S'[n]? = some o' ∧ ¬ Av p (fun m => X m ∨ Y m) ρ σ n := fun n o' e a => ⟨by rw [f n (lt_of_get e) fun q => a (.inl q)]; exact e, fun q => by
    rcases q with q | (q | q) | q
    · exact a (.inl q)
    · exact a (.inr (.inl q))
    · have := lt_of_get e; have := hy n q; omega
    · exact a (.inr (.inr q))⟩
  refine ⟨r.len, fun i u e => ?_, fun i u e => ?_, r.dis, fun i n e => ?_, Nat.le_trans r.los hl, r.plo, fun n hn => ?_⟩
  · obtain ⟨d, h1, h2⟩ := r.pl i u e
    exact ⟨d, h1, h2.mv h⟩
  · obtain ⟨n, h1, h2⟩ := r.ow i u e
    refine ⟨n, h1, h2.mv h fun o q => ?_⟩
    rw [f n (lt_of_get q) (r.out i n ⟨u, e, h1⟩).2.1]; exact q
  · obtain ⟨h1, h2, h3⟩ := r.out i n e
    have := (show Av p X ρ σ n from .inr (.inr ⟨i, e⟩)).lt r
    exact ⟨h1, h2, fun q => q.elim h3 fun q => by have := hy n q; omega⟩
  · rcases hn with hn | hn
    · exact Nat.lt_of_lt_of_le (r.xlt n hn) hl
    · exact (hy n hn).2
theorem Rel.grow0 (r : Rel p X lo S ρ σ) (hl : S.length ≤ S'.length) (f : ∀ n, n < S.length → n ≠ p → S'[n]? = S[n]?) : Rel p X lo S' ρ σ :=
  (r.grow (Y := fun _ => False) hl f fun n h => h.elim).less fun n h => .inl h
/-- a slot that is owned is handed out -/
theorem owns_set {i j n : Nat} {s : Slot} (hs : ∀ u, s ≠ some (u, true)) (h : owns ρ (σ.set i s) j n) : owns ρ σ j n ∧ j ≠ i := by
  obtain ⟨u, h1, h2⟩ := h
  by_cases hj : j = i
  · subst hj
    by_cases hl : j < σ.length
    · rw [List.getElem?_set_self hl] at h1
      exact absurd (Option.some.inj h1) (hs u)
    · rw [List.getElem?_eq_none (by simpa using hl)] at h1; cases h1
  · rw [List.getElem?_set_ne (Ne.symm hj)] at h1
    exact ⟨⟨u, h1, h2⟩, hj⟩
theorem Own_set {i n : Nat} {s : Slot} (hs : ∀ u, s ≠ some (u, true)) (h : Own ρ (σ.set i s) n) : Own ρ σ n := let ⟨j, q⟩ := h; ⟨j, (owns_set hs q).1⟩
theorem Rel.leak {i : Nat} {u : U} (r : Rel p X lo S ρ σ) (e : σ[i]? = some (some (u, true))) : ∃ d, ρ[i]? = some (some d) ∧ Rel p X lo S ρ (σ.set i (some (u, false))) ∧ Hld S p (Av p X ρ (σ.set i (some (u, false)))) u d ∧ Out p S ρ σ S ρ (σ.set i (some (u, false))) := by
  obtain ⟨n, h1, h2⟩ := r.ow i u e
  have ns : ∀ v : U, (some (u, false) : Slot) ≠ some (v, true) := fun v q => by cases q
  have sub : ∀ m, Av p X ρ (σ.set i (some (u, false))) m → Av p X ρ σ m := fun m q => by
    rcases q with q | q | q
    · exact .inl q
    · exact .inr (.inl q)
    · exact .inr (.inr (Own_set ns q))
  have mv : ∀ m o, S[m]? = some o → ¬ Av p X ρ σ m → S[m]? = some o ∧ ¬ Av p X ρ (σ.set i (some (u, false))) m := fun m o q a => ⟨q, fun z => a (sub m z)⟩
  have hb : Hld S p (Av p X ρ (σ.set i (some (u, false)))) u (.ref n) := by
    refine (h2.mv mv fun _ q => q).hld fun q => ?_
    obtain ⟨g1, g2, g3⟩ := r.out i n ⟨u, e, h1⟩
    rcases q with q | q | ⟨j, q⟩
    · exact g2 q
    · exact g3 q
    · obtain ⟨q1, q2⟩ := owns_set ns q
      exact q2 (r.dis j i n q1 ⟨u, e, h1⟩)
  have hl : i < σ.length := ltg e
  refine ⟨_, h1, ⟨by rw [List.length_set]; exact r.len, fun j v q => ?_, fun j v q => ?_, fun a b m x y => ?_, fun a m x => ?_, r.los, r.plo, r.xlt⟩, hb, ⟨Nat.le_refl _, fun _ _ _ _ => rfl, fun m q => .inl (Own_set ns q)⟩⟩
  · by_cases hj : j = i
    · subst hj
      rw [List.getElem?_set_self hl] at q
      cases q
      exact ⟨_, h1, hb⟩
    · rw [List.getElem?_set_ne (Ne.symm hj)] at q
      obtain ⟨d, a, b⟩ := r.pl j v q
      exact ⟨d, a, b.mv mv⟩
  · by_cases hj : j = i
    · subst hj
      rw [List.getElem?_set_self hl] at q
      cases q
    · rw [List.getElem?_set_ne (Ne.symm hj)] at q
      obtain ⟨d, a, b⟩ := r.ow j v q
      exact ⟨d, a, b.mv mv fun _ z => z⟩
  · exact r.dis a b m (owns_set ns x).1 (owns_set ns y).1
  · exact r.out a m (owns_set ns x).1
/-- a slot is forgotten or takes what is looked at -/
theorem Rel.setP {i : Nat} {s : Slot} {od : Option D} (r : Rel p X lo S ρ σ) (hs : s = none ∨ ∃ u d, s = some (u, false) ∧ od = some d ∧ Hld S p (Av p X ρ σ) u d) : Rel p X lo S (ρ.set i od) (σ.set i s) ∧ Out p S ρ σ S (ρ.set i od) (σ.set i s) := by
  have ns : ∀ v : U, s ≠ some (v, true) := fun v q => by
    rcases hs with h | ⟨u, d, h, _⟩
    · rw [h] at q; cases q
    · rw [h] at q; cases q
  have ow : ∀ {j m : Nat}, owns (ρ.set i od) (σ.set i s) j m → owns ρ σ j m := fun {j m} x => by
    obtain ⟨u, h1, h2⟩ := x
    obtain ⟨x1, x2⟩ := owns_set (ρ := ρ.set i od) ns ⟨u, h1, h2⟩
    rw [List.getElem?_set_ne (Ne.symm x2)] at h1 h2
    exact ⟨u, h1, h2⟩
  have Ow : ∀ {m : Nat}, Own (ρ.set i od) (σ.set i s) m → Own ρ σ m := fun ⟨j, q⟩ => ⟨j, ow q⟩
  have mv : ∀ m o, S[m]? = some o → ¬ Av p X ρ σ m → S[m]? = some o ∧ ¬ Av p X (ρ.set i od) (σ.set i s) m := fun m o q a => ⟨q, fun z => by
    rcases z with z | z | z
    · exact a (.inl z)
    · exact a (.inr (.inl z))
    · exact a (.inr (.inr (Ow z)))⟩
  refine ⟨⟨by rw [List.length_set, List.length_set]; exact r.len, fun j v q => ?_, fun j v q => ?_, fun a b m x y => r.dis a b m (ow x) (ow y), fun a m x => r.out a m (ow x), r.los, r.plo, r.xlt⟩, ⟨Nat.le_refl _, fun _ _ _ _ => rfl, fun m q => .inl (Ow q)⟩⟩
  · by_cases hj : j = i
    · subst hj
      have hl : j < σ.length := by simpa using ltg q
      rw [List.getElem?_set_self hl] at q
      rcases hs with h | ⟨u, d, h, rfl, hh⟩
      · rw [h] at q; cases q
      · rw [h] at q; cases q
        exact ⟨d, by rw [List.getElem?_set_self (by rw [r.len]; exact hl)], hh.mv mv⟩
    · rw [List.getElem?_set_ne (Ne.symm hj)] at q ⊢
      obtain ⟨d, a, b⟩ := r.pl j v q
      exact ⟨d, a, b.mv mv⟩
  · by_cases hj : j = i
    · subst hj
      have hl : j < σ.length := by simpa using ltg q
      rw [List.getElem?_set_self hl] at q
      exact absurd (Option.some.inj q) (ns v)
    · rw [List.getElem?_set_ne (Ne.symm hj)] at q ⊢
      obtain ⟨d, a, b⟩ := r.ow j v q
      exact ⟨d, a, b.mv mv fun _ z => z⟩
/-- a slot takes what nobody owns -/
theorem Rel.setF {i n : Nat} {u : U} (r : Rel p (fun m => X m ∨ m = n) lo S ρ σ) (b : Body S p (Av p (fun m => X m ∨ m = n) ρ σ) u n) (hl : lo ≤ n) (hp : n ≠ p) (hx : ¬ X n) (ho : ¬ Own ρ σ n) (hi : i < σ.length) : Rel p X lo S (ρ.set i (some (.ref n))) (σ.set i (some (u, true))) ∧ ∀ m, Own (ρ.set i (some (.ref n))) (σ.set i (some (u, true))) m → Own ρ σ m ∨ m = n := by
  have ow : ∀ {j m : Nat}, owns (ρ.set i (some (.ref n))) (σ.set i (some (u, true))) j m → (j ≠ i ∧ owns ρ σ j m) ∨ (j = i ∧ m = n) := fun {j m} x => by
    obtain ⟨v, h1, h2⟩ := x
    by_cases hj : j = i
    · subst hj
      rw [List.getElem?_set_self (by rw [r.len]; exact hi)] at h2
      cases h2
      exact .inr ⟨rfl, rfl⟩
    · rw [List.getElem?_set_ne (Ne.symm hj)] at h1 h2
      exact .inl ⟨hj, v, h1, h2⟩
  have Ow : ∀ {m : Nat}, Own (ρ.set i (some (.ref n))) (σ.set i (some (u, true))) m → Own ρ σ m ∨ m = n := fun ⟨j, q⟩ => (ow q).elim (fun q => .inl ⟨j, q.2⟩) fun q => .inr q.2
  have mv : ∀ m o, S[m]? = some o → ¬ Av p (fun m => X m ∨ m = n) ρ σ m → S[m]? = some o ∧ ¬ Av p X (ρ.set i (some (.ref n))) (σ.set i (some (u, true))) m := fun m o q a => ⟨q, fun z => by
    rcases z with z | z | z
    · exact a (.inl z)
    · exact a (.inr (.inl (.inl z)))
    · rcases Ow z with z | z
      · exact a (.inr (.inr z))
      · exact a (.inr (.inl (.inr z)))⟩
  refine ⟨⟨by rw [List.length_set, List.length_set]; exact r.len, fun j v q => ?_, fun j v q => ?_, fun a c m x y => ?_, fun a m x => ?_, r.los, r.plo, fun m hm => r.xlt m (.inl hm)⟩, fun m q => Ow q⟩
  · by_cases hj : j = i
    · subst hj
      rw [List.getElem?_set_self hi] at q; cases q
    · rw [List.getElem?_set_ne (Ne.symm hj)] at q ⊢
      obtain ⟨d, a, b⟩ := r.pl j v q
      exact ⟨d, a, b.mv mv⟩
  · by_cases hj : j = i
    · subst hj
      rw [List.getElem?_set_self hi] at q
      cases q
      exact ⟨n, by rw [List.getElem?_set_self (by rw [r.len]; exact hi)], b.mv mv fun _ z => z⟩
    · rw [List.getElem?_set_ne (Ne.symm hj)] at q ⊢
      obtain ⟨d, a, b⟩ := r.ow j v q
      exact ⟨d, a, b.mv mv fun _ z => z⟩
  · rcases ow x with ⟨x1, x2⟩ | ⟨x1, x2⟩ <;> rcases ow y with ⟨y1, y2⟩ | ⟨y1, y2⟩
    · exact r.dis a c m x2 y2
    · exact absurd ⟨a, y2 ▸ x2⟩ ho
    · exact absurd ⟨c, x2 ▸ y2⟩ ho
    · rw [x1, y1]
  · rcases ow x with ⟨x1, x2⟩ | ⟨x1, x2⟩
    · obtain ⟨a1, a2, a3⟩ := r.out a m x2
      exact ⟨a1, a2, fun z => a3 (.inl z)⟩
    · rw [x2]; exact ⟨hl, hp, hx⟩
/-- what an owned slot holds is changed -/
theorem Rel.change {i n : Nat} {u : U} {o : O} (r : Rel p X lo S ρ σ) (e : σ[i]? = some (some (u, true))) (er : ρ[i]? = some (some (.ref n))) {v : U} (b : HldO S p (Av p X ρ σ) v o) : Rel p X lo (S.set n o) ρ (σ.set i (some (v, true))) ∧ Out p S ρ σ (S.set n o) ρ (σ.set i (some (v, true))) := by
  have hi : i < σ.length := ltg e
  have hown : owns ρ σ i n := ⟨u, e, er⟩
  have Own_n : Own ρ σ n := ⟨i, hown⟩
  have hn : n < S.length := (show Av p X ρ σ n from .inr (.inr Own_n)).lt r
  have ow : ∀ {j m : Nat}, owns ρ (σ.set i (some (v, true))) j m ↔ owns ρ σ j m := fun {j m} => by
    constructor
    · rintro ⟨w, h1, h2⟩
      by_cases hj : j = i
      · subst hj; rw [er] at h2; cases h2; exact hown
      · rw [List.getElem?_set_ne (Ne.symm hj)] at h1; exact ⟨w, h1, h2⟩
    · rintro ⟨w, h1, h2⟩
      by_cases hj : j = i
      · subst hj; exact ⟨v, by rw [List.getElem?_set_self hi], h2⟩
      · exact ⟨w, by rw [List.getElem?_set_ne (Ne.symm hj)]; exact h1, h2⟩
  have Ow : ∀ m, Own ρ (σ.set i (some (v, true))) m ↔ Own ρ σ m := fun m => ⟨fun ⟨j, q⟩ => ⟨j, ow.mp q⟩, fun ⟨j, q⟩ => ⟨j, ow.mpr q⟩⟩
  have av : ∀ m, Av p X ρ (σ.set i (some (v, true))) m ↔ Av p X ρ σ m := fun m => by unfold Av; rw [Ow]
  have mv : ∀ m o', S[m]? = some o' → ¬ Av p X ρ σ m → (S.set n o)[m]? = some o' ∧ ¬ Av p X ρ (σ.set i (some (v, true))) m := fun m o' q a => ⟨by rw [List.getElem?_set_ne (show n ≠ m from fun z => by subst z; exact a (.inr (.inr Own_n)))]; exact q, fun z => a ((av m).mp z)⟩
  refine ⟨⟨by rw [List.length_set]; exact r.len, fun j w q => ?_, fun j w q => ?_, fun a c m x y => r.dis a c m (ow.mp x) (ow.mp y), fun a m x => r.out a m (ow.mp x), by rw [List.length_set]; exact r.los, r.plo, fun m hm => by rw [List.length_set]; exact r.xlt m hm⟩, ⟨by rw [List.length_set]; exact Nat.le_refl _, fun m hm hp ho => by rw [List.getElem?_set_ne (show n ≠ m from fun z => by subst z; exact ho Own_n)], fun m q => .inl ((Ow m).mp q)⟩⟩
  · by_cases hj : j = i
    · subst hj; rw [List.getElem?_set_self hi] at q; cases q
    · rw [List.getElem?_set_ne (Ne.symm hj)] at q
      obtain ⟨d, a, b⟩ := r.pl j w q
      exact ⟨d, a, b.mv mv⟩
  · by_cases hj : j = i
    · subst hj
      rw [List.getElem?_set_self hi] at q
      cases q
      refine ⟨n, er, ?_⟩
      have hg : (S.set n o)[n]? = some o := List.getElem?_set_self hn
      cases v <;> cases o <;> first | exact b.elim | skip
      · exact ⟨_, hg, Hlds.mv mv _ _ b⟩
      · exact ⟨_, hg, Hlds.mv mv _ _ b.1, Hlds.mv mv _ _ b.2⟩
      · obtain ⟨rfl, b2, b3⟩ := b
        exact ⟨_, hg, b2, Hlds.mv mv _ _ b3⟩
    · rw [List.getElem?_set_ne (Ne.symm hj)] at q
      obtain ⟨m, a, b⟩ := r.ow j w q
      refine ⟨m, a, b.mv mv fun o' z => ?_⟩
      have : m ≠ n := fun z => hj (r.dis j i n ⟨w, q, z ▸ a⟩ hown)
      rw [List.getElem?_set_ne (Ne.symm this)]; exact z
/-- an operator's answer -/
theorem opr_ok {S0 : Hs} {r : R D} {u : U} {fr : Bool} {k : Nat} (rl : Rel p X lo S ρ σ) (hp : Pen S p k) (h : OpR S p (Av p X ρ σ) r u fr) (hl : S0.length ≤ S.length) : ∃ d S', r = .ok d S' ∧ Out p S ρ σ S' ρ σ ∧ Pen S' p k ∧ Res p X lo S0 S' ρ σ u fr d := by
  cases fr with
  | false => obtain ⟨d, rfl, h⟩ := h; exact ⟨d, S, rfl, .refl, hp, rl, h⟩
  | true =>
    obtain ⟨o, rfl, h⟩ := h
    have hr := rl.los
    have hpl := rl.plo
    refine ⟨.ref S.length, S ++ [o], rfl, .app, hp.lo fun n hn => List.getElem?_append_left (by omega), S.length, rfl, rl.fresh, ?_, hr, hl, by omega, fun q => ?_, fun q => ?_⟩
    · cases u <;> cases o <;> first | exact h.elim | skip
      · exact ⟨_, by simp, Av.fresh_hlds rl h⟩
      · exact ⟨_, by simp, Av.fresh_hlds rl h.1, Av.fresh_hlds rl h.2⟩
      · obtain ⟨rfl, h2, h3⟩ := h
        exact ⟨_, by simp, h2, Av.fresh_hlds rl h3⟩
    · have := rl.xlt _ q; omega
    · have := (show Av p X ρ σ _ from .inr (.inr q)).lt rl; omega
end
end RS

/-! V5: what is wanted on values by lists is brought by the language's run: expressions -/
namespace RS
open PySem
def OkX {α : Type} (r : R α) (Q : α → Hs → Prop) (E : Nat → Option D → Hs → Prop) : Prop := match r with
  | .ok a S => Q a S
  | .ex c x S => E c x S
  | .no => False
theorem OkX.bind {α β : Type} {r : R α} {f : α → Hs → R β} {Q1 : α → Hs → Prop} {Q : β → Hs → Prop} {E : Nat → Option D → Hs → Prop} (h : OkX r Q1 E) (k : ∀ a S, Q1 a S → OkX (f a S) Q E) : OkX (r.bind f) Q E := by
  cases r with
  | ok a S => exact k a S h
  | ex c x S => exact h
  | no => exact h.elim
theorem OkX.imp {α : Type} {r : R α} {Q Q1 : α → Hs → Prop} {E E1 : Nat → Option D → Hs → Prop} (h : OkX r Q1 E1) (k : ∀ a S, Q1 a S → Q a S) (l : ∀ c x S, E1 c x S → E c x S) : OkX r Q E := by
  cases r with
  | ok a S => exact k a S h
  | ex c x S => exact l c x S h
  | no => exact h.elim
def ExV (S : Hs) (p : Nat) (X : Nat → Prop) : Option D → Option U → Prop
  | none, none => True
  | some d, some u => Hld S p (fun n => n = p ∨ X n) u d
  | _, _ => False
theorem ExV.less {S : Hs} {p : Nat} {X Y : Nat → Prop} (h : ∀ n, X n → Y n) {x : Option D} {u : Option U} (e : ExV S p Y x u) : ExV S p X x u := by
  cases x <;> cases u <;> first | exact e | exact Hld.mv (fun n o q a => ⟨q, fun z => z.elim (fun z => a (.inl z)) fun z => a (.inr (h n z))⟩) _ _ e
/-- what a def does that is called -/
def CallOk (Φ : Nat → List D → Hs → R D) (p : Nat) : PsiT := fun f us k Q Ex => ∀ (X : Nat → Prop) (S : Hs) (ds : List D), (∀ n, X n → n < S.length) → Pen S p k → Hlds S p (fun n => n = p ∨ X n) us ds →
  OkX (Φ f ds S) (fun d S' => ∃ u fr k', S.length ≤ S'.length ∧ (∀ n, n < S.length → n ≠ p → S'[n]? = S[n]?) ∧ Pen S' p k' ∧ (match fr with
      | false => Hld S' p (fun n => n = p ∨ X n) u d
      | true => ∃ n, d = .ref n ∧ S.length ≤ n ∧ Body S' p (fun m => m = p ∨ X m ∨ m = n) u n) ∧ Q u fr k')
    (fun c x S' => S.length ≤ S'.length ∧ (∀ n, n < S.length → n ≠ p → S'[n]? = S[n]?) ∧ ∃ xu k', ExV S' p X x xu ∧ Pen S' p k' ∧ Ex c xu k')
section
variable (Φ : Nat → List D → Hs → R D) (GD : Nat → D) (GU : Nat → U) (p : Nat)
/-- errors that leave -/
def ExF (X : Nat → Prop) (S : Hs) (ρ : Rho) (σ : Env) (Ex : ExT) : Nat → Option D → Hs → Prop := fun c x S' => S.length ≤ S'.length ∧ (∀ n, n < S.length → n ≠ p → ¬ Own ρ σ n → S'[n]? = S[n]?) ∧ ∃ xu k', ExV S' p X x xu ∧ Pen S' p k' ∧ Ex c xu k'
def PoE (X : Nat → Prop) (lo : Nat) (S : Hs) (ρ : Rho) (σ : Env) (Q : U → Bool → Env → Nat → Prop) : D → Hs → Prop := fun d S' => ∃ u fr σ' k', Out p S ρ σ S' ρ σ' ∧ Pen S' p k' ∧ Res p X lo S S' ρ σ' u fr d ∧ Q u fr σ' k'
def SndE (e : E) : Prop := ∀ (X : Nat → Prop) (lo : Nat) (S : Hs) (ρ : Rho) (σ : Env) (k : Nat) (Q : U → Bool → Env → Nat → Prop) (Ex : ExT), Rel p X lo S ρ σ → Pen S p k → wpE (CallOk Φ p) GU e Ex σ k Q → OkX (den Φ GD e ρ S) (PoE p X lo S ρ σ Q) (ExF p X S ρ σ Ex)
/-- several values, in order; ys: the new ones that nobody owns -/
def ResL (S : Hs) (p : Nat) (av : Nat → Prop) : List (U × Bool) → List D → List Nat → Prop
  | [], ds, ys => ds = [] ∧ ys = []
  | (u, false) :: us, ds, ys => ∃ d r, ds = d :: r ∧ Hld S p av u d ∧ ResL S p av us r ys
  | (u, true) :: us, ds, ys => ∃ n r zs, ds = .ref n :: r ∧ ys = n :: zs ∧ Body S p av u n ∧ ResL S p av us r zs
def Xs (X : Nat → Prop) (ys : List Nat) : Nat → Prop := fun n => X n ∨ n ∈ ys
def PoL (X : Nat → Prop) (lo : Nat) (S : Hs) (ρ : Rho) (σ : Env) (Q : List (U × Bool) → Env → Nat → Prop) : List D → Hs → Prop := fun ds S' => ∃ us ys σ' k', Out p S ρ σ S' ρ σ' ∧ Pen S' p k' ∧ Rel p (Xs X ys) lo S' ρ σ' ∧ ResL S' p (Av p (Xs X ys) ρ σ') us ds ys ∧ ys.Nodup ∧ (∀ n ∈ ys, lo ≤ n ∧ S.length ≤ n ∧ n ≠ p ∧ ¬ X n ∧ ¬ Own ρ σ' n) ∧ Q us σ' k'
def SndL (e : E) : Prop := ∀ (X : Nat → Prop) (lo : Nat) (S : Hs) (ρ : Rho) (σ : Env) (k : Nat) (Q : List (U × Bool) → Env → Nat → Prop) (Ex : ExT), Rel p X lo S ρ σ → Pen S p k → wpL (CallOk Φ p) GU e Ex σ k Q → OkX (denL Φ GD e ρ S) (PoL p X lo S ρ σ Q) (ExF p X S ρ σ Ex)
def OpdR (X : Nat → Prop) (S : Hs) (ρ : Rho) (σ : Env) : Opd → D → Prop
  | .inl u, d => Hld S p (Av p X ρ σ) u d
  | .inr i, d => ρ[i]? = some (some d)
def OpdsR (X : Nat → Prop) (S : Hs) (ρ : Rho) (σ : Env) : List Opd → List D → Prop
  | [], ds => ds = []
  | o :: os, ds => ∃ d r, ds = d :: r ∧ OpdR p X S ρ σ o d ∧ OpdsR X S ρ σ os r
def PoB (X : Nat → Prop) (lo : Nat) (S : Hs) (ρ : Rho) (σ : Env) (Q : Opd → Env → Nat → Prop) : D → Hs → Prop := fun d S' => ∃ o σ' k', Out p S ρ σ S' ρ σ' ∧ Pen S' p k' ∧ Rel p X lo S' ρ σ' ∧ OpdR p X S' ρ σ' o d ∧ Q o σ' k'
def PoM (X : Nat → Prop) (lo : Nat) (S : Hs) (ρ : Rho) (σ : Env) (Q : List Opd → Env → Nat → Prop) : List D → Hs → Prop := fun ds S' => ∃ os σ' k', Out p S ρ σ S' ρ σ' ∧ Pen S' p k' ∧ Rel p X lo S' ρ σ' ∧ OpdsR p X S' ρ σ' os ds ∧ Q os σ' k'
def SndM (e : E) : Prop := ∀ (X : Nat → Prop) (lo : Nat) (S : Hs) (ρ : Rho) (σ : Env) (k : Nat) (Q : List Opd → Env → Nat → Prop) (Ex : ExT), Rel p X lo S ρ σ → Pen S p k → wpM (CallOk Φ p) GU e Ex σ k Q → OkX (denL Φ GD e ρ S) (PoM p X lo S ρ σ Q) (ExF p X S ρ σ Ex)
def PoO (X : Nat → Prop) (lo : Nat) (S : Hs) (ρ : Rho) (σ : Env) (Q : Option Int → Env → Nat → Prop) : Option Int → Hs → Prop := fun o S' => ∃ σ' k', Out p S ρ σ S' ρ σ' ∧ Pen S' p k' ∧ Rel p X lo S' ρ σ' ∧ Q o σ' k'
def SndO (e : E) : Prop := ∀ (X : Nat → Prop) (lo : Nat) (S : Hs) (ρ : Rho) (σ : Env) (k : Nat) (Q : Option Int → Env → Nat → Prop) (Ex : ExT), Rel p X lo S ρ σ → Pen S p k → wpO (CallOk Φ p) GU e Ex σ k Q → OkX (denO Φ GD e ρ S) (PoO p X lo S ρ σ Q) (ExF p X S ρ σ Ex)
def PoI (X : Nat → Prop) (lo : Nat) (S : Hs) (ρ : Rho) (σ : Env) (Q : List U → Env → Nat → Prop) : Src → Hs → Prop := fun s S' => ∃ us σ' k', Out p S ρ σ S' ρ σ' ∧ Pen S' p k' ∧ Rel p X lo S' ρ σ' ∧ SrcR S' p (Av p X ρ σ') us s ∧ Q us σ' k'
def SndI (e : E) : Prop := ∀ (X : Nat → Prop) (lo : Nat) (S : Hs) (ρ : Rho) (σ : Env) (k : Nat) (Q : List U → Env → Nat → Prop) (Ex : ExT), Rel p X lo S ρ σ → Pen S p k → wpI (CallOk Φ p) GU e Ex σ k Q → OkX (denI Φ GD e ρ S) (PoI p X lo S ρ σ Q) (ExF p X S ρ σ Ex)
end
section
variable {Φ : Nat → List D → Hs → R D} {GD : Nat → D} {GU : Nat → U} {p lo k : Nat} {X : Nat → Prop} {S S' S1 S2 : Hs} {ρ ρ1 : Rho} {σ σ' σ1 σ2 : Env} {Ex : ExT}
theorem ExF.up (o : Out p S ρ σ S1 ρ1 σ1) {c : Nat} {x : Option D} {S' : Hs} (h : ExF p X S1 ρ1 σ1 Ex c x S') : ExF p X S ρ σ Ex c x S' := by
  obtain ⟨h1, h2, h3⟩ := h
  refine ⟨Nat.le_trans o.len h1, fun n hn hp ho => ?_, h3⟩
  rw [h2 n (Nat.lt_of_lt_of_le hn o.len) hp fun q => ?_, o.frm n hn hp ho]
  rcases o.grow n q with q | q
  · exact ho q
  · omega
theorem ExF.less {Y : Nat → Prop} (hy : ∀ n, X n → Y n) {c : Nat} {x : Option D} {S' : Hs} (h : ExF p Y S ρ σ Ex c x S') : ExF p X S ρ σ Ex c x S' := by
  obtain ⟨h1, h2, xu, k', h3, h4⟩ := h
  exact ⟨h1, h2, xu, k', h3.less hy, h4⟩
theorem Res.up {S0 : Hs} {u : U} {fr : Bool} {d : D} (hl : S0.length ≤ S1.length) (r : Res p X lo S1 S ρ σ u fr d) : Res p X lo S0 S ρ σ u fr d := by
  cases fr with
  | false => exact r
  | true =>
    obtain ⟨n, h1, h2, h3, h4, h5, h6⟩ := r
    exact ⟨n, h1, h2, h3, h4, Nat.le_trans hl h5, h6⟩
theorem OkX.upE {r : R D} {Q : U → Bool → Env → Nat → Prop} (o : Out p S ρ σ S1 ρ σ1) (h : OkX r (PoE p X lo S1 ρ σ1 Q) (ExF p X S1 ρ σ1 Ex)) : OkX r (PoE p X lo S ρ σ Q) (ExF p X S ρ σ Ex) :=
  h.imp (fun d S' ⟨u, fr, σ', k', a, b, c, q⟩ => ⟨u, fr, σ', k', o.trans a, b, c.up o.len, q⟩) fun _ _ _ => ExF.up o
theorem OkX.upB {r : R D} {Q : Opd → Env → Nat → Prop} (o : Out p S ρ σ S1 ρ σ1) (h : OkX r (PoB p X lo S1 ρ σ1 Q) (ExF p X S1 ρ σ1 Ex)) : OkX r (PoB p X lo S ρ σ Q) (ExF p X S ρ σ Ex) :=
  h.imp (fun d S' ⟨u, σ', k', a, q⟩ => ⟨u, σ', k', o.trans a, q⟩) fun _ _ _ => ExF.up o
theorem OkX.upM {r : R (List D)} {Q : List Opd → Env → Nat → Prop} (o : Out p S ρ σ S1 ρ σ1) (h : OkX r (PoM p X lo S1 ρ σ1 Q) (ExF p X S1 ρ σ1 Ex)) : OkX r (PoM p X lo S ρ σ Q) (ExF p X S ρ σ Ex) :=
  h.imp (fun d S' ⟨u, σ', k', a, q⟩ => ⟨u, σ', k', o.trans a, q⟩) fun _ _ _ => ExF.up o
theorem OkX.upO {r : R (Option Int)} {Q : Option Int → Env → Nat → Prop} (o : Out p S ρ σ S1 ρ σ1) (h : OkX r (PoO p X lo S1 ρ σ1 Q) (ExF p X S1 ρ σ1 Ex)) : OkX r (PoO p X lo S ρ σ Q) (ExF p X S ρ σ Ex) :=
  h.imp (fun d S' ⟨σ', k', a, q⟩ => ⟨σ', k', o.trans a, q⟩) fun _ _ _ => ExF.up o
theorem OkX.upI {r : R Src} {Q : List U → Env → Nat → Prop} (o : Out p S ρ σ S1 ρ σ1) (h : OkX r (PoI p X lo S1 ρ σ1 Q) (ExF p X S1 ρ σ1 Ex)) : OkX r (PoI p X lo S ρ σ Q) (ExF p X S ρ σ Ex) :=
  h.imp (fun d S' ⟨u, σ', k', a, q⟩ => ⟨u, σ', k', o.trans a, q⟩) fun _ _ _ => ExF.up o
theorem OpdR.mv (a : Out p S ρ σ S1 ρ σ1) {o : Opd} {d : D} (h : OpdR p X S ρ σ o d) : OpdR p X S1 ρ σ1 o d := by
  cases o with
  | inl u => exact a.hld h
  | inr i => exact h
theorem OpdR.res (r : Rel p X lo S ρ σ) {o : Opd} {d : D} {u : U} (h : OpdR p X S ρ σ o d) (e : resU σ o = some u) : Opn S p (Av p X ρ σ) u d := by
  cases o with
  | inl v => cases e; exact .inl h
  | inr i =>
    have h : ρ[i]? = some (some d) := h
    simp only [resU] at e
    split at e
    · rename_i v b q
      cases e
      cases b with
      | false => obtain ⟨d', h1, h2⟩ := r.pl i _ q; rw [h] at h1; cases h1; exact .inl h2
      | true => obtain ⟨n, h1, h2⟩ := r.ow i _ q; rw [h] at h1; cases h1; exact .inr ⟨n, rfl, h2⟩
    · cases e
theorem OpdsR.res (r : Rel p X lo S ρ σ) : ∀ {os : List Opd} {ds : List D} {us : List U}, OpdsR p X S ρ σ os ds → ressU σ os = some us → Opns S p (Av p X ρ σ) us ds
  | [], _, _, h, e => by cases e; exact h
  | o :: os, _, us, ⟨d, r', e1, h1, h2⟩, e => by
    unfold ressU at e
    simp only [mapO] at e
    cases q : resU σ o with
    | none => rw [q] at e; cases e
    | some u =>
      cases q2 : mapO (resU σ) os with
      | none => rw [q, q2] at e; cases e
      | some vs =>
        rw [q, q2] at e
        cases e
        exact ⟨d, r', e1, h1.res r q, OpdsR.res r h2 q2⟩
theorem brw_ok {e : E} {Q : Opd → Env → Nat → Prop} (ih : SndE Φ GD GU p e) (rl : Rel p X lo S ρ σ) (hp : Pen S p k) (w : brw e (wpE (CallOk Φ p) GU e Ex) σ k Q) : OkX (den Φ GD e ρ S) (PoB p X lo S ρ σ Q) (ExF p X S ρ σ Ex) := by
  have gen : wpE (CallOk Φ p) GU e Ex σ k (fun u _ σ' k' => Q (.inl u) σ' k') → OkX (den Φ GD e ρ S) (PoB p X lo S ρ σ Q) (ExF p X S ρ σ Ex) := fun w =>
    (ih X lo S ρ σ k _ Ex rl hp w).imp (fun d S' ⟨u, fr, σ', k', a, b, c, q⟩ => ⟨.inl u, σ', k', a, b, c.rel, c.plain.2, q⟩) fun _ _ _ h => h
  unfold brw at w
  split at w
  · rename_i i
    split at w
    · rename_i u q
      obtain ⟨n, h1, h2⟩ := rl.ow _ _ q
      simp only [den, h1]
      exact ⟨.inr i, σ, k, .refl, hp, rl, h1, w⟩
    · rename_i u q
      obtain ⟨d, h1, h2⟩ := rl.pl _ _ q
      simp only [den, h1]
      exact ⟨.inl u, σ, k, .refl, hp, rl, h2, w⟩
    · exact w.elim
  · exact gen w
theorem snd_var {i : Nat} : SndE Φ GD GU p (.var i) := by
  intro X lo S ρ σ k Q Ex rl hp w
  simp only [wpE] at w
  split at w
  · rename_i u q
    obtain ⟨d, h1, h2, h3, h4⟩ := rl.leak q
    simp only [den, h1]
    exact ⟨u, false, _, k, h4, hp, ⟨h2, h3⟩, w⟩
  · rename_i u q
    obtain ⟨d, h1, h2⟩ := rl.pl _ _ q
    simp only [den, h1]
    exact ⟨u, false, σ, k, .refl, hp, ⟨rl, h2⟩, w⟩
  · exact w.elim
/-- an answer at once -/
theorem now {r : R D} {u : U} {fr : Bool} {Q : U → Bool → Env → Nat → Prop} (rl : Rel p X lo S ρ σ) (hp : Pen S p k) (h : OpR S p (Av p X ρ σ) r u fr) (q : Q u fr σ k) : OkX r (PoE p X lo S ρ σ Q) (ExF p X S ρ σ Ex) := by
  obtain ⟨d, S', e, a, b, c⟩ := opr_ok (S0 := S) rl hp h (Nat.le_refl _)
  rw [e]
  exact ⟨u, fr, σ, k, a, b, c, q⟩
theorem snd_non : SndE Φ GD GU p .non := fun X lo S ρ σ k Q Ex rl hp w => by
  simp only [wpE] at w; simp only [den]; exact now rl hp (.ok rfl (Hld_non.mpr rfl)) w
theorem snd_bl {b : Bool} : SndE Φ GD GU p (.bl b) := fun X lo S ρ σ k Q Ex rl hp w => by
  simp only [wpE] at w; simp only [den]; exact now rl hp (.ok rfl (Hld_bl.mpr rfl)) w
theorem snd_int {b : Int} : SndE Φ GD GU p (.int b) := fun X lo S ρ σ k Q Ex rl hp w => by
  simp only [wpE] at w; simp only [den]; exact now rl hp (.ok rfl (Hld_int.mpr rfl)) w
theorem snd_str {b : Str} : SndE Φ GD GU p (.str b) := fun X lo S ρ σ k Q Ex rl hp w => by
  simp only [wpE] at w; simp only [den]; exact now rl hp (.ok rfl (Hld_str.mpr rfl)) w
theorem snd_glb (hG : ∀ g S av, Hld S p av (GU g) (GD g)) {g : Nat} : SndE Φ GD GU p (.glb g) := fun X lo S ρ σ k Q Ex rl hp w => by
  simp only [wpE] at w; simp only [den]; exact now rl hp (.ok rfl (hG g _ _)) w
theorem ResL.hlds {av av' : Nat → Prop} (hn : ∀ n, ¬ av' n ∨ av n) (hm : ∀ n, av' n → av n) : ∀ {us : List (U × Bool)} {ds : List D} {ys : List Nat}, (∀ n ∈ ys, ¬ av' n) → ResL S p av us ds ys → Hlds S p av' (us.map Prod.fst) ds
  | [], ds, ys, _, h => by obtain ⟨rfl, _⟩ := h; exact Hlds_nil.mpr rfl
  | (u, false) :: us, ds, ys, hy, h => by
    obtain ⟨d, r, rfl, h1, h2⟩ := h
    rw [List.map_cons, Hlds_cons]
    exact ⟨d, r, rfl, h1.mv fun n o e a => ⟨e, fun z => a (hm n z)⟩, ResL.hlds hn hm hy h2⟩
  | (u, true) :: us, ds, ys, hy, h => by
    obtain ⟨n, r, zs, rfl, rfl, h1, h2⟩ := h
    rw [List.map_cons, Hlds_cons]
    exact ⟨_, r, rfl, (h1.mv (av' := av') (fun n o e a => ⟨e, fun z => a (hm n z)⟩) fun _ e => e).hld (hy n (by simp)), ResL.hlds hn hm (fun m hm => hy m (by simp [hm])) h2⟩
/-- arguments, handed out -/
theorem PoL.plain {Q : List (U × Bool) → Env → Nat → Prop} {ds : List D} {S' : Hs} (h : PoL p X lo S ρ σ Q ds S') : ∃ us σ' k', Out p S ρ σ S' ρ σ' ∧ Pen S' p k' ∧ Rel p X lo S' ρ σ' ∧ Hlds S' p (Av p X ρ σ') (us.map Prod.fst) ds ∧ Q us σ' k' := by
  obtain ⟨us, ys, σ', k', a, b, c, d, e, f, g⟩ := h
  have sub : ∀ n, Av p X ρ σ' n → Av p (Xs X ys) ρ σ' n := fun n z => by
    rcases z with z | z | z
    · exact .inl z
    · exact .inr (.inl (.inl z))
    · exact .inr (.inr z)
  refine ⟨us, σ', k', a, b, c.less fun n h => .inl h, d.hlds (fun n => (Classical.em (Av p X ρ σ' n)).elim (fun z => .inr (sub n z)) .inl) sub fun n hn z => ?_, g⟩
  obtain ⟨f1, f2, f3, f4, f5⟩ := f n hn
  rcases z with z | z | z
  · exact f3 z
  · exact f4 z
  · exact f5 z
theorem snd_lnil : SndL Φ GD GU p .nil := fun X lo S ρ σ k Q Ex rl hp w => by
  simp only [wpL] at w
  simp only [denL]
  exact ⟨[], [], σ, k, .refl, hp, rl.less fun n (h : Xs X [] n) => h.elim id fun h => (nomatch h), ⟨rfl, rfl⟩, List.nodup_nil, fun n h => (nomatch h), w⟩
theorem ResL.mv {av av' : Nat → Prop} (h : ∀ n o, S[n]? = some o → ¬ av n → S'[n]? = some o ∧ ¬ av' n) : ∀ {us : List (U × Bool)} {ds : List D} {ys : List Nat}, (∀ n ∈ ys, ∀ o, S[n]? = some o → S'[n]? = some o) → ResL S p av us ds ys → ResL S' p av' us ds ys
  | [], _, _, _, q => q
  | (u, false) :: us, ds, ys, hy, q => by
    obtain ⟨d, r, rfl, h1, h2⟩ := q
    exact ⟨d, r, rfl, h1.mv h, ResL.mv h hy h2⟩
  | (u, true) :: us, ds, ys, hy, q => by
    obtain ⟨n, r, zs, rfl, rfl, h1, h2⟩ := q
    exact ⟨n, r, zs, rfl, rfl, h1.mv h (hy n (by simp)), ResL.mv h (fun m hm => hy m (by simp [hm])) h2⟩
theorem Out.avs {ys : List Nat} (a : Out p S ρ σ S1 ρ σ1) (hy : ∀ n ∈ ys, S.length ≤ n) : ∀ n o, S[n]? = some o → ¬ Av p X ρ σ n → S1[n]? = some o ∧ ¬ Av p (Xs X ys) ρ σ1 n := fun n o e h => by
  obtain ⟨h1, h2⟩ := a.avm (X := X) n o e h
  refine ⟨h1, fun z => ?_⟩
  rcases z with z | (z | z) | z
  · exact h2 (.inl z)
  · exact h2 (.inr (.inl z))
  · have := hy n z; have := lt_of_get e; omega
  · exact h2 (.inr (.inr z))
theorem snd_lcons {a b : E} (ha : SndE Φ GD GU p a) (hb : SndL Φ GD GU p b) : SndL Φ GD GU p (.cons a b) := fun X lo S ρ σ k Q Ex rl hp w => by
  simp only [wpL] at w
  simp only [denL]
  refine (ha X lo S ρ σ k _ Ex rl hp w).bind fun d S1 ⟨u, fr, σ1, k1, o1, hp1, r1, w⟩ => ?_
  cases fr with
  | false =>
    refine ((hb X lo S1 ρ σ1 k1 _ Ex r1.1 hp1 w).imp (fun ds S2 h => h) fun _ _ _ => ExF.up o1).bind fun ds S2 ⟨us, ys, σ2, k2, o2, hp2, r2, l2, nd, hy, w⟩ => ?_
    refine ⟨(u, false) :: us, ys, σ2, k2, o1.trans o2, hp2, r2, ⟨d, ds, rfl, r1.2.mv (o2.avs fun n hn => (hy n hn).2.1), l2⟩, nd, fun n hn => ?_, w⟩
    obtain ⟨h1, h2, h3⟩ := hy n hn
    exact ⟨h1, Nat.le_trans o1.len h2, h3⟩
  | true =>
    obtain ⟨n, rfl, r1, b1, g1, g2, g3, g4, g5⟩ := r1
    refine ((hb (fun m => X m ∨ m = n) lo S1 ρ σ1 k1 _ Ex r1 hp1 w).imp (fun ds S2 h => h) fun _ _ _ z => ExF.up o1 (ExF.less (fun n h => .inl h) z)).bind fun ds S2 ⟨us, ys, σ2, k2, o2, hp2, r2, l2, nd, hy, w⟩ => ?_
    have fw : ∀ m, Xs X (n :: ys) m → Xs (fun m => X m ∨ m = n) ys m := fun m z => by
      rcases z with z | z
      · exact .inl (.inl z)
      · rcases List.mem_cons.mp z with z | z
        · exact .inl (.inr z)
        · exact .inr z
    have bw : ∀ m o, S2[m]? = some o → ¬ Av p (Xs (fun m => X m ∨ m = n) ys) ρ σ2 m → S2[m]? = some o ∧ ¬ Av p (Xs X (n :: ys)) ρ σ2 m := fun m o e a => ⟨e, fun z => by
      rcases z with z | z | z
      · exact a (.inl z)
      · exact a (.inr (.inl (fw m z)))
      · exact a (.inr (.inr z))⟩
    have hx : ¬ Own ρ σ2 n := fun z => (r2.own_lo z).2.2 (.inl (.inr rfl))
    refine ⟨(u, true) :: us, n :: ys, σ2, k2, o1.trans o2, hp2, r2.less fw, ⟨n, ds, ys, rfl, rfl, ?_, l2.mv bw fun _ _ _ e => e⟩, ?_, fun m hm => ?_, w⟩
    · refine (b1.mv (o2.avs fun m hm => (hy m hm).2.1) fun o e => ?_).mv bw fun _ e => e
      rw [o2.frm n (lt_of_get e) g3 g5]; exact e
    · rw [List.nodup_cons]
      exact ⟨fun z => (hy n z).2.2.2.1 (.inr rfl), nd⟩
    · rcases List.mem_cons.mp hm with rfl | hm
      · exact ⟨g1, g2, g3, g4, hx⟩
      · obtain ⟨h1, h2, h3, h4, h5⟩ := hy m hm
        exact ⟨h1, Nat.le_trans o1.len h2, h3, fun z => h4 (.inl z), h5⟩
theorem snd_mnil : SndM Φ GD GU p .nil := fun X lo S ρ σ k Q Ex rl hp w => by
  simp only [wpM] at w
  simp only [denL]
  exact ⟨[], σ, k, .refl, hp, rl, rfl, w⟩
theorem snd_mcons {a b : E} (ha : SndE Φ GD GU p a) (hb : SndM Φ GD GU p b) : SndM Φ GD GU p (.cons a b) := fun X lo S ρ σ k Q Ex rl hp w => by
  simp only [wpM] at w
  simp only [denL]
  refine (brw_ok ha rl hp w).bind fun d S1 ⟨o, σ1, k1, o1, hp1, rl1, r1, w⟩ => ?_
  refine ((hb X lo S1 ρ σ1 k1 _ Ex rl1 hp1 w).imp (fun ds S2 h => h) fun _ _ _ => ExF.up o1).bind fun ds S2 ⟨os, σ2, k2, o2, hp2, rl2, r2, w⟩ => ?_
  exact ⟨o :: os, σ2, k2, o1.trans o2, hp2, rl2, ⟨d, ds, rfl, r1.mv o2, r2⟩, w⟩
theorem snd_tup {es : E} (h : SndL Φ GD GU p es) : SndE Φ GD GU p (.tup es) := fun X lo S ρ σ k Q Ex rl hp w => by
  simp only [wpE] at w
  simp only [den]
  refine (h X lo S ρ σ k _ Ex rl hp w).bind fun ds S1 po => ?_
  obtain ⟨us, σ1, k1, o1, hp1, rl1, r1, hl, w⟩ := po.plain
  refine OkX.upE o1 (now rl1 hp1 (.ok ?_ (Hld_tup.mpr ⟨ds, rfl, r1⟩)) w)
  unfold lim
  rw [if_pos (by rw [← r1.len, List.length_map]; exact hl)]
theorem snd_lst {es : E} (h : SndL Φ GD GU p es) : SndE Φ GD GU p (.lst es) := fun X lo S ρ σ k Q Ex rl hp w => by
  simp only [wpE] at w
  simp only [den]
  refine (h X lo S ρ σ k _ Ex rl hp w).bind fun ds S1 po => ?_
  obtain ⟨us, σ1, k1, o1, hp1, rl1, r1, hl, w⟩ := po.plain
  refine OkX.upE o1 (now rl1 hp1 (.nw ?_ r1) w)
  unfold lim
  rw [if_pos (by rw [← r1.len, List.length_map]; exact hl)]
theorem snd_bin {o : Bop} {a b : E} (ha : SndE Φ GD GU p a) (hb : SndE Φ GD GU p b) : SndE Φ GD GU p (.bin o a b) := fun X lo S ρ σ k Q Ex rl hp w => by
  simp only [wpE] at w
  simp only [den]
  refine (brw_ok ha rl hp w).bind fun d S1 ⟨x, σ1, k1, o1, hp1, rl1, r1, w⟩ => OkX.upE o1 ?_
  refine (brw_ok hb rl1 hp1 w).bind fun e S2 ⟨y, σ2, k2, o2, hp2, rl2, r2, w⟩ => OkX.upE o2 ?_
  obtain ⟨x', ex, w⟩ := w.out
  obtain ⟨y', ey, w⟩ := w.out
  obtain ⟨r, er, w⟩ := w.out
  exact now rl2 hp2 (binU_hld ((r1.mv o2).res rl2 ex) (r2.res rl2 ey) er) w
theorem snd_cmp {o : Cop} {a b : E} (ha : SndE Φ GD GU p a) (hb : SndE Φ GD GU p b) : SndE Φ GD GU p (.cmp o a b) := fun X lo S ρ σ k Q Ex rl hp w => by
  simp only [wpE] at w
  simp only [den]
  refine (brw_ok ha rl hp w).bind fun d S1 ⟨x, σ1, k1, o1, hp1, rl1, r1, w⟩ => OkX.upE o1 ?_
  refine (brw_ok hb rl1 hp1 w).bind fun e S2 ⟨y, σ2, k2, o2, hp2, rl2, r2, w⟩ => OkX.upE o2 ?_
  obtain ⟨x', ex, w⟩ := w.out
  obtain ⟨y', ey, w⟩ := w.out
  obtain ⟨r, er, w⟩ := w.out
  exact now rl2 hp2 (.ok (cmpU_hld ((r1.mv o2).res rl2 ex) (r2.res rl2 ey) er) (Hld_bl.mpr rfl)) w
theorem snd_chn {o q : Cop} {a b c : E} (ha : SndE Φ GD GU p a) (hb : SndE Φ GD GU p b) (hc : SndE Φ GD GU p c) : SndE Φ GD GU p (.chn o q a b c) := fun X lo S ρ σ k Q Ex rl hp w => by
  simp only [wpE] at w
  simp only [den]
  refine (brw_ok ha rl hp w).bind fun d S1 ⟨x, σ1, k1, o1, hp1, rl1, r1, w⟩ => OkX.upE o1 ?_
  refine (brw_ok hb rl1 hp1 w).bind fun e S2 ⟨y, σ2, k2, o2, hp2, rl2, r2, w⟩ => OkX.upE o2 ?_
  obtain ⟨x', ex, w⟩ := w.out
  obtain ⟨y', ey, w⟩ := w.out
  obtain ⟨r, er, w⟩ := w.out
  rw [cmpU_hld ((r1.mv o2).res rl2 ex) (r2.res rl2 ey) er]
  cases r with
  | false => exact now rl2 hp2 (.ok rfl (Hld_bl.mpr rfl)) w
  | true =>
    rw [if_pos rfl] at w
    show OkX (R.bind _ _) _ _
    refine (brw_ok hc rl2 hp2 w).bind fun f S3 ⟨z, σ3, k3, o3, hp3, rl3, r3, w⟩ => OkX.upE o3 ?_
    obtain ⟨y2, ey2, w⟩ := w.out
    obtain ⟨z', ez, w⟩ := w.out
    obtain ⟨r, er, w⟩ := w.out
    exact now rl3 hp3 (.ok (cmpU_hld ((r2.mv o3).res rl3 ey2) (r3.res rl3 ez) er) (Hld_bl.mpr rfl)) w
theorem snd_neg {a : E} (ha : SndE Φ GD GU p a) : SndE Φ GD GU p (.neg a) := fun X lo S ρ σ k Q Ex rl hp w => by
  simp only [wpE] at w
  simp only [den]
  refine (ha X lo S ρ σ k _ Ex rl hp w).bind fun d S1 ⟨u, fr, σ1, k1, o1, hp1, r1, w⟩ => OkX.upE o1 ?_
  obtain ⟨i, ei, w⟩ := w.out
  have h := r1.plain.2
  cases u <;> simp only [asIU] at ei <;> try cases ei
  rw [Hld_int] at h
  subst h
  exact now r1.rel hp1 (.ok rfl (Hld_int.mpr rfl)) w
theorem snd_nt {a : E} (ha : SndE Φ GD GU p a) : SndE Φ GD GU p (.nt a) := fun X lo S ρ σ k Q Ex rl hp w => by
  simp only [wpE] at w
  simp only [den]
  refine (ha X lo S ρ σ k _ Ex rl hp w).bind fun d S1 ⟨u, fr, σ1, k1, o1, hp1, r1, w⟩ => OkX.upE o1 ?_
  obtain ⟨i, ei, w⟩ := w.out
  have h := r1.plain.2
  cases u <;> simp only [asBU] at ei <;> try cases ei
  rw [Hld_bl] at h
  subst h
  exact now r1.rel hp1 (.ok rfl (Hld_bl.mpr rfl)) w
theorem snd_isN {a : E} (ha : SndE Φ GD GU p a) : SndE Φ GD GU p (.isN a) := fun X lo S ρ σ k Q Ex rl hp w => by
  simp only [wpE] at w
  simp only [den]
  refine (brw_ok ha rl hp w).bind fun d S1 ⟨x, σ1, k1, o1, hp1, rl1, r1, w⟩ => OkX.upE o1 ?_
  obtain ⟨x', ex, w⟩ := w.out
  rw [isN_hld (r1.res rl1 ex)]
  exact now rl1 hp1 (.ok rfl (Hld_bl.mpr rfl)) w
theorem snd_nsN {a : E} (ha : SndE Φ GD GU p a) : SndE Φ GD GU p (.nsN a) := fun X lo S ρ σ k Q Ex rl hp w => by
  simp only [wpE] at w
  simp only [den]
  refine (brw_ok ha rl hp w).bind fun d S1 ⟨x, σ1, k1, o1, hp1, rl1, r1, w⟩ => OkX.upE o1 ?_
  obtain ⟨x', ex, w⟩ := w.out
  rw [isN_hld (r1.res rl1 ex)]
  exact now rl1 hp1 (.ok rfl (Hld_bl.mpr rfl)) w
theorem tstU.out {u : U} {A B : Prop} (h : tstU u A B) : ∃ b, u = .bl b ∧ if b = true then A else B := by
  cases u with
  | bl b => cases b <;> exact ⟨_, rfl, h⟩
  | _ => exact h.elim
theorem snd_and {a b : E} (ha : SndE Φ GD GU p a) (hb : SndE Φ GD GU p b) : SndE Φ GD GU p (.and a b) := fun X lo S ρ σ k Q Ex rl hp w => by
  simp only [wpE] at w
  simp only [den]
  refine (ha X lo S ρ σ k _ Ex rl hp w).bind fun d S1 ⟨u, fr, σ1, k1, o1, hp1, r1, w⟩ => OkX.upE o1 ?_
  obtain ⟨c, rfl, w⟩ := w.out
  have h := r1.plain.2
  rw [Hld_bl] at h
  subst h
  cases c with
  | true => exact hb X lo S1 ρ σ1 k1 _ Ex r1.rel hp1 w
  | false => exact now r1.rel hp1 (.ok rfl (Hld_bl.mpr rfl)) w
theorem snd_or {a b : E} (ha : SndE Φ GD GU p a) (hb : SndE Φ GD GU p b) : SndE Φ GD GU p (.or a b) := fun X lo S ρ σ k Q Ex rl hp w => by
  simp only [wpE] at w
  simp only [den]
  refine (ha X lo S ρ σ k _ Ex rl hp w).bind fun d S1 ⟨u, fr, σ1, k1, o1, hp1, r1, w⟩ => OkX.upE o1 ?_
  obtain ⟨c, rfl, w⟩ := w.out
  have h := r1.plain.2
  rw [Hld_bl] at h
  subst h
  cases c with
  | true => exact now r1.rel hp1 (.ok rfl (Hld_bl.mpr rfl)) w
  | false => exact hb X lo S1 ρ σ1 k1 _ Ex r1.rel hp1 w
theorem snd_ife {c a b : E} (hc : SndE Φ GD GU p c) (ha : SndE Φ GD GU p a) (hb : SndE Φ GD GU p b) : SndE Φ GD GU p (.ife c a b) := fun X lo S ρ σ k Q Ex rl hp w => by
  simp only [wpE] at w
  simp only [den]
  refine (hc X lo S ρ σ k _ Ex rl hp w).bind fun d S1 ⟨u, fr, σ1, k1, o1, hp1, r1, w⟩ => OkX.upE o1 ?_
  obtain ⟨c, rfl, w⟩ := w.out
  have h := r1.plain.2
  rw [Hld_bl] at h
  subst h
  cases c with
  | true => exact ha X lo S1 ρ σ1 k1 _ Ex r1.rel hp1 w
  | false => exact hb X lo S1 ρ σ1 k1 _ Ex r1.rel hp1 w
theorem snd_cal {f : Nat} {es : E} (h : SndL Φ GD GU p es) : SndE Φ GD GU p (.cal f es) := fun X lo S ρ σ k Q Ex rl hp w => by
  simp only [wpE] at w
  simp only [den]
  refine (h X lo S ρ σ k _ Ex rl hp w).bind fun ds S1 po => ?_
  obtain ⟨us, σ1, k1, o1, hp1, rl1, r1, w⟩ := po.plain
  refine OkX.upE o1 ?_
  have hc := w (fun n => X n ∨ Own ρ σ1 n) S1 ds (fun n z => z.elim (rl1.xlt n) fun z => (show Av p X ρ σ1 n from .inr (.inr z)).lt rl1) hp1 r1
  refine hc.imp (fun d S2 ⟨u, fr, k2, hl, hf, hp2, rr, q⟩ => ?_) fun c x S2 ⟨hl, hf, xu, k2, hv, hp2, q⟩ => ⟨hl, fun n hn hp _ => hf n hn hp, xu, k2, hv.less fun n h => .inl h, hp2, q⟩
  have out : Out p S1 ρ σ1 S2 ρ σ1 := ⟨hl, fun n hn hp _ => hf n hn hp, fun n h => .inl h⟩
  refine ⟨u, fr, σ1, k2, out, hp2, ?_, q⟩
  cases fr with
  | false => exact ⟨rl1.grow0 hl hf, rr⟩
  | true =>
    obtain ⟨n, rfl, hn, b⟩ := rr
    have hb := b.lt
    have hls := rl1.los
    have hpl := rl1.plo
    refine ⟨n, rfl, rl1.grow hl hf fun m hm => by subst hm; exact ⟨hn, hb⟩, ?_, Nat.le_trans hls hn, hn, by omega, fun z => ?_, fun z => ?_⟩
    · refine b.mv (fun m o e a => ⟨e, fun z => a ?_⟩) fun _ e => e
      rcases z with z | (z | z) | z
      · exact .inl z
      · exact .inr (.inl (.inl z))
      · exact .inr (.inr z)
      · exact .inr (.inl (.inr z))
    · have := rl1.xlt n z; omega
    · have := (show Av p X ρ σ1 n from .inr (.inr z)).lt rl1; omega
theorem snd_bi {f : Bi} {es : E} (h : SndM Φ GD GU p es) : SndE Φ GD GU p (.bi f es) := fun X lo S ρ σ k Q Ex rl hp w => by
  simp only [wpE] at w
  simp only [den]
  refine (h X lo S ρ σ k _ Ex rl hp w).bind fun ds S1 ⟨os, σ1, k1, o1, hp1, rl1, r1, w⟩ => OkX.upE o1 ?_
  obtain ⟨us, eu, w⟩ := w.out
  obtain ⟨r, er, w⟩ := w.out
  exact now rl1 hp1 (biU_hld (r1.res rl1 eu) er) w
theorem snd_isi {ts : List Ty} {a : E} (ha : SndE Φ GD GU p a) : SndE Φ GD GU p (.isi ts a) := fun X lo S ρ σ k Q Ex rl hp w => by
  simp only [wpE] at w
  simp only [den]
  refine (brw_ok ha rl hp w).bind fun d S1 ⟨x, σ1, k1, o1, hp1, rl1, r1, w⟩ => OkX.upE o1 ?_
  obtain ⟨x', ex, w⟩ := w.out
  obtain ⟨r, er, w⟩ := w.out
  rw [tysAre_hld (r1.res rl1 ex) er]
  exact now rl1 hp1 (.ok rfl (Hld_bl.mpr rfl)) w
theorem snd_ix {a b : E} (ha : SndE Φ GD GU p a) (hb : SndE Φ GD GU p b) : SndE Φ GD GU p (.ix a b) := fun X lo S ρ σ k Q Ex rl hp w => by
  simp only [wpE] at w
  simp only [den]
  refine (brw_ok ha rl hp w).bind fun d S1 ⟨x, σ1, k1, o1, hp1, rl1, r1, w⟩ => OkX.upE o1 ?_
  refine (brw_ok hb rl1 hp1 w).bind fun e S2 ⟨y, σ2, k2, o2, hp2, rl2, r2, w⟩ => OkX.upE o2 ?_
  obtain ⟨x', ex, w⟩ := w.out
  obtain ⟨y', ey, w⟩ := w.out
  obtain ⟨r, er, w⟩ := w.out
  obtain ⟨d', h1, h2⟩ := ixU_hld ((r1.mv o2).res rl2 ex) (r2.res rl2 ey) er
  exact now rl2 hp2 (.ok h1 h2) w
theorem snd_onil : SndO Φ GD GU p .nil := fun X lo S ρ σ k Q Ex rl hp w => by
  simp only [wpO] at w
  simp only [denO]
  exact ⟨σ, k, .refl, hp, rl, w⟩
theorem snd_ocons {a b : E} (ha : SndE Φ GD GU p a) : SndO Φ GD GU p (.cons a b) := fun X lo S ρ σ k Q Ex rl hp w => by
  simp only [wpO] at w
  simp only [denO]
  refine (ha X lo S ρ σ k _ Ex rl hp w).bind fun d S1 ⟨u, fr, σ1, k1, o1, hp1, r1, w⟩ => OkX.upO o1 ?_
  obtain ⟨i, ei, w⟩ := w.out
  have h := r1.plain.2
  cases u <;> simp only [asIU] at ei <;> try cases ei
  rw [Hld_int] at h
  subst h
  exact ⟨σ1, k1, .refl, hp1, r1.rel, w⟩
theorem snd_sl {a lo' hi : E} (ha : SndE Φ GD GU p a) (hl : SndO Φ GD GU p lo') (hh : SndO Φ GD GU p hi) : SndE Φ GD GU p (.sl a lo' hi) := fun X lo S ρ σ k Q Ex rl hp w => by
  simp only [wpE] at w
  simp only [den]
  refine (brw_ok ha rl hp w).bind fun d S1 ⟨x, σ1, k1, o1, hp1, rl1, r1, w⟩ => OkX.upE o1 ?_
  refine (hl X lo S1 ρ σ1 k1 _ Ex rl1 hp1 w).bind fun l S2 ⟨σ2, k2, o2, hp2, rl2, w⟩ => OkX.upE o2 ?_
  refine (hh X lo S2 ρ σ2 k2 _ Ex rl2 hp2 w).bind fun h S3 ⟨σ3, k3, o3, hp3, rl3, w⟩ => OkX.upE o3 ?_
  obtain ⟨x', ex, w⟩ := w.out
  obtain ⟨r, er, w⟩ := w.out
  exact now rl3 hp3 (slU_hld (((r1.mv o2).mv o3).res rl3 ex) er) w
theorem snd_rvs {a : E} (ha : SndE Φ GD GU p a) : SndE Φ GD GU p (.rvs a) := fun X lo S ρ σ k Q Ex rl hp w => by
  simp only [wpE] at w
  simp only [den]
  refine (brw_ok ha rl hp w).bind fun d S1 ⟨x, σ1, k1, o1, hp1, rl1, r1, w⟩ => OkX.upE o1 ?_
  obtain ⟨x', ex, w⟩ := w.out
  split at w
  · exact now rl1 hp1 (rvU_hld (r1.res rl1 ex)) w
  · exact w.elim
theorem Opns.of {av : Nat → Prop} : ∀ {us : List U} {ds : List D}, Hlds S p av us ds → Opns S p av us ds
  | [], _, h => Hlds_nil.mp h
  | u :: us, _, h => by
    rw [Hlds_cons] at h
    obtain ⟨d, r, rfl, a, b⟩ := h
    exact ⟨d, r, rfl, .inl a, .of b⟩
theorem snd_lrg {es : E} (h : SndL Φ GD GU p es) : SndE Φ GD GU p (.lrg es) := fun X lo S ρ σ k Q Ex rl hp w => by
  simp only [wpE] at w
  simp only [den]
  refine (h X lo S ρ σ k _ Ex rl hp w).bind fun ds S1 po => ?_
  obtain ⟨us, σ1, k1, o1, hp1, rl1, r1, w⟩ := po.plain
  obtain ⟨r, er, w⟩ := w.out
  exact OkX.upE o1 (now rl1 hp1 (lrU_hld (.of r1) er) w)
theorem snd_irng {es : E} (h : SndL Φ GD GU p es) : SndI Φ GD GU p (.rng es) := fun X lo S ρ σ k Q Ex rl hp w => by
  simp only [wpI] at w
  simp only [denI]
  refine (h X lo S ρ σ k _ Ex rl hp w).bind fun ds S1 po => ?_
  obtain ⟨us, σ1, k1, o1, hp1, rl1, r1, w⟩ := po.plain
  obtain ⟨r, er, w⟩ := w.out
  obtain ⟨s, e1, e2⟩ := rgU_hld (Opns.of r1) er
  rw [e1]
  exact ⟨r, σ1, k1, o1, hp1, rl1, e2, w⟩
theorem snd_ienm {es : E} (h : SndL Φ GD GU p es) : SndI Φ GD GU p (.enm es) := fun X lo S ρ σ k Q Ex rl hp w => by
  simp only [wpI] at w
  simp only [denI]
  refine (h X lo S ρ σ k _ Ex rl hp w).bind fun ds S1 po => ?_
  obtain ⟨us, σ1, k1, o1, hp1, rl1, r1, w⟩ := po.plain
  split at w
  · rename_i u
    obtain ⟨r, er, w⟩ := w.out
    rw [List.map_cons, List.map_nil, Hlds_cons] at r1
    obtain ⟨d, z, rfl, a, b⟩ := r1
    rw [Hlds_nil] at b
    subst b
    obtain ⟨s, e1, e2⟩ := enU_hld a er
    rw [e1]
    exact ⟨_, σ1, k1, o1, hp1, rl1, e2, w⟩
  · exact w.elim
theorem snd_izip {st : Bool} {es : E} (h : SndL Φ GD GU p es) : SndI Φ GD GU p (.zip st es) := fun X lo S ρ σ k Q Ex rl hp w => by
  simp only [wpI] at w
  simp only [denI]
  refine (h X lo S ρ σ k _ Ex rl hp w).bind fun ds S1 po => ?_
  obtain ⟨us, σ1, k1, o1, hp1, rl1, r1, w⟩ := po.plain
  obtain ⟨r, er, w⟩ := w.out
  obtain ⟨s, e1, e2⟩ := zpU_hld r1 er
  rw [e1]
  exact ⟨r, σ1, k1, o1, hp1, rl1, e2, w⟩
theorem snd_icons {a b : E} (ha : SndE Φ GD GU p a) : SndI Φ GD GU p (.cons a b) := fun X lo S ρ σ k Q Ex rl hp w => by
  simp only [wpI] at w
  simp only [denI]
  refine (ha X lo S ρ σ k _ Ex rl hp w).bind fun d S1 ⟨u, fr, σ1, k1, o1, hp1, r1, w⟩ => ?_
  obtain ⟨r, er, w⟩ := w.out
  obtain ⟨s, e1, e2⟩ := srcU_hld r1.plain.2 er
  rw [e1]
  exact ⟨r, σ1, k1, o1, hp1, r1.rel, e2, w⟩
end
end RS

/-! V6: methods, targets, comprehensions *)-/
namespace RS
open PySem
section
variable {Φ : Nat → List D → Hs → R D} {GD : Nat → D} {GU : Nat → U} {p lo k : Nat} {X : Nat → Prop} {S S' S1 S2 : Hs} {ρ ρ1 : Rho} {σ σ' σ1 σ2 : Env} {Ex : ExT}
theorem Hlds.fst1 {av : Nat → Prop} {u : U} {ds : List D} (h : Hlds S p av [u] ds) : ∃ d, ds = [d] ∧ Hld S p av u d := by
  rw [Hlds_cons] at h
  obtain ⟨d, r, rfl, a, b⟩ := h
  rw [Hlds_nil] at b
  subst b
  exact ⟨d, rfl, a⟩
theorem mtK_l {m : Mt} {n : Nat} {ds : List D} (h : S[n]? = some (.lst ds)) (hm : m = .append ∨ m = .insert ∨ m = .pop ∨ m = .extend) : mtK S m (.ref n) = true := by
  rcases hm with rfl | rfl | rfl | rfl
  · exact mk_append h
  · exact mk_insert h
  · exact mk_pop h
  · exact mk_extend h
theorem mtU_which {m : Mt} {xs as : List U} {r : U × List U} (h : mtU m xs as = some r) : m = .append ∨ m = .insert ∨ m = .pop ∨ m = .extend := by
  unfold mtU at h
  split at h <;> first | (cases h) | exact .inl rfl | exact .inr (.inl rfl) | exact .inr (.inr (.inl rfl)) | exact .inr (.inr (.inr rfl))
theorem snd_mth {m : Mt} {o es : E} (ho : SndE Φ GD GU p o) (hL : SndL Φ GD GU p es) (hM : SndM Φ GD GU p es) : SndE Φ GD GU p (.mth m o es) := fun X lo S ρ σ k Q Ex rl hp w => by
  -- a method that changes a slot's list
  have slot : ∀ (i : Nat) (xs0 : List U), σ[i]? = some (some (.lst xs0, true)) → ∀ (S1 : Hs) (σ1 : Env) (k1 : Nat) (n : Nat), ρ[i]? = some (some (.ref n)) → Out p S ρ σ S1 ρ σ1 → Pen S1 p k1 → Rel p X lo S1 ρ σ1 → ∀ (xs : List U), σ1[i]? = some (some (.lst xs, true)) →
      ∀ (as : List U) (ds : List D), Opns S1 p (Av p X ρ σ1) as ds → (m = .append ∨ m = .insert → Hlds S1 p (Av p X ρ σ1) as ds) → ∀ r, mtU m xs as = some r → Q r.1 false (σ1.set i (some (.lst r.2, true))) k1 →
      OkX (mtF S1 m (.ref n) ds) (PoE p X lo S ρ σ Q) (ExF p X S ρ σ Ex) := by
    intro i xs0 e0 S1 σ1 k1 n hn o1 hp1 rl1 xs e1 as ds ops hls r er w
    obtain ⟨n', h1, es', h2, h3⟩ := rl1.ow i _ e1
    rw [hn] at h1; cases h1
    obtain ⟨_, d, es2, g1, g2, g3⟩ := mtU_hld h2 h3 ops (fun _ h => hls h) (fun h => hls (.inr h)) er
    rw [g1]
    obtain ⟨c1, c2⟩ := rl1.change (o := .lst es2) (v := .lst r.2) e1 hn g2
    refine ⟨r.1, false, _, k1, o1.trans c2, hp1.lo fun a ha => ?_, ⟨c1, c2.hld g3⟩, w⟩
    have := (rl1.out i n ⟨_, e1, hn⟩).1
    have := rl1.plo
    rw [List.getElem?_set_ne (show n ≠ a by omega)]
  simp only [wpE, mthW] at w
  simp only [den]
  split at w
  · -- join
    refine (ho X lo S ρ σ k _ Ex rl hp w).bind fun d S1 ⟨u, fr, σ1, k1, o1, hp1, r1, w⟩ => OkX.upE o1 ?_
    obtain ⟨x, ex, w⟩ := w.out
    have h := r1.plain.2
    cases u <;> simp only [asSU] at ex <;> try cases ex
    rw [Hld_str] at h
    subst h
    rw [if_pos (show mtK S1 .join (.str x) = true from rfl)]
    refine (hM X lo S1 ρ σ1 k1 _ Ex r1.rel hp1 w).bind fun ds S2 ⟨os, σ2, k2, o2, hp2, rl2, r2, w⟩ => OkX.upE o2 ?_
    obtain ⟨us, eu, w⟩ := w.out
    split at w
    · rename_i y
      obtain ⟨r, er, w⟩ := w.out
      obtain ⟨d, rfl, hd⟩ := (r2.res rl2 eu).one
      obtain ⟨_, z, e1, e2⟩ := joinU_hld (S := S2) hd er
      exact now rl2 hp2 (.ok e1 e2) w
    · exact w.elim
  · -- extend
    rename_i i
    split at w
    · rename_i xs0 e0
      obtain ⟨n, h1, es', h2, h3⟩ := rl.ow i _ e0
      simp only [den, h1, R.bind_ok]
      rw [if_pos (mk_extend h2)]
      refine (hM X lo S ρ σ k _ Ex rl hp w).bind fun ds S1 ⟨os, σ1, k1, o1, hp1, rl1, r1, w⟩ => ?_
      dsimp only at w
      split at w
      · rename_i xs e1
        obtain ⟨us, eu, w⟩ := w.out
        obtain ⟨r, er, w⟩ := w.out
        exact slot i xs0 e0 S1 σ1 k1 n h1 o1 hp1 rl1 xs e1 us ds (r1.res rl1 eu) (fun h => by rcases h with h | h <;> cases h) r er w
      · exact w.elim
    · exact w.elim
  · -- the others
    rename_i i _ _
    split at w
    · rename_i xs0 e0
      obtain ⟨n, h1, es', h2, h3⟩ := rl.ow i _ e0
      simp only [den, h1, R.bind_ok]
      obtain ⟨hm, w⟩ := w
      have hm : m = .append ∨ m = .insert ∨ m = .pop ∨ m = .extend := by
        cases m <;> first | (exact Bool.noConfusion hm) | exact .inl rfl | exact .inr (.inl rfl) | exact .inr (.inr (.inl rfl))
      rw [if_pos (mtK_l h2 hm)]
      refine (hL X lo S ρ σ k _ Ex rl hp w).bind fun ds S1 po => ?_
      obtain ⟨us, σ1, k1, o1, hp1, rl1, r1, w⟩ := po.plain
      split at w
      · rename_i xs e1
        obtain ⟨r, er, w⟩ := w.out
        exact slot i xs0 e0 S1 σ1 k1 n h1 o1 hp1 rl1 xs e1 _ ds (.of r1) (fun _ => r1) r er w
      · exact w.elim
    · exact w.elim
  · exact w.elim
mutual
/-- a target of names -/
theorem bind_ok : ∀ (tg : E) {u : U} {d : D} {ρ : Rho} {σ σ' : Env} {S : Hs}, Rel p X lo S ρ σ → Hld S p (Av p X ρ σ) u d → bindU tg u σ = some σ' → ∃ ρ', denG Φ GD tg d ρ S = .ok ρ' S ∧ Rel p X lo S ρ' σ' ∧ Out p S ρ σ S ρ' σ' ∧ (∀ i, i ∉ slotsE tg → ρ'[i]? = ρ[i]?) ∧ ρ'.length = ρ.length
  | .var i, u, d, ρ, σ, σ', S, rl, h, e => by
    simp only [bindU] at e
    obtain ⟨c, rfl⟩ := ite_someP e
    obtain ⟨a, b⟩ := rl.setP (i := i) (od := some d) (.inr ⟨u, d, rfl, rfl, h⟩)
    refine ⟨_, by simp only [denG]; rw [if_pos (by rw [rl.len]; exact c)], a, b, fun j hj => ?_, by rw [List.length_set]⟩
    rw [List.getElem?_set_ne (show i ≠ j from fun z => hj (by simp [slotsE, z]))]
  | .tup es, u, d, ρ, σ, σ', S, rl, h, e => by
    simp only [bindU] at e
    cases u with
    | tup us =>
      simp only at e
      rw [Hld_tup] at h
      obtain ⟨ds, rfl, h⟩ := h
      split at e
      · rename_i c
        obtain ⟨ρ', a, b⟩ := binds_ok es rl h e
        refine ⟨ρ', ?_, b⟩
        simp only [denG]
        rw [if_pos (by rw [← h.len]; exact c)]; exact a
      · cases e
    | _ => cases e
  | .non, _, _, _, _, _, _, _, _, e => by simp [bindU] at e
  | .bl _, _, _, _, _, _, _, _, _, e => by simp [bindU] at e
  | .int _, _, _, _, _, _, _, _, _, e => by simp [bindU] at e
  | .str _, _, _, _, _, _, _, _, _, e => by simp [bindU] at e
  | .glb _, _, _, _, _, _, _, _, _, e => by simp [bindU] at e
  | .nil, _, _, _, _, _, _, _, _, e => by simp [bindU] at e
  | .cons _ _, _, _, _, _, _, _, _, _, e => by simp [bindU] at e
  | .lst _, _, _, _, _, _, _, _, _, e => by simp [bindU] at e
  | .dic _, _, _, _, _, _, _, _, _, e => by simp [bindU] at e
  | .bin _ _ _, _, _, _, _, _, _, _, _, e => by simp [bindU] at e
  | .neg _, _, _, _, _, _, _, _, _, e => by simp [bindU] at e
  | .nt _, _, _, _, _, _, _, _, _, e => by simp [bindU] at e
  | .cmp _ _ _, _, _, _, _, _, _, _, _, e => by simp [bindU] at e
  | .isN _, _, _, _, _, _, _, _, _, e => by simp [bindU] at e
  | .nsN _, _, _, _, _, _, _, _, _, e => by simp [bindU] at e
  | .chn _ _ _ _ _, _, _, _, _, _, _, _, _, e => by simp [bindU] at e
  | .and _ _, _, _, _, _, _, _, _, _, e => by simp [bindU] at e
  | .or _ _, _, _, _, _, _, _, _, _, e => by simp [bindU] at e
  | .ife _ _ _, _, _, _, _, _, _, _, _, e => by simp [bindU] at e
  | .cal _ _, _, _, _, _, _, _, _, _, e => by simp [bindU] at e
  | .bi _ _, _, _, _, _, _, _, _, _, e => by simp [bindU] at e
  | .isi _ _, _, _, _, _, _, _, _, _, e => by simp [bindU] at e
  | .mth _ _ _, _, _, _, _, _, _, _, _, e => by simp [bindU] at e
  | .ix _ _, _, _, _, _, _, _, _, _, e => by simp [bindU] at e
  | .sl _ _ _, _, _, _, _, _, _, _, _, e => by simp [bindU] at e
  | .rvs _, _, _, _, _, _, _, _, _, e => by simp [bindU] at e
  | .lc _ _ _ _ _, _, _, _, _, _, _, _, _, e => by simp [bindU] at e
  | .dc _ _ _ _ _ _, _, _, _, _, _, _, _, _, e => by simp [bindU] at e
  | .lrg _, _, _, _, _, _, _, _, _, e => by simp [bindU] at e
  | .rng _, _, _, _, _, _, _, _, _, e => by simp [bindU] at e
  | .enm _, _, _, _, _, _, _, _, _, e => by simp [bindU] at e
  | .zip _ _, _, _, _, _, _, _, _, _, e => by simp [bindU] at e
theorem binds_ok : ∀ (es : E) {us : List U} {ds : List D} {ρ : Rho} {σ σ' : Env} {S : Hs}, Rel p X lo S ρ σ → Hlds S p (Av p X ρ σ) us ds → bindsU es us σ = some σ' → ∃ ρ', denGs Φ GD es ds ρ S = .ok ρ' S ∧ Rel p X lo S ρ' σ' ∧ Out p S ρ σ S ρ' σ' ∧ (∀ i, i ∉ slotsE es → ρ'[i]? = ρ[i]?) ∧ ρ'.length = ρ.length
  | .nil, us, ds, ρ, σ, σ', S, rl, h, e => by
    cases us with
    | nil =>
      simp only [bindsU] at e
      cases e
      rw [Hlds_nil] at h
      subst h
      exact ⟨ρ, by simp only [denGs], rl, .refl, fun _ _ => rfl, rfl⟩
    | cons u us => simp [bindsU] at e
  | .cons a b, us, ds, ρ, σ, σ', S, rl, h, e => by
    cases us with
    | nil => simp [bindsU] at e
    | cons u us =>
      simp only [bindsU] at e
      rw [Hlds_cons] at h
      obtain ⟨d, r, rfl, h1, h2⟩ := h
      split at e
      · rename_i σ1 q
        obtain ⟨ρ1, a1, a2, a3, a4, a5⟩ := bind_ok a rl h1 q
        obtain ⟨ρ2, b1, b2, b3, b4, b5⟩ := binds_ok b a2 (a3.hlds h2) e
        refine ⟨ρ2, by simp only [denGs, a1, R.bind_ok, b1], b2, a3.trans b3, fun i hi => ?_, b5.trans a5⟩
        rw [b4 i fun z => hi (by simp [slotsE, z]), a4 i fun z => hi (by simp [slotsE, z])]
      · cases e
  | .var _, _, _, _, _, _, _, _, _, e => by simp [bindsU] at e
  | .tup _, _, _, _, _, _, _, _, _, e => by simp [bindsU] at e
  | .non, _, _, _, _, _, _, _, _, e => by simp [bindsU] at e
  | .bl _, _, _, _, _, _, _, _, _, e => by simp [bindsU] at e
  | .int _, _, _, _, _, _, _, _, _, e => by simp [bindsU] at e
  | .str _, _, _, _, _, _, _, _, _, e => by simp [bindsU] at e
  | .glb _, _, _, _, _, _, _, _, _, e => by simp [bindsU] at e
  | .lst _, _, _, _, _, _, _, _, _, e => by simp [bindsU] at e
  | .dic _, _, _, _, _, _, _, _, _, e => by simp [bindsU] at e
  | .bin _ _ _, _, _, _, _, _, _, _, _, e => by simp [bindsU] at e
  | .neg _, _, _, _, _, _, _, _, _, e => by simp [bindsU] at e
  | .nt _, _, _, _, _, _, _, _, _, e => by simp [bindsU] at e
  | .cmp _ _ _, _, _, _, _, _, _, _, _, e => by simp [bindsU] at e
  | .isN _, _, _, _, _, _, _, _, _, e => by simp [bindsU] at e
  | .nsN _, _, _, _, _, _, _, _, _, e => by simp [bindsU] at e
  | .chn _ _ _ _ _, _, _, _, _, _, _, _, _, e => by simp [bindsU] at e
  | .and _ _, _, _, _, _, _, _, _, _, e => by simp [bindsU] at e
  | .or _ _, _, _, _, _, _, _, _, _, e => by simp [bindsU] at e
  | .ife _ _ _, _, _, _, _, _, _, _, _, e => by simp [bindsU] at e
  | .cal _ _, _, _, _, _, _, _, _, _, e => by simp [bindsU] at e
  | .bi _ _, _, _, _, _, _, _, _, _, e => by simp [bindsU] at e
  | .isi _ _, _, _, _, _, _, _, _, _, e => by simp [bindsU] at e
  | .mth _ _ _, _, _, _, _, _, _, _, _, e => by simp [bindsU] at e
  | .ix _ _, _, _, _, _, _, _, _, _, e => by simp [bindsU] at e
  | .sl _ _ _, _, _, _, _, _, _, _, _, e => by simp [bindsU] at e
  | .rvs _, _, _, _, _, _, _, _, _, e => by simp [bindsU] at e
  | .lc _ _ _ _ _, _, _, _, _, _, _, _, _, e => by simp [bindsU] at e
  | .dc _ _ _ _ _ _, _, _, _, _, _, _, _, _, e => by simp [bindsU] at e
  | .lrg _, _, _, _, _, _, _, _, _, e => by simp [bindsU] at e
  | .rng _, _, _, _, _, _, _, _, _, e => by simp [bindsU] at e
  | .enm _, _, _, _, _, _, _, _, _, e => by simp [bindsU] at e
  | .zip _ _, _, _, _, _, _, _, _, _, e => by simp [bindsU] at e
end
/-! ### names that are forgotten -/
theorem wipeU_get (vs : List Nat) (i : Nat) : (wipeU σ vs)[i]? = if i ∈ vs ∧ i < σ.length then some none else σ[i]? := by
  induction vs with
  | nil => simp [wipeU]
  | cons v vs ih =>
    simp only [wipeU]
    have hl : (wipeU σ vs).length = σ.length := by
      clear ih
      induction vs with
      | nil => rfl
      | cons w ws ih => simp [wipeU, ih]
    by_cases hv : v = i
    · subst hv
      by_cases hi : v < σ.length
      · rw [List.getElem?_set_self (by rw [hl]; exact hi), if_pos ⟨by simp, hi⟩]
      · rw [List.getElem?_eq_none (by rw [List.length_set, hl]; omega), if_neg (by omega), List.getElem?_eq_none (by omega)]
    · rw [List.getElem?_set_ne hv, ih]
      have : i ∈ v :: vs ↔ i ∈ vs := by simp [Ne.symm hv]
      simp only [this]
theorem wipeU_len (vs : List Nat) : (wipeU σ vs).length = σ.length := by
  induction vs with
  | nil => rfl
  | cons w ws ih => simp [wipeU, ih]
theorem wipeR_len (vs : List Nat) : (wipeR ρ vs).length = ρ.length := by
  induction vs with
  | nil => rfl
  | cons w ws ih => simp [wipeR, ih]
theorem wipeR_get (vs : List Nat) (i : Nat) : (wipeR ρ vs)[i]? = if i ∈ vs ∧ i < ρ.length then some none else ρ[i]? := by
  induction vs with
  | nil => simp [wipeR]
  | cons v vs ih =>
    simp only [wipeR]
    have hl := wipeR_len (ρ := ρ) vs
    by_cases hv : v = i
    · subst hv
      by_cases hi : v < ρ.length
      · rw [List.getElem?_set_self (by rw [hl]; exact hi), if_pos ⟨by simp, hi⟩]
      · rw [List.getElem?_eq_none (by rw [List.length_set, hl]; omega), if_neg (by omega), List.getElem?_eq_none (by omega)]
    · rw [List.getElem?_set_ne hv, ih]
      have : i ∈ v :: vs ↔ i ∈ vs := by simp [Ne.symm hv]
      simp only [this]
theorem wipeU_in {vs : List Nat} {i : Nat} {u : U} {b : Bool} (h : (wipeU σ vs)[i]? = some (some (u, b))) : i ∉ vs ∧ σ[i]? = some (some (u, b)) := by
  rw [wipeU_get] at h
  split at h
  · cases h
  · rename_i c
    exact ⟨fun z => c ⟨z, ltg h⟩, h⟩
/-- the slots but those of vs, the values from elsewhere -/
theorem Rel.wiped {vs : List Nat} (r : Rel p X lo S ρ1 σ) (hl : ρ.length = ρ1.length) (ag : ∀ i, i ∉ vs → ρ1[i]? = ρ[i]?) : Rel p X lo S (wipeR ρ vs) (wipeU σ vs) ∧ Out p S ρ1 σ S (wipeR ρ vs) (wipeU σ vs) := by
  have gR : ∀ {i : Nat}, i ∉ vs → (wipeR ρ vs)[i]? = ρ1[i]? := fun {i} hi => by rw [wipeR_get, if_neg fun z => hi z.1, ag i hi]
  have ow : ∀ {i n : Nat}, owns (wipeR ρ vs) (wipeU σ vs) i n → owns ρ1 σ i n := fun {i n} ⟨u, h1, h2⟩ => by
    obtain ⟨q1, q2⟩ := wipeU_in h1
    rw [gR q1] at h2
    exact ⟨u, q2, h2⟩
  have Ow : ∀ {n : Nat}, Own (wipeR ρ vs) (wipeU σ vs) n → Own ρ1 σ n := fun ⟨i, q⟩ => ⟨i, ow q⟩
  have mv : ∀ m o, S[m]? = some o → ¬ Av p X ρ1 σ m → S[m]? = some o ∧ ¬ Av p X (wipeR ρ vs) (wipeU σ vs) m := fun m o q a => ⟨q, fun z => by
    rcases z with z | z | z
    · exact a (.inl z)
    · exact a (.inr (.inl z))
    · exact a (.inr (.inr (Ow z)))⟩
  refine ⟨⟨by rw [wipeR_len, wipeU_len, hl]; exact r.len, fun i u e => ?_, fun i u e => ?_, fun a b n x y => r.dis a b n (ow x) (ow y), fun a n x => r.out a n (ow x), r.los, r.plo, r.xlt⟩, ⟨Nat.le_refl _, fun _ _ _ _ => rfl, fun n h => .inl (Ow h)⟩⟩
  · obtain ⟨q1, q2⟩ := wipeU_in e
    obtain ⟨d, a, b⟩ := r.pl i u q2
    exact ⟨d, (gR q1).trans a, b.mv mv⟩
  · obtain ⟨q1, q2⟩ := wipeU_in e
    obtain ⟨d, a, b⟩ := r.ow i u q2
    exact ⟨d, (gR q1).trans a, b.mv mv fun _ z => z⟩
theorem restU_len (σ0 : Env) (vs : List Nat) : (restU σ0 vs σ).length = σ.length := by
  induction vs with
  | nil => rfl
  | cons w ws ih =>
    simp only [restU]
    split <;> simp [ih]
theorem restU_get (σ0 : Env) (vs : List Nat) (i : Nat) : (i ∉ vs → (restU σ0 vs σ)[i]? = σ[i]?) ∧ (i ∈ vs → ∀ u b, (restU σ0 vs σ)[i]? = some (some (u, b)) → b = false ∧ σ0[i]? = some (some (u, false))) := by
  induction vs with
  | nil => exact ⟨fun _ => rfl, fun h => (nomatch h)⟩
  | cons v vs ih =>
    have hl := restU_len (σ := σ) σ0 vs
    refine ⟨fun hi => ?_, fun hi u b e => ?_⟩
    · simp only [List.mem_cons, not_or] at hi
      simp only [restU]
      split
      · rw [List.getElem?_set_ne (Ne.symm hi.1)]; exact ih.1 hi.2
      · rw [List.getElem?_set_ne (Ne.symm hi.1)]; exact ih.1 hi.2
    · simp only [restU] at e
      by_cases hv : v = i
      · subst hv
        split at e
        · rename_i w q
          have hl2 : v < (restU σ0 vs σ).length := by simpa using ltg e
          rw [List.getElem?_set_self hl2] at e
          cases e
          exact ⟨rfl, q⟩
        · have hl2 : v < (restU σ0 vs σ).length := by simpa using ltg e
          rw [List.getElem?_set_self hl2] at e
          cases e
      · have hi2 : i ∈ vs := by
          rcases List.mem_cons.mp hi with h | h
          · exact absurd h.symm hv
          · exact h
        split at e
        · rw [List.getElem?_set_ne hv] at e; exact ih.2 hi2 u b e
        · rw [List.getElem?_set_ne hv] at e; exact ih.2 hi2 u b e
/-- behind a comprehension -/
theorem Rel.restored {vs : List Nat} (r : Rel p X lo S2 (wipeR ρ vs) (wipeU σ2 vs)) (hl : σ2.length = σ1.length) (h : ∀ (i : Nat) (u : U), σ1[i]? = some (some (u, false)) → ∃ d, ρ[i]? = some (some d) ∧ Hld S2 p (Av p X (wipeR ρ vs) (wipeU σ2 vs)) u d) : Rel p X lo S2 ρ (restU σ1 vs σ2) ∧ ∀ n, Own ρ (restU σ1 vs σ2) n → Own (wipeR ρ vs) (wipeU σ2 vs) n := by
  have gR : ∀ {i : Nat}, i ∉ vs → (wipeR ρ vs)[i]? = ρ[i]? := fun {i} hi => by rw [wipeR_get, if_neg fun z => hi z.1]
  have gU : ∀ {i : Nat}, i ∉ vs → (wipeU σ2 vs)[i]? = (restU σ1 vs σ2)[i]? := fun {i} hi => by rw [wipeU_get, if_neg fun z => hi z.1, (restU_get σ1 vs i).1 hi]
  have ow : ∀ {i n : Nat}, owns ρ (restU σ1 vs σ2) i n → owns (wipeR ρ vs) (wipeU σ2 vs) i n := fun {i n} ⟨u, h1, h2⟩ => by
    by_cases hi : i ∈ vs
    · obtain ⟨q, _⟩ := (restU_get σ1 vs i).2 hi u true h1
      cases q
    · exact ⟨u, (gU hi).trans h1, (gR hi).trans h2⟩
  have Ow : ∀ {n : Nat}, Own ρ (restU σ1 vs σ2) n → Own (wipeR ρ vs) (wipeU σ2 vs) n := fun ⟨i, q⟩ => ⟨i, ow q⟩
  have mv : ∀ m o, S2[m]? = some o → ¬ Av p X (wipeR ρ vs) (wipeU σ2 vs) m → S2[m]? = some o ∧ ¬ Av p X ρ (restU σ1 vs σ2) m := fun m o q a => ⟨q, fun z => by
    rcases z with z | z | z
    · exact a (.inl z)
    · exact a (.inr (.inl z))
    · exact a (.inr (.inr (Ow z)))⟩
  refine ⟨⟨?_, fun i u e => ?_, fun i u e => ?_, fun a b n x y => r.dis a b n (ow x) (ow y), fun a n x => r.out a n (ow x), r.los, r.plo, r.xlt⟩, fun n h => Ow h⟩
  · have := r.len
    rw [wipeR_len, wipeU_len] at this
    rw [restU_len]; exact this
  · by_cases hi : i ∈ vs
    · obtain ⟨_, q⟩ := (restU_get σ1 vs i).2 hi u false e
      obtain ⟨d, a, b⟩ := h i u q
      exact ⟨d, a, b.mv mv⟩
    · obtain ⟨d, a, b⟩ := r.pl i u ((gU hi).trans e)
      exact ⟨d, (gR hi).symm.trans a, b.mv mv⟩
  · by_cases hi : i ∈ vs
    · obtain ⟨q, _⟩ := (restU_get σ1 vs i).2 hi u true e
      cases q
    · obtain ⟨d, a, b⟩ := r.ow i u ((gU hi).trans e)
      exact ⟨d, (gR hi).symm.trans a, b.mv mv fun _ z => z⟩
/-- the turns of a comprehension -/
theorem lcU_ok {turn : D → Hs → R (Option D)} {turnU : U → Env → Nat → (Option U → Env → Nat → Prop) → Prop} {vs : List Nat} {gs : List (Nat × List D)}
    (ht : ∀ (u : U) (d : D) (S : Hs) (σ : Env) (k : Nat) (K : Option U → Env → Nat → Prop), Rel p X lo S (wipeR ρ vs) (wipeU σ vs) → Pen S p k → Hld S p (Av p X (wipeR ρ vs) (wipeU σ vs)) u d → turnU u (wipeU σ vs) k K →
      OkX (turn d S) (fun o S' => ∃ ou σ' k', Rel p X lo S' (wipeR ρ vs) (wipeU σ' vs) ∧ Out p S (wipeR ρ vs) (wipeU σ vs) S' (wipeR ρ vs) (wipeU σ' vs) ∧ Pen S' p k' ∧ Hlds S' p (Av p X (wipeR ρ vs) (wipeU σ' vs)) ou.toList o.toList ∧ K ou σ' k') (ExF p X S (wipeR ρ vs) (wipeU σ vs) Ex)) :
    ∀ (us : List U) (ds : List D) (S : Hs) (σ : Env) (k : Nat) (acc : List U) (Q : List U → Env → Nat → Prop), Rel p X lo S (wipeR ρ vs) (wipeU σ vs) → Pen S p k → Hlds S p (Av p X (wipeR ρ vs) (wipeU σ vs)) us ds →
      (∀ g ∈ gs, ¬ Av p X (wipeR ρ vs) (wipeU σ vs) g.1 ∧ S[g.1]? = some (.lst g.2)) → lcU turnU vs us σ k acc Q →
      OkX (lcGo gs turn ds S) (fun r S' => ∃ rs σ' k', Rel p X lo S' (wipeR ρ vs) (wipeU σ' vs) ∧ Out p S (wipeR ρ vs) (wipeU σ vs) S' (wipeR ρ vs) (wipeU σ' vs) ∧ Pen S' p k' ∧ Hlds S' p (Av p X (wipeR ρ vs) (wipeU σ' vs)) rs r ∧ Q (acc ++ rs) σ' k') (ExF p X S (wipeR ρ vs) (wipeU σ vs) Ex)
  | [], ds, S, σ, k, acc, Q, rl, hp, h, hg, w => by
    rw [Hlds_nil] at h
    subst h
    have hd : held S gs = true := (show SrcR S p _ [] ⟨gs, []⟩ from ⟨Hlds_nil.mpr rfl, hg⟩).held
    rw [lcGo, if_pos hd]
    exact ⟨[], σ, k, rl, .refl, hp, Hlds_nil.mpr rfl, by rw [List.append_nil]; exact w⟩
  | u :: us, ds, S, σ, k, acc, Q, rl, hp, h, hg, w => by
    rw [Hlds_cons] at h
    obtain ⟨d, ds, rfl, h1, h2⟩ := h
    have hd : held S gs = true := (show SrcR S p _ [] ⟨gs, []⟩ from ⟨Hlds_nil.mpr rfl, hg⟩).held
    rw [lcGo, if_pos hd]
    refine (ht u d S σ k _ rl hp h1 w).bind fun o S1 ⟨ou, σ1, k1, rl1, o1, hp1, r1, w⟩ => ?_
    refine ((lcU_ok ht us ds S1 σ1 k1 _ Q rl1 hp1 (o1.hlds h2) (fun g hg' => ?_) w).imp (fun _ _ h => h) fun _ _ _ => ExF.up o1).bind fun r S2 ⟨rs, σ2, k2, rl2, o2, hp2, r2, w⟩ => ?_
    · obtain ⟨a, b⟩ := hg g hg'
      exact ⟨(o1.avm _ _ b a).2, (o1.avm _ _ b a).1⟩
    · refine ⟨ou.toList ++ rs, σ2, k2, rl2, o1.trans o2, hp2, ?_, by rw [← List.append_assoc]; exact w⟩
      have r1' := o2.hlds r1
      cases o with
      | none =>
        cases ou with
        | none => exact r2
        | some v => have := r1'.len; simp at this
      | some x =>
        cases ou with
        | none => have := r1'.len; simp at this
        | some v => exact r1'.app r2
theorem snd_lc {vs : List Nat} {e tg it c : E} (he : SndE Φ GD GU p e) (hi : SndI Φ GD GU p it) (hc : SndE Φ GD GU p c) : SndE Φ GD GU p (.lc vs e tg it c) := fun X lo S ρ σ k Q Ex rl hp w => by
  simp only [wpE] at w
  simp only [den]
  obtain ⟨⟨_, hs⟩, w⟩ := w
  have hs : ∀ i ∈ slotsE tg, i ∈ vs := fun i h => by
    have := List.all_eq_true.mp hs i h
    simpa using this
  refine (hi X lo S ρ σ k _ Ex rl hp w).bind fun src S1 ⟨its, σ1, k1, o1, hp1, rl1, ⟨r1, g1⟩, w⟩ => OkX.upE o1 ?_
  obtain ⟨rlw, ow⟩ := rl1.wiped (ρ := ρ) (vs := vs) rfl fun _ _ => rfl
  have hlc := lcU_ok (p := p) (lo := lo) (X := X) (ρ := ρ) (Ex := Ex) (vs := vs) (gs := src.gs) (turn := fun d S' => (denG Φ GD tg d (wipeR ρ vs) S').bind fun ρ' S2 => (den Φ GD c ρ' S2).bind fun k S3 => tst k ((den Φ GD e ρ' S3).bind fun x S4 => .ok (some x) S4) (.ok none S3))
    (turnU := fun u σ' k' K => got (bindU tg u σ') fun σ2 => wpE (CallOk Φ p) GU c Ex σ2 k' fun b _ σ3 k3 => tstU b (wpE (CallOk Φ p) GU e Ex σ3 k3 fun x _ σ4 k4 => K (some x) σ4 k4) (K none σ3 k3)) ?_ its src.its S1 σ1 k1 [] _ rlw hp1 (ow.hlds r1) (fun g hg => ⟨(ow.avm _ _ (g1 g hg).2 (g1 g hg).1).2, (g1 g hg).2⟩) w
  · refine (hlc.imp (fun _ _ h => h) fun _ _ _ => ExF.up ow).bind fun r S2 ⟨rs, σ2, k2, rl2, o2, hp2, r2, hl, w⟩ => ?_
    obtain ⟨rl3, own3⟩ := rl2.restored (σ1 := σ1) (by
      have a := rl2.len; have b := rl1.len
      rw [wipeR_len, wipeU_len] at a
      omega) fun i u e => by
        obtain ⟨d, h1, h2⟩ := rl1.pl i u e
        exact ⟨d, h1, (ow.trans o2).hld h2⟩
    have out : Out p S1 ρ σ1 S2 ρ (restU σ1 vs σ2) := ⟨(ow.trans o2).len, (ow.trans o2).frm, fun n h => (ow.trans o2).grow n (own3 n h)⟩
    refine OkX.upE out (now rl3 hp2 (.nw ?_ (r2.mv fun n o e a => ⟨e, fun z => a ?_⟩)) w)
    · unfold lim
      rw [if_pos (by rw [← r1.len]; exact hl)]
    · rcases z with z | z | z
      · exact .inl z
      · exact .inr (.inl z)
      · exact .inr (.inr (own3 n z))
  · intro u d S σ k K rl hp h w
    obtain ⟨σ', e1, w⟩ := w.out
    obtain ⟨ρ', a1, a2, a3, a4, a5⟩ := bind_ok (Φ := Φ) (GD := GD) tg rl h e1
    rw [a1, R.bind_ok]
    have ag : ∀ i, i ∉ vs → ρ'[i]? = ρ[i]? := fun i hi => by
      rw [a4 i fun z => hi (hs i z), wipeR_get, if_neg fun z => hi z.1]
    have al : ρ.length = ρ'.length := by rw [a5, wipeR_len]
    refine ((hc X lo S ρ' σ' k _ Ex a2 hp w).imp (fun _ _ h => h) fun _ _ _ => ExF.up a3).bind fun b S1 ⟨u1, fr, σ1, k1, o1, hp1, r1, w⟩ => ?_
    obtain ⟨b1, rfl, w⟩ := w.out
    have hb := r1.plain.2
    rw [Hld_bl] at hb
    subst hb
    cases b1 with
    | true =>
      show OkX (R.bind _ _) _ _
      refine ((he X lo S1 ρ' σ1 k1 _ Ex r1.rel hp1 w).imp (fun _ _ h => h) fun _ _ _ z => ExF.up a3 (ExF.up o1 z)).bind fun x S2 ⟨u2, fr2, σ2, k2, o2, hp2, r2, w⟩ => ?_
      obtain ⟨b1, b2⟩ := r2.rel.wiped (ρ := ρ) (vs := vs) al ag
      exact ⟨some u2, σ2, k2, b1, ((a3.trans o1).trans o2).trans b2, hp2, .one (b2.hld r2.plain.2), w⟩
    | false =>
      obtain ⟨b1, b2⟩ := r1.rel.wiped (ρ := ρ) (vs := vs) al ag
      exact ⟨none, σ1, k1, b1, (a3.trans o1).trans b2, hp1, Hlds_nil.mpr rfl, w⟩
/-- all expressions -/
theorem snd_all (hG : ∀ g S av, Hld S p av (GU g) (GD g)) (e : E) : SndE Φ GD GU p e ∧ SndL Φ GD GU p e ∧ SndM Φ GD GU p e ∧ SndO Φ GD GU p e ∧ SndI Φ GD GU p e := by
  have noE : ∀ {e : E}, (∀ X σ k Q, wpE (CallOk Φ p) GU e X σ k Q = False) → SndE Φ GD GU p e := fun h X lo S ρ σ k Q Ex rl hp w => by rw [h] at w; exact w.elim
  have noL : ∀ {e : E}, (∀ X σ k Q, wpL (CallOk Φ p) GU e X σ k Q = False) → SndL Φ GD GU p e := fun h X lo S ρ σ k Q Ex rl hp w => by rw [h] at w; exact w.elim
  have noM : ∀ {e : E}, (∀ X σ k Q, wpM (CallOk Φ p) GU e X σ k Q = False) → SndM Φ GD GU p e := fun h X lo S ρ σ k Q Ex rl hp w => by rw [h] at w; exact w.elim
  have noO : ∀ {e : E}, (∀ X σ k Q, wpO (CallOk Φ p) GU e X σ k Q = False) → SndO Φ GD GU p e := fun h X lo S ρ σ k Q Ex rl hp w => by rw [h] at w; exact w.elim
  have noI : ∀ {e : E}, (∀ X σ k Q, wpI (CallOk Φ p) GU e X σ k Q = False) → SndI Φ GD GU p e := fun h X lo S ρ σ k Q Ex rl hp w => by rw [h] at w; exact w.elim
  induction e with
  | var i => exact ⟨snd_var, noL fun _ _ _ _ => by simp only [wpL], noM fun _ _ _ _ => by simp only [wpM], noO fun _ _ _ _ => by simp only [wpO], noI fun _ _ _ _ => by simp only [wpI]⟩
  | non => exact ⟨snd_non, noL fun _ _ _ _ => by simp only [wpL], noM fun _ _ _ _ => by simp only [wpM], noO fun _ _ _ _ => by simp only [wpO], noI fun _ _ _ _ => by simp only [wpI]⟩
  | bl b => exact ⟨snd_bl, noL fun _ _ _ _ => by simp only [wpL], noM fun _ _ _ _ => by simp only [wpM], noO fun _ _ _ _ => by simp only [wpO], noI fun _ _ _ _ => by simp only [wpI]⟩
  | int b => exact ⟨snd_int, noL fun _ _ _ _ => by simp only [wpL], noM fun _ _ _ _ => by simp only [wpM], noO fun _ _ _ _ => by simp only [wpO], noI fun _ _ _ _ => by simp only [wpI]⟩
  | str b => exact ⟨snd_str, noL fun _ _ _ _ => by simp only [wpL], noM fun _ _ _ _ => by simp only [wpM], noO fun _ _ _ _ => by simp only [wpO], noI fun _ _ _ _ => by simp only [wpI]⟩
  | glb g => exact ⟨snd_glb hG, noL fun _ _ _ _ => by simp only [wpL], noM fun _ _ _ _ => by simp only [wpM], noO fun _ _ _ _ => by simp only [wpO], noI fun _ _ _ _ => by simp only [wpI]⟩
  | nil => exact ⟨noE fun _ _ _ _ => by simp only [wpE], snd_lnil, snd_mnil, snd_onil, noI fun _ _ _ _ => by simp only [wpI]⟩
  | cons a b ha hb => exact ⟨noE fun _ _ _ _ => by simp only [wpE], snd_lcons ha.1 hb.2.1, snd_mcons ha.1 hb.2.2.1, snd_ocons ha.1, snd_icons ha.1⟩
  | tup es h => exact ⟨snd_tup h.2.1, noL fun _ _ _ _ => by simp only [wpL], noM fun _ _ _ _ => by simp only [wpM], noO fun _ _ _ _ => by simp only [wpO], noI fun _ _ _ _ => by simp only [wpI]⟩
  | lst es h => exact ⟨snd_lst h.2.1, noL fun _ _ _ _ => by simp only [wpL], noM fun _ _ _ _ => by simp only [wpM], noO fun _ _ _ _ => by simp only [wpO], noI fun _ _ _ _ => by simp only [wpI]⟩
  | dic es h => exact ⟨noE fun _ _ _ _ => by simp only [wpE], noL fun _ _ _ _ => by simp only [wpL], noM fun _ _ _ _ => by simp only [wpM], noO fun _ _ _ _ => by simp only [wpO], noI fun _ _ _ _ => by simp only [wpI]⟩
  | bin o a b ha hb => exact ⟨snd_bin ha.1 hb.1, noL fun _ _ _ _ => by simp only [wpL], noM fun _ _ _ _ => by simp only [wpM], noO fun _ _ _ _ => by simp only [wpO], noI fun _ _ _ _ => by simp only [wpI]⟩
  | neg a ha => exact ⟨snd_neg ha.1, noL fun _ _ _ _ => by simp only [wpL], noM fun _ _ _ _ => by simp only [wpM], noO fun _ _ _ _ => by simp only [wpO], noI fun _ _ _ _ => by simp only [wpI]⟩
  | nt a ha => exact ⟨snd_nt ha.1, noL fun _ _ _ _ => by simp only [wpL], noM fun _ _ _ _ => by simp only [wpM], noO fun _ _ _ _ => by simp only [wpO], noI fun _ _ _ _ => by simp only [wpI]⟩
  | cmp o a b ha hb => exact ⟨snd_cmp ha.1 hb.1, noL fun _ _ _ _ => by simp only [wpL], noM fun _ _ _ _ => by simp only [wpM], noO fun _ _ _ _ => by simp only [wpO], noI fun _ _ _ _ => by simp only [wpI]⟩
  | isN a ha => exact ⟨snd_isN ha.1, noL fun _ _ _ _ => by simp only [wpL], noM fun _ _ _ _ => by simp only [wpM], noO fun _ _ _ _ => by simp only [wpO], noI fun _ _ _ _ => by simp only [wpI]⟩
  | nsN a ha => exact ⟨snd_nsN ha.1, noL fun _ _ _ _ => by simp only [wpL], noM fun _ _ _ _ => by simp only [wpM], noO fun _ _ _ _ => by simp only [wpO], noI fun _ _ _ _ => by simp only [wpI]⟩
  | chn o q a b c ha hb hc => exact ⟨snd_chn ha.1 hb.1 hc.1, noL fun _ _ _ _ => by simp only [wpL], noM fun _ _ _ _ => by simp only [wpM], noO fun _ _ _ _ => by simp only [wpO], noI fun _ _ _ _ => by simp only [wpI]⟩
  | and a b ha hb => exact ⟨snd_and ha.1 hb.1, noL fun _ _ _ _ => by simp only [wpL], noM fun _ _ _ _ => by simp only [wpM], noO fun _ _ _ _ => by simp only [wpO], noI fun _ _ _ _ => by simp only [wpI]⟩
  | or a b ha hb => exact ⟨snd_or ha.1 hb.1, noL fun _ _ _ _ => by simp only [wpL], noM fun _ _ _ _ => by simp only [wpM], noO fun _ _ _ _ => by simp only [wpO], noI fun _ _ _ _ => by simp only [wpI]⟩
  | ife c a b hc ha hb => exact ⟨snd_ife hc.1 ha.1 hb.1, noL fun _ _ _ _ => by simp only [wpL], noM fun _ _ _ _ => by simp only [wpM], noO fun _ _ _ _ => by simp only [wpO], noI fun _ _ _ _ => by simp only [wpI]⟩
  | cal f es h => exact ⟨snd_cal h.2.1, noL fun _ _ _ _ => by simp only [wpL], noM fun _ _ _ _ => by simp only [wpM], noO fun _ _ _ _ => by simp only [wpO], noI fun _ _ _ _ => by simp only [wpI]⟩
  | bi f es h => exact ⟨snd_bi h.2.2.1, noL fun _ _ _ _ => by simp only [wpL], noM fun _ _ _ _ => by simp only [wpM], noO fun _ _ _ _ => by simp only [wpO], noI fun _ _ _ _ => by simp only [wpI]⟩
  | isi ts a ha => exact ⟨snd_isi ha.1, noL fun _ _ _ _ => by simp only [wpL], noM fun _ _ _ _ => by simp only [wpM], noO fun _ _ _ _ => by simp only [wpO], noI fun _ _ _ _ => by simp only [wpI]⟩
  | mth m o es ho h => exact ⟨snd_mth ho.1 h.2.1 h.2.2.1, noL fun _ _ _ _ => by simp only [wpL], noM fun _ _ _ _ => by simp only [wpM], noO fun _ _ _ _ => by simp only [wpO], noI fun _ _ _ _ => by simp only [wpI]⟩
  | ix a b ha hb => exact ⟨snd_ix ha.1 hb.1, noL fun _ _ _ _ => by simp only [wpL], noM fun _ _ _ _ => by simp only [wpM], noO fun _ _ _ _ => by simp only [wpO], noI fun _ _ _ _ => by simp only [wpI]⟩
  | sl a b c ha hb hc => exact ⟨snd_sl ha.1 hb.2.2.2.1 hc.2.2.2.1, noL fun _ _ _ _ => by simp only [wpL], noM fun _ _ _ _ => by simp only [wpM], noO fun _ _ _ _ => by simp only [wpO], noI fun _ _ _ _ => by simp only [wpI]⟩
  | rvs a ha => exact ⟨snd_rvs ha.1, noL fun _ _ _ _ => by simp only [wpL], noM fun _ _ _ _ => by simp only [wpM], noO fun _ _ _ _ => by simp only [wpO], noI fun _ _ _ _ => by simp only [wpI]⟩
  | lc vs e tg it c he ht hi hc => exact ⟨snd_lc he.1 hi.2.2.2.2 hc.1, noL fun _ _ _ _ => by simp only [wpL], noM fun _ _ _ _ => by simp only [wpM], noO fun _ _ _ _ => by simp only [wpO], noI fun _ _ _ _ => by simp only [wpI]⟩
  | dc vs k v tg it c hk hv ht hi hc => exact ⟨noE fun _ _ _ _ => by simp only [wpE], noL fun _ _ _ _ => by simp only [wpL], noM fun _ _ _ _ => by simp only [wpM], noO fun _ _ _ _ => by simp only [wpO], noI fun _ _ _ _ => by simp only [wpI]⟩
  | lrg es h => exact ⟨snd_lrg h.2.1, noL fun _ _ _ _ => by simp only [wpL], noM fun _ _ _ _ => by simp only [wpM], noO fun _ _ _ _ => by simp only [wpO], noI fun _ _ _ _ => by simp only [wpI]⟩
  | rng es h => exact ⟨noE fun _ _ _ _ => by simp only [wpE], noL fun _ _ _ _ => by simp only [wpL], noM fun _ _ _ _ => by simp only [wpM], noO fun _ _ _ _ => by simp only [wpO], snd_irng h.2.1⟩
  | enm es h => exact ⟨noE fun _ _ _ _ => by simp only [wpE], noL fun _ _ _ _ => by simp only [wpL], noM fun _ _ _ _ => by simp only [wpM], noO fun _ _ _ _ => by simp only [wpO], snd_ienm h.2.1⟩
  | zip st es h => exact ⟨noE fun _ _ _ _ => by simp only [wpE], noL fun _ _ _ _ => by simp only [wpL], noM fun _ _ _ _ => by simp only [wpM], noO fun _ _ _ _ => by simp only [wpO], snd_izip h.2.1⟩
end
end RS

/-! V7: statements, defs -/
namespace RS
open PySem
/-- statements, with words that forget names -/
inductive CV where
  | nil | cons (a b : CV) | asg (tg e : E) | aug (i : Nat) (o : Bop) (e : E) | exp (e : E) | ret (e : E) | retN | pas
  | ife (c : E) (a b : CV) | for_ (tg it : E) (b : CV) | whl (c : E) (b : CV) | brk | cnt | wip (vs : List Nat)
deriving Inhabited
def isWip : CV → Bool
  | .wip _ => true
  | _ => false
def erC : CV → C
  | .nil => .nil
  | .cons a b => if isWip a = true then erC b else .cons (erC a) (erC b)
  | .asg tg e => .asg tg e
  | .aug i o e => .aug i o e
  | .exp e => .exp e
  | .ret e => .ret e
  | .retN => .retN
  | .pas => .pas
  | .ife c a b => .ife c (erC a) (erC b)
  | .for_ tg it b => .for_ tg it (erC b)
  | .whl c b => .whl c (erC b)
  | .brk => .brk
  | .cnt => .cnt
  | .wip _ => .pas
inductive FlU where
  | nx (σ : Env) | rt (u : U) (fr : Bool) | bk (σ : Env) | ct (σ : Env)
abbrev QT := FlU → Nat → Prop
def nxU (K : Env → Nat → Prop) (Q : QT) : QT := fun f k => match f with
  | .nx σ => K σ k
  | f => Q f k
def rtU (Q : U → Bool → Nat → Prop) : QT := fun f k => match f with
  | .nx _ => Q .non false k
  | .rt u fr => Q u fr k
  | _ => False
def forU (turn : U → Env → Nat → QT → Prop) : List U → Env → Nat → QT → Prop
  | [], σ, k, Q => Q (.nx σ) k
  | u :: us, σ, k, Q => turn u σ k fun f k1 => match f with
    | .nx σ1 => forU turn us σ1 k1 Q
    | .ct σ1 => forU turn us σ1 k1 Q
    | .bk σ1 => Q (.nx σ1) k1
    | .rt u fr => Q (.rt u fr) k1
def whlU (cond : Env → Nat → (U → Env → Nat → Prop) → Prop) (turn : Env → Nat → QT → Prop) : Nat → Env → Nat → QT → Prop
  | 0, _, _, _ => False
  | n + 1, σ, k, Q => cond σ k fun u σ1 k1 => tstU u (turn σ1 k1 fun f k2 => match f with
      | .nx σ2 => whlU cond turn n σ2 k2 Q
      | .ct σ2 => whlU cond turn n σ2 k2 Q
      | .bk σ2 => Q (.nx σ2) k2
      | .rt u fr => Q (.rt u fr) k2) (Q (.nx σ1) k1)
def setsU : E → List (U × Bool) → Env → Option Env
  | .nil, [], σ => some σ
  | .cons (.var i) b, (u, fr) :: us, σ => if i < σ.length then setsU b us (σ.set i (some (u, fr))) else none
  | _, _, _ => none
section
variable (Ψ : PsiT) (G : Nat → U) (W : Nat)
def asgW (tg e : E) (X : ExT) (σ : Env) (k : Nat) (Q : QT) : Prop := match tg, e with
  | .tup ts, .tup es => wpL Ψ G es X σ k fun us σ1 k1 => us.length ≤ sizeLine ∧ us.length = cnt ts ∧ got (setsU ts us σ1) fun σ2 => Q (.nx σ2) k1
  | .var i, e => wpE Ψ G e X σ k fun u fr σ1 k1 => i < σ1.length ∧ Q (.nx (σ1.set i (some (u, fr)))) k1
  | .ix (.var i) j, e => wpE Ψ G e X σ k fun u _ σ1 k1 => brw (.var i) (fun _ _ _ => False) σ1 k1 fun _ σ1 k1 => wpE Ψ G j X σ1 k1 fun v _ σ2 k2 => match σ2[i]? with
    | some (some (.lst xs, true)) => got (asIU v) fun z => got (L2.ixN xs.length z) fun n => Q (.nx (σ2.set i (some (.lst (xs.set n u), true)))) k2
    | _ => False
  | tg, e => wpE Ψ G e X σ k fun u _ σ1 k1 => got (bindU tg u σ1) fun σ2 => Q (.nx σ2) k1
def retW (e : E) (X : ExT) (σ : Env) (k : Nat) (Q : QT) : Prop := match e with
  | .var i => match σ[i]? with
    | some (some (u, b)) => Q (.rt u b) k
    | _ => False
  | e => wpE Ψ G e X σ k fun u fr _ k1 => Q (.rt u fr) k1
def wpC : CV → ExT → Env → Nat → QT → Prop
  | .nil, _, σ, k, Q => Q (.nx σ) k
  | .cons a b, X, σ, k, Q => wpC a X σ k (nxU (fun σ1 k1 => wpC b X σ1 k1 Q) Q)
  | .asg tg e, X, σ, k, Q => asgW Ψ G tg e X σ k Q
  | .aug i o e, X, σ, k, Q => got (resU σ (.inr i)) fun x => wpE Ψ G e X σ k fun y _ σ1 k1 => got (augU o x y) fun r => Q (.nx (σ1.set i (some (r, false)))) k1
  | .exp e, X, σ, k, Q => wpE Ψ G e X σ k fun _ _ σ1 k1 => Q (.nx σ1) k1
  | .ret e, X, σ, k, Q => retW Ψ G e X σ k Q
  | .retN, _, _, k, Q => Q (.rt .non false) k
  | .pas, _, σ, k, Q => Q (.nx σ) k
  | .ife c a b, X, σ, k, Q => wpE Ψ G c X σ k fun u _ σ1 k1 => tstU u (wpC a X σ1 k1 Q) (wpC b X σ1 k1 Q)
  | .for_ tg it b, X, σ, k, Q => wpI Ψ G it X σ k fun its σ1 k1 => forU (fun u σ' k' K => got (bindU tg u σ') fun σ2 => wpC b X σ2 k' K) its σ1 k1 Q
  | .whl c b, X, σ, k, Q => whlU (fun σ k K => wpE Ψ G c X σ k fun u _ σ1 k1 => K u σ1 k1) (wpC b X) W σ k Q
  | .brk, _, σ, k, Q => Q (.bk σ) k
  | .cnt, _, σ, k, Q => Q (.ct σ) k
  | .wip vs, _, σ, k, Q => Q (.nx (wipeU σ vs)) k
end
/-! ### against the language -/
def RtR (p : Nat) (X : Nat → Prop) (lo : Nat) (S' : Hs) (u : U) (fr : Bool) (d : D) : Prop := match fr with
  | false => Hld S' p (fun n => n = p ∨ X n) u d
  | true => ∃ n, d = .ref n ∧ lo ≤ n ∧ Body S' p (fun m => m = p ∨ X m ∨ m = n) u n
def FlR (p : Nat) (X : Nat → Prop) (lo : Nat) (S : Hs) (ρ : Rho) (σ : Env) (S' : Hs) : Fl → FlU → Prop
  | .nx ρ', .nx σ' => Rel p X lo S' ρ' σ' ∧ Out p S ρ σ S' ρ' σ'
  | .bk ρ', .bk σ' => Rel p X lo S' ρ' σ' ∧ Out p S ρ σ S' ρ' σ'
  | .ct ρ', .ct σ' => Rel p X lo S' ρ' σ' ∧ Out p S ρ σ S' ρ' σ'
  | .rt d, .rt u fr => S.length ≤ S'.length ∧ (∀ n, n < S.length → n ≠ p → ¬ Own ρ σ n → S'[n]? = S[n]?) ∧ RtR p X lo S' u fr d
  | _, _ => False
def PoC (p : Nat) (X : Nat → Prop) (lo : Nat) (S : Hs) (ρ : Rho) (σ : Env) (Q : QT) : Fl → Hs → Prop := fun f S' => ∃ fu k', FlR p X lo S ρ σ S' f fu ∧ Pen S' p k' ∧ Q fu k'
section
variable {Φ : Nat → List D → Hs → R D} {GD : Nat → D} {GU : Nat → U} {W p lo k : Nat} {X : Nat → Prop} {S S' S1 S2 : Hs} {ρ ρ1 : Rho} {σ σ' σ1 σ2 : Env} {Ex : ExT}
theorem FlR.up (o : Out p S ρ σ S1 ρ1 σ1) {f : Fl} {fu : FlU} (h : FlR p X lo S1 ρ1 σ1 S' f fu) : FlR p X lo S ρ σ S' f fu := by
  cases f <;> cases fu <;> first | exact h.elim | exact ⟨h.1, o.trans h.2⟩ | skip
  obtain ⟨h1, h2, h3⟩ := h
  refine ⟨Nat.le_trans o.len h1, fun n hn hp ho => ?_, h3⟩
  rw [h2 n (Nat.lt_of_lt_of_le hn o.len) hp fun q => ?_, o.frm n hn hp ho]
  rcases o.grow n q with q | q
  · exact ho q
  · omega
theorem OkX.upC {r : R Fl} {Q : QT} (o : Out p S ρ σ S1 ρ1 σ1) (h : OkX r (PoC p X lo S1 ρ1 σ1 Q) (ExF p X S1 ρ1 σ1 Ex)) : OkX r (PoC p X lo S ρ σ Q) (ExF p X S ρ σ Ex) :=
  h.imp (fun f S' ⟨fu, k', a, q⟩ => ⟨fu, k', a.up o, q⟩) fun _ _ _ => ExF.up o
/-- the slot takes the value -/
theorem Res.set {i : Nat} {u : U} {fr : Bool} {d : D} {S0 : Hs} (r : Res p X lo S0 S ρ σ u fr d) (hi : i < σ.length) : Rel p X lo S (ρ.set i (some d)) (σ.set i (some (u, fr))) ∧ ∀ n, Own (ρ.set i (some d)) (σ.set i (some (u, fr))) n → Own ρ σ n ∨ S0.length ≤ n := by
  cases fr with
  | false =>
    obtain ⟨a, b⟩ := r.1.setP (i := i) (od := some d) (.inr ⟨u, d, rfl, rfl, r.2⟩)
    exact ⟨a, fun n h => (b.grow n h).elim .inl fun q => .inl (by
      have := Av.lt a (p := p) (X := X) (.inr (.inr h)); omega)⟩
  | true =>
    obtain ⟨n, rfl, r1, b1, g1, g2, g3, g4, g5⟩ := r
    obtain ⟨a, b⟩ := r1.setF b1 g1 g3 g4 g5 hi
    exact ⟨a, fun m h => (b m h).imp id fun q => by rw [q]; exact g2⟩
theorem sets_ok : ∀ (ts : E) (us : List (U × Bool)) (ds : List D) (ys : List Nat) (ρ : Rho) (σ σ' : Env), Rel p (Xs X ys) lo S ρ σ → ResL S p (Av p (Xs X ys) ρ σ) us ds ys → ys.Nodup → (∀ n ∈ ys, lo ≤ n ∧ n ≠ p ∧ ¬ X n ∧ ¬ Own ρ σ n) → setsU ts us σ = some σ' →
    ∃ ρ', denGs Φ GD ts ds ρ S = .ok ρ' S ∧ Rel p X lo S ρ' σ' ∧ ∀ n, Own ρ' σ' n → Own ρ σ n ∨ n ∈ ys
  | .nil, [], ds, ys, ρ, σ, σ', rl, h, nd, hy, e => by
    simp only [setsU] at e
    cases e
    obtain ⟨rfl, rfl⟩ := h
    exact ⟨ρ, by simp only [denGs], rl.less fun n h => .inl h, fun n h => .inl h⟩
  | .cons (.var i) b, (u, fr) :: us, ds, ys, ρ, σ, σ', rl, h, nd, hy, e => by
    simp only [setsU] at e
    split at e
    · rename_i hi
      cases fr with
      | false =>
        obtain ⟨d, r, rfl, h1, h2⟩ := h
        obtain ⟨a1, a2⟩ := rl.setP (i := i) (od := some d) (.inr ⟨u, d, rfl, rfl, h1⟩)
        have own : ∀ n, Own (ρ.set i (some d)) (σ.set i (some (u, false))) n → Own ρ σ n := fun n q => (a2.grow n q).elim id fun z => by
          have := Av.lt a1 (p := p) (X := Xs X ys) (.inr (.inr q)); omega
        obtain ⟨ρ', c1, c2, c3⟩ := sets_ok b us r ys _ _ σ' a1 (h2.mv a2.avm fun _ _ _ e => e) nd (fun n hn => ⟨(hy n hn).1, (hy n hn).2.1, (hy n hn).2.2.1, fun q => (hy n hn).2.2.2 (own n q)⟩) e
        refine ⟨ρ', ?_, c2, fun n q => (c3 n q).imp (own n) id⟩
        simp only [denGs, denG]
        rw [if_pos (by rw [rl.len]; exact hi)]
        exact c1
      | true =>
        obtain ⟨n, r, zs, rfl, rfl, h1, h2⟩ := h
        rw [List.nodup_cons] at nd
        obtain ⟨g1, g2, g3, g4⟩ := hy n (by simp)
        have eqv : ∀ m, Xs X (n :: zs) m ↔ (Xs X zs m ∨ m = n) := fun m => by
          constructor
          · rintro (h | h)
            · exact .inl (.inl h)
            · rcases List.mem_cons.mp h with h | h
              · exact .inr h
              · exact .inl (.inr h)
          · rintro ((h | h) | h)
            · exact .inl h
            · exact .inr (List.mem_cons_of_mem _ h)
            · exact .inr (by rw [h]; exact List.mem_cons_self)
        have ef : Xs X (n :: zs) = fun m => Xs X zs m ∨ m = n := funext fun m => propext (eqv m)
        rw [ef] at rl h1 h2
        have nx : ¬ Xs X zs n := fun z => z.elim g3 nd.1
        obtain ⟨a1, a2⟩ := rl.setF (i := i) (u := u) h1 g1 g2 nx g4 hi
        have mv : ∀ m o, S[m]? = some o → ¬ Av p (fun m => Xs X zs m ∨ m = n) ρ σ m → S[m]? = some o ∧ ¬ Av p (Xs X zs) (ρ.set i (some (.ref n))) (σ.set i (some (u, true))) m := fun m o q a => ⟨q, fun z => by
          rcases z with z | z | z
          · exact a (.inl z)
          · exact a (.inr (.inl (.inl z)))
          · rcases a2 m z with z | z
            · exact a (.inr (.inr z))
            · exact a (.inr (.inl (.inr z)))⟩
        obtain ⟨ρ', c1, c2, c3⟩ := sets_ok b us r zs _ _ σ' a1 (h2.mv mv fun _ _ _ e => e) nd.2 (fun m hm => ⟨(hy m (by simp [hm])).1, (hy m (by simp [hm])).2.1, (hy m (by simp [hm])).2.2.1, fun q => (a2 m q).elim (hy m (by simp [hm])).2.2.2 fun z => nd.1 (z ▸ hm)⟩) e
        refine ⟨ρ', ?_, c2, fun m q => ?_⟩
        · simp only [denGs, denG]
          rw [if_pos (by rw [rl.len]; exact hi)]
          exact c1
        · rcases c3 m q with q | q
          · exact (a2 m q).imp id fun z => by simp [z]
          · exact .inr (by simp [q])
    · cases e
  | .nil, _ :: _, _, _, _, _, _, _, _, _, _, e => by simp [setsU] at e
  | .cons _ _, [], _, _, _, _, _, _, _, _, _, e => by simp [setsU] at e
  | .var _, _, _, _, _, _, _, _, _, _, _, e => by simp [setsU] at e
  | .tup _, _, _, _, _, _, _, _, _, _, _, e => by simp [setsU] at e
  | .non, _, _, _, _, _, _, _, _, _, _, e => by simp [setsU] at e
  | .bl _, _, _, _, _, _, _, _, _, _, _, e => by simp [setsU] at e
  | .int _, _, _, _, _, _, _, _, _, _, _, e => by simp [setsU] at e
  | .str _, _, _, _, _, _, _, _, _, _, _, e => by simp [setsU] at e
  | .glb _, _, _, _, _, _, _, _, _, _, _, e => by simp [setsU] at e
  | .lst _, _, _, _, _, _, _, _, _, _, _, e => by simp [setsU] at e
  | .dic _, _, _, _, _, _, _, _, _, _, _, e => by simp [setsU] at e
  | .bin _ _ _, _, _, _, _, _, _, _, _, _, _, e => by simp [setsU] at e
  | .neg _, _, _, _, _, _, _, _, _, _, _, e => by simp [setsU] at e
  | .nt _, _, _, _, _, _, _, _, _, _, _, e => by simp [setsU] at e
  | .cmp _ _ _, _, _, _, _, _, _, _, _, _, _, e => by simp [setsU] at e
  | .isN _, _, _, _, _, _, _, _, _, _, _, e => by simp [setsU] at e
  | .nsN _, _, _, _, _, _, _, _, _, _, _, e => by simp [setsU] at e
  | .chn _ _ _ _ _, _, _, _, _, _, _, _, _, _, _, e => by simp [setsU] at e
  | .and _ _, _, _, _, _, _, _, _, _, _, _, e => by simp [setsU] at e
  | .or _ _, _, _, _, _, _, _, _, _, _, _, e => by simp [setsU] at e
  | .ife _ _ _, _, _, _, _, _, _, _, _, _, _, e => by simp [setsU] at e
  | .cal _ _, _, _, _, _, _, _, _, _, _, _, e => by simp [setsU] at e
  | .bi _ _, _, _, _, _, _, _, _, _, _, _, e => by simp [setsU] at e
  | .isi _ _, _, _, _, _, _, _, _, _, _, _, e => by simp [setsU] at e
  | .mth _ _ _, _, _, _, _, _, _, _, _, _, _, e => by simp [setsU] at e
  | .ix _ _, _, _, _, _, _, _, _, _, _, _, e => by simp [setsU] at e
  | .sl _ _ _, _, _, _, _, _, _, _, _, _, _, e => by simp [setsU] at e
  | .rvs _, _, _, _, _, _, _, _, _, _, _, e => by simp [setsU] at e
  | .lc _ _ _ _ _, _, _, _, _, _, _, _, _, _, _, e => by simp [setsU] at e
  | .dc _ _ _ _ _ _, _, _, _, _, _, _, _, _, _, _, e => by simp [setsU] at e
  | .lrg _, _, _, _, _, _, _, _, _, _, _, e => by simp [setsU] at e
  | .rng _, _, _, _, _, _, _, _, _, _, _, e => by simp [setsU] at e
  | .enm _, _, _, _, _, _, _, _, _, _, _, e => by simp [setsU] at e
  | .zip _ _, _, _, _, _, _, _, _, _, _, _, e => by simp [setsU] at e
theorem asg_ok (hE : ∀ e, SndE Φ GD GU p e ∧ SndL Φ GD GU p e ∧ SndM Φ GD GU p e ∧ SndO Φ GD GU p e ∧ SndI Φ GD GU p e) {tg e : E} {Q : QT} (rl : Rel p X lo S ρ σ) (hp : Pen S p k) (w : asgW (CallOk Φ p) GU tg e Ex σ k Q) : OkX (exec Φ GD W (.asg tg e) ρ S) (PoC p X lo S ρ σ Q) (ExF p X S ρ σ Ex) := by
  simp only [exec]
  have gen : (wpE (CallOk Φ p) GU e Ex σ k fun u _ σ1 k1 => got (bindU tg u σ1) fun σ2 => Q (.nx σ2) k1) → OkX ((den Φ GD e ρ S).bind fun d S1 => (denG Φ GD tg d ρ S1).bind fun ρ1 S2 => .ok (.nx ρ1) S2) (PoC p X lo S ρ σ Q) (ExF p X S ρ σ Ex) := by
    intro w
    refine ((hE e).1 X lo S ρ σ k _ Ex rl hp w).bind fun d S1 ⟨u, fr, σ1, k1, o1, hp1, r1, w⟩ => ?_
    obtain ⟨σ2, e2, w⟩ := w.out
    obtain ⟨ρ', a1, a2, a3, _⟩ := bind_ok (Φ := Φ) (GD := GD) tg r1.rel r1.plain.2 e2
    rw [a1]
    exact ⟨.nx σ2, k1, ⟨a2, o1.trans a3⟩, hp1, w⟩
  unfold asgW at w
  split at w
  · rename_i ts es
    simp only [den]
    refine OkX.bind (Q1 := fun d S' => ∃ ds, d = .tup ds ∧ PoL p X lo S ρ σ (fun us σ1 k1 => us.length ≤ sizeLine ∧ us.length = cnt ts ∧ got (setsU ts us σ1) fun σ2 => Q (.nx σ2) k1) ds S') (((hE es).2.1 X lo S ρ σ k _ Ex rl hp w).bind fun ds S1 po => ?_) fun d S1 h => ?_
    · have hl : ds.length ≤ sizeLine := by
        obtain ⟨us, σ1, k1, _, _, _, r, h, _⟩ := po.plain
        rw [← r.len, List.length_map]; exact h
      unfold lim
      rw [if_pos hl]
      exact ⟨ds, rfl, po⟩
    · obtain ⟨ds, rfl, po⟩ := h
      have hl : ∀ us : List (U × Bool), us.length = cnt ts → Hlds S1 p (fun _ => False) (us.map Prod.fst) ds → ds.length = cnt ts := fun us h r => by rw [← h, ← r.len, List.length_map]
      have po2 := po
      obtain ⟨us, ys, σ1, k1, o1, hp1, rl1, r1, nd, hy, h1, h2, w⟩ := po
      obtain ⟨σ2, e2, w⟩ := w.out
      have hlen : ds.length = cnt ts := by
        rw [← h2]
        clear e2 w h1 h2 po2 hl
        have : ∀ {us : List (U × Bool)} {ds : List D} {ys : List Nat} {av : Nat → Prop}, ResL S1 p av us ds ys → ds.length = us.length := by
          intro us
          induction us with
          | nil => intro ds ys av h; obtain ⟨rfl, _⟩ := h; rfl
          | cons x us ih =>
            intro ds ys av h
            obtain ⟨u, fr⟩ := x
            cases fr with
            | false => obtain ⟨d, r, rfl, _, h2⟩ := h; simp [ih h2]
            | true => obtain ⟨n, r, zs, rfl, _, _, h2⟩ := h; simp [ih h2]
        exact this r1
      obtain ⟨ρ', a1, a2, a3⟩ := sets_ok (Φ := Φ) (GD := GD) ts us ds ys ρ σ1 σ2 rl1 r1 nd (fun n hn => ⟨(hy n hn).1, (hy n hn).2.2.1, (hy n hn).2.2.2.1, (hy n hn).2.2.2.2⟩) e2
      simp only [denG]
      rw [if_pos hlen, a1]
      refine ⟨.nx σ2, k1, ⟨a2, o1.len, o1.frm, fun n q => ?_⟩, hp1, w⟩
      rcases a3 n q with q | q
      · exact o1.grow n q
      · exact .inr (hy n q).2.1
  · rename_i i
    refine ((hE e).1 X lo S ρ σ k _ Ex rl hp w).bind fun d S1 ⟨u, fr, σ1, k1, o1, hp1, r1, hi, w⟩ => ?_
    obtain ⟨a, b⟩ := r1.set hi
    simp only [denG]
    rw [if_pos (by rw [r1.rel.len]; exact hi)]
    refine ⟨.nx _, k1, ⟨a, o1.len, o1.frm, fun n q => ?_⟩, hp1, w⟩
    rcases b n q with q | q
    · exact o1.grow n q
    · exact .inr q
  · rename_i i j
    refine ((hE e).1 X lo S ρ σ k _ Ex rl hp w).bind fun d S1 ⟨u, fr, σ1, k1, o1, hp1, r1, w⟩ => ?_
    have h1 := r1.plain.2
    have rl1 := r1.rel
    simp only [denG, den]
    unfold brw at w
    simp only at w
    split at w
    · rename_i v q
      obtain ⟨n, g1, g2⟩ := rl1.ow i _ q
      simp only [g1, R.bind_ok]
      rw [R.bind_assoc]
      refine (((hE j).1 X lo S1 ρ σ1 k1 _ Ex rl1 hp1 w).imp (fun _ _ h => h) fun _ _ _ => ExF.up o1).bind fun d2 S2 ⟨u2, fr2, σ2, k2, o2, hp2, r2, w⟩ => ?_
      dsimp only at w
      split at w
      · rename_i xs q2
        obtain ⟨z, ez, w2⟩ := w.out
        obtain ⟨m, em, w3⟩ := w2.out
        have h2 := r2.plain.2
        cases u2 <;> simp only [asIU] at ez <;> try cases ez
        rw [Hld_int] at h2
        subst h2
        obtain ⟨n', f1, es', f2, f3⟩ := r2.rel.ow i _ q2
        rw [g1] at f1; cases f1
        have hs := f3.set (o2.hld h1) m
        obtain ⟨c1, c2⟩ := r2.rel.change (o := .lst (es'.set m d)) (v := .lst (xs.set m u)) q2 g1 hs
        simp only [setIx, lstAt_of f2]
        rw [← f3.len, em]
        refine ⟨.nx _, k2, ⟨c1, (o1.trans o2).trans c2⟩, hp2.lo fun a ha => ?_, w3⟩
        have := (r2.rel.out i n ⟨_, q2, g1⟩).1
        have := r2.rel.plo
        rw [List.getElem?_set_ne (show n ≠ a by omega)]
      · exact w.elim
    · rename_i v q
      obtain ⟨d3, g1, g2⟩ := rl1.pl i _ q
      simp only [g1, R.bind_ok]
      rw [R.bind_assoc]
      refine (((hE j).1 X lo S1 ρ σ1 k1 _ Ex rl1 hp1 w).imp (fun _ _ h => h) fun _ _ _ => ExF.up o1).bind fun d2 S2 ⟨u2, fr2, σ2, k2, o2, hp2, r2, w⟩ => ?_
      dsimp only at w
      split at w
      · rename_i xs q2
        obtain ⟨z, ez, w2⟩ := w.out
        obtain ⟨m, em, w3⟩ := w2.out
        have h2 := r2.plain.2
        cases u2 <;> simp only [asIU] at ez <;> try cases ez
        rw [Hld_int] at h2
        subst h2
        obtain ⟨n', f1, es', f2, f3⟩ := r2.rel.ow i _ q2
        rw [g1] at f1; cases f1
        have hs := f3.set (o2.hld h1) m
        obtain ⟨c1, c2⟩ := r2.rel.change (o := .lst (es'.set m d)) (v := .lst (xs.set m u)) q2 g1 hs
        simp only [setIx, lstAt_of f2]
        rw [← f3.len, em]
        refine ⟨.nx _, k2, ⟨c1, (o1.trans o2).trans c2⟩, hp2.lo fun a ha => ?_, w3⟩
        have := (r2.rel.out i _ ⟨_, q2, g1⟩).1
        have := r2.rel.plo
        rw [List.getElem?_set_ne (show _ ≠ a by omega)]
      · exact w.elim
    · exact w.elim
  · exact gen w
theorem for_ok {turn : D → Rho → Hs → R Fl} {turnU : U → Env → Nat → QT → Prop} {gs : List (Nat × List D)}
    (ht : ∀ (u : U) (d : D) (S : Hs) (ρ : Rho) (σ : Env) (k : Nat) (K : QT), Rel p X lo S ρ σ → Pen S p k → Hld S p (Av p X ρ σ) u d → turnU u σ k K → OkX (turn d ρ S) (PoC p X lo S ρ σ K) (ExF p X S ρ σ Ex)) :
    ∀ (us : List U) (ds : List D) (S : Hs) (ρ : Rho) (σ : Env) (k : Nat) (Q : QT), Rel p X lo S ρ σ → Pen S p k → Hlds S p (Av p X ρ σ) us ds → (∀ g ∈ gs, ¬ Av p X ρ σ g.1 ∧ S[g.1]? = some (.lst g.2)) → forU turnU us σ k Q →
      OkX (forGo gs turn ds ρ S) (PoC p X lo S ρ σ Q) (ExF p X S ρ σ Ex)
  | [], ds, S, ρ, σ, k, Q, rl, hp, h, hg, w => by
    rw [Hlds_nil] at h
    subst h
    have hd : held S gs = true := (show SrcR S p _ [] ⟨gs, []⟩ from ⟨Hlds_nil.mpr rfl, hg⟩).held
    rw [forGo, if_pos hd]
    exact ⟨.nx σ, k, ⟨rl, .refl⟩, hp, w⟩
  | u :: us, ds, S, ρ, σ, k, Q, rl, hp, h, hg, w => by
    rw [Hlds_cons] at h
    obtain ⟨d, ds, rfl, h1, h2⟩ := h
    have hd : held S gs = true := (show SrcR S p _ [] ⟨gs, []⟩ from ⟨Hlds_nil.mpr rfl, hg⟩).held
    rw [forGo, if_pos hd]
    refine (ht u d S ρ σ k _ rl hp h1 w).bind fun f S1 ⟨fu, k1, r1, hp1, w⟩ => ?_
    have more : ∀ (ρ1 : Rho) (σ1 : Env), Rel p X lo S1 ρ1 σ1 → Out p S ρ σ S1 ρ1 σ1 → forU turnU us σ1 k1 Q → OkX (forGo gs turn ds ρ1 S1) (PoC p X lo S ρ σ Q) (ExF p X S ρ σ Ex) := fun ρ1 σ1 a o w =>
      OkX.upC o (for_ok ht us ds S1 ρ1 σ1 k1 Q a hp1 (o.hlds h2) (fun g hg' => by
        obtain ⟨b, c⟩ := hg g hg'
        exact ⟨(o.avm _ _ c b).2, (o.avm _ _ c b).1⟩) w)
    cases f <;> cases fu <;> first | exact r1.elim | skip
    · exact more _ _ r1.1 r1.2 w
    · exact ⟨_, k1, r1, hp1, w⟩
    · exact ⟨.nx _, k1, r1, hp1, w⟩
    · exact more _ _ r1.1 r1.2 w
theorem whl_ok {cond : Rho → Hs → R D} {turn : Rho → Hs → R Fl} {condU : Env → Nat → (U → Env → Nat → Prop) → Prop} {turnU : Env → Nat → QT → Prop}
    (hc : ∀ (S : Hs) (ρ : Rho) (σ : Env) (k : Nat) (K : U → Env → Nat → Prop), Rel p X lo S ρ σ → Pen S p k → condU σ k K → OkX (cond ρ S) (PoE p X lo S ρ σ fun u _ σ1 k1 => K u σ1 k1) (ExF p X S ρ σ Ex))
    (ht : ∀ (S : Hs) (ρ : Rho) (σ : Env) (k : Nat) (K : QT), Rel p X lo S ρ σ → Pen S p k → turnU σ k K → OkX (turn ρ S) (PoC p X lo S ρ σ K) (ExF p X S ρ σ Ex)) :
    ∀ (n : Nat) (S : Hs) (ρ : Rho) (σ : Env) (k : Nat) (Q : QT), Rel p X lo S ρ σ → Pen S p k → whlU condU turnU n σ k Q → OkX (whlGo cond turn n ρ S) (PoC p X lo S ρ σ Q) (ExF p X S ρ σ Ex)
  | 0, S, ρ, σ, k, Q, rl, hp, w => w.elim
  | n + 1, S, ρ, σ, k, Q, rl, hp, w => by
    rw [whlGo]
    refine (hc S ρ σ k _ rl hp w).bind fun d S1 ⟨u, fr, σ1, k1, o1, hp1, r1, w⟩ => ?_
    obtain ⟨b, rfl, w⟩ := w.out
    have hb := r1.plain.2
    rw [Hld_bl] at hb
    subst hb
    cases b with
    | false => exact ⟨.nx σ1, k1, ⟨r1.rel, o1⟩, hp1, w⟩
    | true =>
      show OkX (R.bind _ _) _ _
      refine ((ht S1 ρ σ1 k1 _ r1.rel hp1 w).imp (fun _ _ h => h) fun _ _ _ => ExF.up o1).bind fun f S2 ⟨fu, k2, r2, hp2, w⟩ => ?_
      have more : ∀ (ρ2 : Rho) (σ2 : Env), Rel p X lo S2 ρ2 σ2 → Out p S1 ρ σ1 S2 ρ2 σ2 → whlU condU turnU n σ2 k2 Q → OkX (whlGo cond turn n ρ2 S2) (PoC p X lo S ρ σ Q) (ExF p X S ρ σ Ex) := fun ρ2 σ2 a o w =>
        OkX.upC (o1.trans o) (whl_ok hc ht n S2 ρ2 σ2 k2 Q a hp2 w)
      cases f <;> cases fu <;> first | exact r2.elim | skip
      · exact more _ _ r2.1 r2.2 w
      · exact ⟨_, k2, r2.up o1, hp2, w⟩
      · exact ⟨.nx _, k2, ⟨r2.1, o1.trans r2.2⟩, hp2, w⟩
      · exact more _ _ r2.1 r2.2 w
/-- forgetting names is nothing -/
theorem Rel.forget (rl : Rel p X lo S ρ σ) : ∀ {vs : List Nat}, Rel p X lo S ρ (wipeU σ vs) ∧ Out p S ρ σ S ρ (wipeU σ vs) := by
  intro vs
  induction vs with
  | nil => exact ⟨rl, .refl⟩
  | cons v vs ih =>
    obtain ⟨a1, a2⟩ := ih
    cases q : ρ[v]? with
    | none =>
      have : (wipeU σ vs).set v none = wipeU σ vs := List.set_eq_of_length_le (by rw [← a1.len]; exact List.getElem?_eq_none_iff.mp q)
      simp only [wipeU, this]
      exact ⟨a1, a2⟩
    | some od =>
      obtain ⟨b1, b2⟩ := a1.setP (i := v) (s := none) (od := od) (.inl rfl)
      have e : ρ.set v od = ρ := List.ext_getElem? fun j => by
        by_cases hj : v = j
        · subst hj; rw [List.getElem?_set_self (ltg q), q]
        · rw [List.getElem?_set_ne hj]
      rw [e] at b1 b2
      exact ⟨b1, a2.trans b2⟩
theorem snd_C (hE : ∀ e, SndE Φ GD GU p e ∧ SndL Φ GD GU p e ∧ SndM Φ GD GU p e ∧ SndO Φ GD GU p e ∧ SndI Φ GD GU p e) : ∀ (c : CV) (S : Hs) (ρ : Rho) (σ : Env) (k : Nat) (Q : QT), Rel p X lo S ρ σ → Pen S p k → wpC (CallOk Φ p) GU W c Ex σ k Q → OkX (exec Φ GD W (erC c) ρ S) (PoC p X lo S ρ σ Q) (ExF p X S ρ σ Ex) := by
  intro c
  induction c with
  | nil => intro S ρ σ k Q rl hp w; exact ⟨.nx σ, k, ⟨rl, .refl⟩, hp, w⟩
  | cons a b iha ihb =>
    intro S ρ σ k Q rl hp w
    simp only [wpC] at w
    simp only [erC]
    split
    · rename_i h
      cases a <;> first | exact Bool.noConfusion h | skip
      rename_i vs
      simp only [wpC, nxU] at w
      have hw := rl.forget (vs := vs)
      exact OkX.upC hw.2 (ihb S ρ _ k Q hw.1 hp w)
    · simp only [exec]
      refine (iha S ρ σ k _ rl hp w).bind fun f S1 ⟨fu, k1, r1, hp1, w⟩ => ?_
      cases f <;> cases fu <;> first | exact r1.elim | skip
      · exact OkX.upC r1.2 (ihb S1 _ _ k1 Q r1.1 hp1 w)
      · exact ⟨_, k1, r1, hp1, w⟩
      · exact ⟨_, k1, r1, hp1, w⟩
      · exact ⟨_, k1, r1, hp1, w⟩
  | asg tg e => intro S ρ σ k Q rl hp w; exact asg_ok hE rl hp w
  | aug i o e =>
    intro S ρ σ k Q rl hp w
    simp only [wpC] at w
    obtain ⟨x, ex, w⟩ := w.out
    simp only [erC, exec]
    have hx : ∃ d, ρ[i]? = some (some d) ∧ OpdR p X S ρ σ (.inr i) d := by
      simp only [resU] at ex
      split at ex
      · rename_i v b q
        cases b with
        | false => obtain ⟨d, h1, h2⟩ := rl.pl i _ q; exact ⟨d, h1, h1⟩
        | true => obtain ⟨n, h1, h2⟩ := rl.ow i _ q; exact ⟨_, h1, h1⟩
      · cases ex
    obtain ⟨d, h1, h2⟩ := hx
    have hop := h2.res rl ex
    simp only [h1]
    refine ((hE e).1 X lo S ρ σ k _ Ex rl hp w).bind fun d2 S1 ⟨u, fr, σ1, k1, o1, hp1, r1, w⟩ => ?_
    obtain ⟨r, er, w2⟩ := w.out
    have hint : ∃ z, x = .int z := by
      unfold augU at er
      split at er
      · exact ⟨_, rfl⟩
      · exact ⟨_, rfl⟩
      · cases er
    obtain ⟨z, rfl⟩ := hint
    have hd := hop.int
    subst hd
    obtain ⟨d3, e1, e2⟩ := augU_hld (S := S1) (p := p) (av := Av p X ρ σ1) (x := .int z) (.inl (Hld_int.mpr rfl)) (.inl r1.plain.2) er
    rw [e1]
    obtain ⟨a1, a2⟩ := r1.rel.setP (i := i) (od := some d3) (.inr ⟨r, d3, rfl, rfl, e2⟩)
    exact ⟨.nx _, k1, ⟨a1, o1.trans a2⟩, hp1, w2⟩
  | exp e =>
    intro S ρ σ k Q rl hp w
    simp only [wpC] at w
    simp only [erC, exec]
    refine ((hE e).1 X lo S ρ σ k _ Ex rl hp w).bind fun d2 S1 ⟨u, fr, σ1, k1, o1, hp1, r1, w⟩ => ?_
    exact ⟨.nx σ1, k1, ⟨r1.rel, o1⟩, hp1, w⟩
  | ret e =>
    intro S ρ σ k Q rl hp w
    simp only [wpC, retW] at w
    simp only [erC, exec]
    split at w
    · rename_i i
      split at w
      · rename_i u b q
        cases b with
        | false =>
          obtain ⟨d, h1, h2⟩ := rl.pl i _ q
          simp only [den, h1, R.bind_ok]
          exact ⟨.rt u false, k, ⟨Nat.le_refl _, fun _ _ _ _ => rfl, h2.mv fun n o e a => ⟨e, fun z => a (z.elim .inl fun z => .inr (.inl z))⟩⟩, hp, w⟩
        | true =>
          obtain ⟨n, h1, h2⟩ := rl.ow i _ q
          have ow : owns ρ σ i n := ⟨_, q, h1⟩
          simp only [den, h1, R.bind_ok]
          refine ⟨.rt u true, k, ⟨Nat.le_refl _, fun _ _ _ _ => rfl, n, rfl, (rl.out i n ow).1, h2.mv (fun m o e a => ⟨e, fun z => a ?_⟩) fun _ e => e⟩, hp, w⟩
          rcases z with z | z | z
          · exact .inl z
          · exact .inr (.inl z)
          · exact .inr (.inr ⟨i, z ▸ ow⟩)
      · exact w.elim
    · refine ((hE e).1 X lo S ρ σ k _ Ex rl hp w).bind fun d2 S1 ⟨u, fr, σ1, k1, o1, hp1, r1, w⟩ => ?_
      refine ⟨.rt u fr, k1, ⟨o1.len, o1.frm, ?_⟩, hp1, w⟩
      cases fr with
      | false => exact r1.2.mv fun n o e a => ⟨e, fun z => a (z.elim .inl fun z => .inr (.inl z))⟩
      | true =>
        obtain ⟨n, rfl, r1, b1, g1, g2, g3, g4, g5⟩ := r1
        refine ⟨n, rfl, g1, b1.mv (fun m o e a => ⟨e, fun z => a ?_⟩) fun _ e => e⟩
        rcases z with z | z | z
        · exact .inl z
        · exact .inr (.inl (.inl z))
        · exact .inr (.inl (.inr z))
  | retN =>
    intro S ρ σ k Q rl hp w
    simp only [wpC] at w
    exact ⟨.rt .non false, k, ⟨Nat.le_refl _, fun _ _ _ _ => rfl, (show Hld S p (fun n => n = p ∨ X n) .non .non from Hld_non.mpr rfl)⟩, hp, w⟩
  | pas => intro S ρ σ k Q rl hp w; exact ⟨.nx σ, k, ⟨rl, .refl⟩, hp, w⟩
  | ife c a b iha ihb =>
    intro S ρ σ k Q rl hp w
    simp only [wpC] at w
    simp only [erC, exec]
    refine ((hE c).1 X lo S ρ σ k _ Ex rl hp w).bind fun d2 S1 ⟨u, fr, σ1, k1, o1, hp1, r1, w⟩ => ?_
    obtain ⟨b1, rfl, w⟩ := w.out
    have hb := r1.plain.2
    rw [Hld_bl] at hb
    subst hb
    cases b1 with
    | true => exact OkX.upC o1 (iha S1 ρ σ1 k1 Q r1.rel hp1 w)
    | false => exact OkX.upC o1 (ihb S1 ρ σ1 k1 Q r1.rel hp1 w)
  | for_ tg it b ihb =>
    intro S ρ σ k Q rl hp w
    simp only [wpC] at w
    simp only [erC, exec]
    refine ((hE it).2.2.2.2 X lo S ρ σ k _ Ex rl hp w).bind fun src S1 ⟨its, σ1, k1, o1, hp1, rl1, ⟨r1, g1⟩, w⟩ => OkX.upC o1 ?_
    refine for_ok (fun u d S ρ σ k K rl hp h w => ?_) its src.its S1 ρ σ1 k1 Q rl1 hp1 r1 g1 w
    obtain ⟨σ', e1, w⟩ := w.out
    obtain ⟨ρ', a1, a2, a3, _⟩ := bind_ok (Φ := Φ) (GD := GD) tg rl h e1
    rw [a1, R.bind_ok]
    exact OkX.upC a3 (ihb S ρ' σ' k K a2 hp w)
  | whl c b ihb =>
    intro S ρ σ k Q rl hp w
    simp only [wpC] at w
    simp only [erC, exec]
    exact whl_ok (fun S ρ σ k K rl hp w => (hE c).1 X lo S ρ σ k _ Ex rl hp w) (fun S ρ σ k K rl hp w => ihb S ρ σ k K rl hp w) W S ρ σ k Q rl hp w
  | brk => intro S ρ σ k Q rl hp w; exact ⟨.bk σ, k, ⟨rl, .refl⟩, hp, w⟩
  | cnt => intro S ρ σ k Q rl hp w; exact ⟨.ct σ, k, ⟨rl, .refl⟩, hp, w⟩
  | wip vs => intro S ρ σ k Q rl hp w; exact ⟨.nx _, k, rl.forget, hp, w⟩
end
/-- a def, called -/
theorem fn_ok {fs : List Fn} {GD : Nat → D} {GU : Nat → U} {W n i p k np nn : Nat} {b : CV} {us : List U} {Q : U → Bool → Nat → Prop} {Ex : ExT} (hG : ∀ g S av, Hld S p av (GU g) (GD g)) (e : fs[i]? = some ⟨np, nn, erC b⟩) (h : us.length = np)
    (w : wpC (CallOk (run fs GD W n) p) GU W b Ex (us.map (fun u => some (u, false)) ++ List.replicate (nn - us.length) none) k (rtU Q)) : CallOk (run fs GD W (n + 1)) p i us k Q Ex := by
  intro X S ds hX hp hs
  have hl := hs.len
  show OkX (match fs[i]? with | some f => runF (run fs GD W n) GD W f ds S | none => .no) _ _
  rw [e]
  simp only [runF]
  rw [if_pos (by rw [← hl]; exact h)]
  have hpl : p < S.length := by
    obtain ⟨c, cells, at_, val, h1, h2, _⟩ := hp
    exact lt_of_get h2
  have hg : ∀ (i : Nat) (u : U) (f : Bool), (us.map (fun u => (some (u, false) : Slot)) ++ List.replicate (nn - us.length) none)[i]? = some (some (u, f)) → f = false ∧ us[i]? = some u := by
    intro i u f q
    by_cases hi : i < us.length
    · rw [List.getElem?_append_left (by simpa using hi), List.getElem?_map] at q
      cases z : us[i]? with
      | none => rw [z] at q; cases q
      | some v => rw [z] at q; cases q; exact ⟨rfl, rfl⟩
    · rw [List.getElem?_append_right (by simpa using hi), List.getElem?_replicate] at q
      split at q <;> cases q
  have no : ∀ m, ¬ Own (ds.map some ++ List.replicate (nn - ds.length) none) (us.map (fun u => (some (u, false) : Slot)) ++ List.replicate (nn - us.length) none) m := fun m ⟨j, u, q, _⟩ => by
    obtain ⟨z, _⟩ := hg j u true q; cases z
  have rl : Rel p X S.length S (ds.map some ++ List.replicate (nn - ds.length) none) (us.map (fun u => (some (u, false) : Slot)) ++ List.replicate (nn - us.length) none) := by
    refine ⟨by simp [hl], fun j u q => ?_, fun j u q => ?_, fun a b m x => absurd ⟨a, x⟩ (no m), fun a m x => absurd ⟨a, x⟩ (no m), Nat.le_refl _, hpl, hX⟩
    · obtain ⟨_, q⟩ := hg j u false q
      obtain ⟨d, h1, h2⟩ := hs.get q
      refine ⟨d, ?_, h2.mv fun n o e a => ⟨e, fun z => ?_⟩⟩
      · rw [List.getElem?_append_left (by simpa using ltg h1), List.getElem?_map, h1]; rfl
      · rcases z with z | z | z
        · exact a (.inl z)
        · exact a (.inr z)
        · exact no n z
    · obtain ⟨z, _⟩ := hg j u true q; cases z
  refine (snd_C (fun e => snd_all hG e) b S _ _ k _ rl hp w).bind (Q := fun d S' => _) (fun f S' ⟨fu, k', r, hp', q⟩ => ?_) |>.imp (fun _ _ h => h) fun c x S' ⟨h1, h2, h3⟩ => ⟨h1, fun n hn hp => h2 n hn hp (no n), h3⟩
  cases f <;> cases fu <;> first | exact r.elim | exact q.elim | skip
  · exact ⟨.non, false, k', r.2.len, fun n hn hp => r.2.frm n hn hp (no n), hp', Hld_non.mpr rfl, q⟩
  · obtain ⟨h1, h2, h3⟩ := r
    rename_i d u fr
    refine ⟨u, fr, k', h1, fun n hn hp => h2 n hn hp (no n), hp', ?_, q⟩
    cases fr <;> exact h3
end RS

/-! V8: the steps, told as equations; loops by invariants; the pen's defs -/
namespace RS
open PySem
theorem brw_non  {w : Env → Nat → (U → Bool → Env → Nat → Prop) → Prop} {σ : Env} {k : Nat} {Q : Opd → Env → Nat → Prop} : brw (.non) w σ k Q = w σ k fun u _ σ1 k1 => Q (.inl u) σ1 k1 := nrfl
theorem brw_bl {b : Bool} {w : Env → Nat → (U → Bool → Env → Nat → Prop) → Prop} {σ : Env} {k : Nat} {Q : Opd → Env → Nat → Prop} : brw (.bl b) w σ k Q = w σ k fun u _ σ1 k1 => Q (.inl u) σ1 k1 := nrfl
theorem brw_int {i : Int} {w : Env → Nat → (U → Bool → Env → Nat → Prop) → Prop} {σ : Env} {k : Nat} {Q : Opd → Env → Nat → Prop} : brw (.int i) w σ k Q = w σ k fun u _ σ1 k1 => Q (.inl u) σ1 k1 := nrfl
theorem brw_str {x : Str} {w : Env → Nat → (U → Bool → Env → Nat → Prop) → Prop} {σ : Env} {k : Nat} {Q : Opd → Env → Nat → Prop} : brw (.str x) w σ k Q = w σ k fun u _ σ1 k1 => Q (.inl u) σ1 k1 := nrfl
theorem brw_glb {g : Nat} {w : Env → Nat → (U → Bool → Env → Nat → Prop) → Prop} {σ : Env} {k : Nat} {Q : Opd → Env → Nat → Prop} : brw (.glb g) w σ k Q = w σ k fun u _ σ1 k1 => Q (.inl u) σ1 k1 := nrfl
theorem brw_tup {es : E} {w : Env → Nat → (U → Bool → Env → Nat → Prop) → Prop} {σ : Env} {k : Nat} {Q : Opd → Env → Nat → Prop} : brw (.tup es) w σ k Q = w σ k fun u _ σ1 k1 => Q (.inl u) σ1 k1 := nrfl
theorem brw_lst {es : E} {w : Env → Nat → (U → Bool → Env → Nat → Prop) → Prop} {σ : Env} {k : Nat} {Q : Opd → Env → Nat → Prop} : brw (.lst es) w σ k Q = w σ k fun u _ σ1 k1 => Q (.inl u) σ1 k1 := nrfl
theorem brw_dic {es : E} {w : Env → Nat → (U → Bool → Env → Nat → Prop) → Prop} {σ : Env} {k : Nat} {Q : Opd → Env → Nat → Prop} : brw (.dic es) w σ k Q = w σ k fun u _ σ1 k1 => Q (.inl u) σ1 k1 := nrfl
theorem brw_bin {o : Bop} {a : E} {b : E} {w : Env → Nat → (U → Bool → Env → Nat → Prop) → Prop} {σ : Env} {k : Nat} {Q : Opd → Env → Nat → Prop} : brw (.bin o a b) w σ k Q = w σ k fun u _ σ1 k1 => Q (.inl u) σ1 k1 := nrfl
theorem brw_neg {a : E} {w : Env → Nat → (U → Bool → Env → Nat → Prop) → Prop} {σ : Env} {k : Nat} {Q : Opd → Env → Nat → Prop} : brw (.neg a) w σ k Q = w σ k fun u _ σ1 k1 => Q (.inl u) σ1 k1 := nrfl
theorem brw_nt {a : E} {w : Env → Nat → (U → Bool → Env → Nat → Prop) → Prop} {σ : Env} {k : Nat} {Q : Opd → Env → Nat → Prop} : brw (.nt a) w σ k Q = w σ k fun u _ σ1 k1 => Q (.inl u) σ1 k1 := nrfl
theorem brw_cmp {o : Cop} {a : E} {b : E} {w : Env → Nat → (U → Bool → Env → Nat → Prop) → Prop} {σ : Env} {k : Nat} {Q : Opd → Env → Nat → Prop} : brw (.cmp o a b) w σ k Q = w σ k fun u _ σ1 k1 => Q (.inl u) σ1 k1 := nrfl
theorem brw_isN {a : E} {w : Env → Nat → (U → Bool → Env → Nat → Prop) → Prop} {σ : Env} {k : Nat} {Q : Opd → Env → Nat → Prop} : brw (.isN a) w σ k Q = w σ k fun u _ σ1 k1 => Q (.inl u) σ1 k1 := nrfl
theorem brw_nsN {a : E} {w : Env → Nat → (U → Bool → Env → Nat → Prop) → Prop} {σ : Env} {k : Nat} {Q : Opd → Env → Nat → Prop} : brw (.nsN a) w σ k Q = w σ k fun u _ σ1 k1 => Q (.inl u) σ1 k1 := nrfl
theorem brw_chn {o : Cop} {q : Cop} {a : E} {b : E} {c : E} {w : Env → Nat → (U → Bool → Env → Nat → Prop) → Prop} {σ : Env} {k : Nat} {Q : Opd → Env → Nat → Prop} : brw (.chn o q a b c) w σ k Q = w σ k fun u _ σ1 k1 => Q (.inl u) σ1 k1 := nrfl
theorem brw_and {a : E} {b : E} {w : Env → Nat → (U → Bool → Env → Nat → Prop) → Prop} {σ : Env} {k : Nat} {Q : Opd → Env → Nat → Prop} : brw (.and a b) w σ k Q = w σ k fun u _ σ1 k1 => Q (.inl u) σ1 k1 := nrfl
theorem brw_or {a : E} {b : E} {w : Env → Nat → (U → Bool → Env → Nat → Prop) → Prop} {σ : Env} {k : Nat} {Q : Opd → Env → Nat → Prop} : brw (.or a b) w σ k Q = w σ k fun u _ σ1 k1 => Q (.inl u) σ1 k1 := nrfl
theorem brw_ife {c : E} {a : E} {b : E} {w : Env → Nat → (U → Bool → Env → Nat → Prop) → Prop} {σ : Env} {k : Nat} {Q : Opd → Env → Nat → Prop} : brw (.ife c a b) w σ k Q = w σ k fun u _ σ1 k1 => Q (.inl u) σ1 k1 := nrfl
theorem brw_cal {f : Nat} {es : E} {w : Env → Nat → (U → Bool → Env → Nat → Prop) → Prop} {σ : Env} {k : Nat} {Q : Opd → Env → Nat → Prop} : brw (.cal f es) w σ k Q = w σ k fun u _ σ1 k1 => Q (.inl u) σ1 k1 := nrfl
theorem brw_bi {h : Bi} {es : E} {w : Env → Nat → (U → Bool → Env → Nat → Prop) → Prop} {σ : Env} {k : Nat} {Q : Opd → Env → Nat → Prop} : brw (.bi h es) w σ k Q = w σ k fun u _ σ1 k1 => Q (.inl u) σ1 k1 := nrfl
theorem brw_isi {ts : List Ty} {a : E} {w : Env → Nat → (U → Bool → Env → Nat → Prop) → Prop} {σ : Env} {k : Nat} {Q : Opd → Env → Nat → Prop} : brw (.isi ts a) w σ k Q = w σ k fun u _ σ1 k1 => Q (.inl u) σ1 k1 := nrfl
theorem brw_mth {m : Mt} {a : E} {es : E} {w : Env → Nat → (U → Bool → Env → Nat → Prop) → Prop} {σ : Env} {k : Nat} {Q : Opd → Env → Nat → Prop} : brw (.mth m a es) w σ k Q = w σ k fun u _ σ1 k1 => Q (.inl u) σ1 k1 := nrfl
theorem brw_ix {a : E} {b : E} {w : Env → Nat → (U → Bool → Env → Nat → Prop) → Prop} {σ : Env} {k : Nat} {Q : Opd → Env → Nat → Prop} : brw (.ix a b) w σ k Q = w σ k fun u _ σ1 k1 => Q (.inl u) σ1 k1 := nrfl
theorem brw_sl {a : E} {l : E} {u : E} {w : Env → Nat → (U → Bool → Env → Nat → Prop) → Prop} {σ : Env} {k : Nat} {Q : Opd → Env → Nat → Prop} : brw (.sl a l u) w σ k Q = w σ k fun u _ σ1 k1 => Q (.inl u) σ1 k1 := nrfl
theorem brw_rvs {a : E} {w : Env → Nat → (U → Bool → Env → Nat → Prop) → Prop} {σ : Env} {k : Nat} {Q : Opd → Env → Nat → Prop} : brw (.rvs a) w σ k Q = w σ k fun u _ σ1 k1 => Q (.inl u) σ1 k1 := nrfl
theorem brw_lc {vs : List Nat} {e : E} {tg : E} {it : E} {c : E} {w : Env → Nat → (U → Bool → Env → Nat → Prop) → Prop} {σ : Env} {k : Nat} {Q : Opd → Env → Nat → Prop} : brw (.lc vs e tg it c) w σ k Q = w σ k fun u _ σ1 k1 => Q (.inl u) σ1 k1 := nrfl
theorem brw_dc {vs : List Nat} {a : E} {b : E} {tg : E} {it : E} {c : E} {w : Env → Nat → (U → Bool → Env → Nat → Prop) → Prop} {σ : Env} {k : Nat} {Q : Opd → Env → Nat → Prop} : brw (.dc vs a b tg it c) w σ k Q = w σ k fun u _ σ1 k1 => Q (.inl u) σ1 k1 := nrfl
theorem brw_lrg {es : E} {w : Env → Nat → (U → Bool → Env → Nat → Prop) → Prop} {σ : Env} {k : Nat} {Q : Opd → Env → Nat → Prop} : brw (.lrg es) w σ k Q = w σ k fun u _ σ1 k1 => Q (.inl u) σ1 k1 := nrfl
def varW (s : Option Slot) (i : Nat) (σ : Env) (k : Nat) (Q : U → Bool → Env → Nat → Prop) : Prop := match s with
  | some (some (u, true)) => Q u false (σ.set i (some (u, false))) k
  | some (some (u, false)) => Q u false σ k
  | _ => False
def brwV (s : Option Slot) (i : Nat) (σ : Env) (k : Nat) (Q : Opd → Env → Nat → Prop) : Prop := match s with
  | some (some (_, true)) => Q (.inr i) σ k
  | some (some (u, false)) => Q (.inl u) σ k
  | _ => False
def slotU : Option Slot → Option U
  | some (some (u, _)) => some u
  | _ => none
def opt2 : Option U → Option (List U) → Option (List U)
  | some u, some us => some (u :: us)
  | _, _ => none
def retV (s : Option Slot) (k : Nat) (Q : QT) : Prop := match s with
  | some (some (u, b)) => Q (.rt u b) k
  | _ => False
def restV (s : Option Slot) (v : Nat) (σ : Env) : Env := match s with
  | some (some (u, false)) => σ.set v (some (u, false))
  | _ => σ.set v none
def mthV (s : Option Slot) (P : Prop) : Prop := match s with
  | some (some (.lst _, true)) => P
  | _ => False
def mthG (s : Option Slot) (m : Mt) (i : Nat) (as : List U) (σ : Env) (k : Nat) (Q : U → Bool → Env → Nat → Prop) : Prop := match s with
  | some (some (.lst xs, true)) => got (mtU m xs as) fun r => Q r.1 false (σ.set i (some (.lst r.2, true))) k
  | _ => False
def extG (s : Option Slot) (i : Nat) (as : List Opd) (σ : Env) (k : Nat) (Q : U → Bool → Env → Nat → Prop) : Prop := match s with
  | some (some (.lst xs, true)) => got (ressU σ as) fun us => got (mtU .extend xs us) fun r => Q r.1 false (σ.set i (some (.lst r.2, true))) k
  | _ => False
def joinG (s : Str) (us : List U) (Q : U → Prop) : Prop := match us with
  | [y] => got (joinU s y) Q
  | _ => False
def setG (s : Option Slot) (i : Nat) (v u : U) (σ : Env) (k : Nat) (Q : QT) : Prop := match s with
  | some (some (.lst xs, true)) => got (asIU v) fun z => got (L2.ixN xs.length z) fun n => Q (.nx (σ.set i (some (.lst (xs.set n u), true)))) k
  | _ => False
def rvsG (x : U) (Q : U → Prop) : Prop := match x with
  | .lst us => Q (.lst us.reverse)
  | _ => False
def enmG (us : List (U × Bool)) (Q : List U → Prop) : Prop := match us with
  | [u] => got (srcU u.1) fun its => Q (numberedU 0 its)
  | _ => False
section
variable {Ψ : PsiT} {G : Nat → U} {W : Nat} {X : ExT} {σ : Env} {k : Nat}
theorem brw_var {i : Nat} {w : Env → Nat → (U → Bool → Env → Nat → Prop) → Prop} {Q : Opd → Env → Nat → Prop} : brw (.var i) w σ k Q = brwV σ[i]? i σ k Q := nrfl
theorem brwV_o {i : Nat} {u : U} {Q : Opd → Env → Nat → Prop} : brwV (some (some (u, true))) i σ k Q = Q (.inr i) σ k := nrfl
theorem brwV_p {i : Nat} {u : U} {Q : Opd → Env → Nat → Prop} : brwV (some (some (u, false))) i σ k Q = Q (.inl u) σ k := nrfl
theorem varW_o {i : Nat} {u : U} {Q : U → Bool → Env → Nat → Prop} : varW (some (some (u, true))) i σ k Q = Q u false (σ.set i (some (u, false))) k := nrfl
theorem varW_p {i : Nat} {u : U} {Q : U → Bool → Env → Nat → Prop} : varW (some (some (u, false))) i σ k Q = Q u false σ k := nrfl
theorem resU_l {u : U} : resU σ (.inl u) = some u := nrfl
theorem resU_r {i : Nat} : resU σ (.inr i) = slotU σ[i]? := nrfl
theorem slotU_s {u : U} {b : Bool} : slotU (some (some (u, b))) = some u := nrfl
theorem ressU_nil : ressU σ [] = some [] := nrfl
theorem ressU_cons {o : Opd} {os : List Opd} : ressU σ (o :: os) = opt2 (resU σ o) (ressU σ os) := by
  simp only [ressU, mapO]
  cases resU σ o <;> cases mapO (resU σ) os <;> rfl
theorem opt2_s {u : U} {us : List U} : opt2 (some u) (some us) = some (u :: us) := nrfl
section
variable {Q : U → Bool → Env → Nat → Prop}
theorem e_var {i : Nat} : wpE Ψ G (.var i) X σ k Q = varW σ[i]? i σ k Q := by
  simp only [wpE]; unfold varW; rcases σ[i]? with _ | _ | ⟨u, b⟩ <;> first | rfl | (cases b <;> rfl)
theorem e_non : wpE Ψ G .non X σ k Q = Q .non false σ k := by simp only [wpE]
theorem e_bl {b : Bool} : wpE Ψ G (.bl b) X σ k Q = Q (.bl b) false σ k := by simp only [wpE]
theorem e_int {i : Int} : wpE Ψ G (.int i) X σ k Q = Q (.int i) false σ k := by simp only [wpE]
theorem e_str {x : Str} : wpE Ψ G (.str x) X σ k Q = Q (.str x) false σ k := by simp only [wpE]
theorem e_glb {g : Nat} : wpE Ψ G (.glb g) X σ k Q = Q (G g) false σ k := by simp only [wpE]
theorem e_tup {es : E} : wpE Ψ G (.tup es) X σ k Q = wpL Ψ G es X σ k fun us σ1 k1 => us.length ≤ sizeLine ∧ Q (.tup (us.map Prod.fst)) false σ1 k1 := by simp only [wpE]
theorem e_lst {es : E} : wpE Ψ G (.lst es) X σ k Q = wpL Ψ G es X σ k fun us σ1 k1 => us.length ≤ sizeLine ∧ Q (.lst (us.map Prod.fst)) true σ1 k1 := by simp only [wpE]
theorem e_bin {o : Bop} {a b : E} : wpE Ψ G (.bin o a b) X σ k Q = brw a (wpE Ψ G a X) σ k fun x σ1 k1 => brw b (wpE Ψ G b X) σ1 k1 fun y σ2 k2 => got (resU σ2 x) fun x => got (resU σ2 y) fun y => got (binU o x y) fun r => Q r.1 r.2 σ2 k2 := by simp only [wpE]
theorem e_neg {a : E} : wpE Ψ G (.neg a) X σ k Q = wpE Ψ G a X σ k fun u _ σ1 k1 => got (asIU u) fun i => Q (.int (-i)) false σ1 k1 := by simp only [wpE]
theorem e_nt {a : E} : wpE Ψ G (.nt a) X σ k Q = wpE Ψ G a X σ k fun u _ σ1 k1 => got (asBU u) fun b => Q (.bl (!b)) false σ1 k1 := by simp only [wpE]
theorem e_cmp {o : Cop} {a b : E} : wpE Ψ G (.cmp o a b) X σ k Q = brw a (wpE Ψ G a X) σ k fun x σ1 k1 => brw b (wpE Ψ G b X) σ1 k1 fun y σ2 k2 => got (resU σ2 x) fun x => got (resU σ2 y) fun y => got (cmpU o x y) fun r => Q (.bl r) false σ2 k2 := by simp only [wpE]
theorem e_isN {a : E} : wpE Ψ G (.isN a) X σ k Q = brw a (wpE Ψ G a X) σ k fun x σ1 k1 => got (resU σ1 x) fun x => Q (.bl (isNU x)) false σ1 k1 := by simp only [wpE]
theorem e_nsN {a : E} : wpE Ψ G (.nsN a) X σ k Q = brw a (wpE Ψ G a X) σ k fun x σ1 k1 => got (resU σ1 x) fun x => Q (.bl (!isNU x)) false σ1 k1 := by simp only [wpE]
theorem e_chn {o p : Cop} {a b c : E} : wpE Ψ G (.chn o p a b c) X σ k Q = brw a (wpE Ψ G a X) σ k fun x σ1 k1 => brw b (wpE Ψ G b X) σ1 k1 fun y σ2 k2 => got (resU σ2 x) fun x => got (resU σ2 y) fun y1 => got (cmpU o x y1) fun r =>
      if r = true then brw c (wpE Ψ G c X) σ2 k2 fun z σ3 k3 => got (resU σ3 y) fun y2 => got (resU σ3 z) fun z => got (cmpU p y2 z) fun r => Q (.bl r) false σ3 k3 else Q (.bl false) false σ2 k2 := by simp only [wpE]
theorem e_and {a b : E} : wpE Ψ G (.and a b) X σ k Q = wpE Ψ G a X σ k fun x _ σ1 k1 => tstU x (wpE Ψ G b X σ1 k1 Q) (Q (.bl false) false σ1 k1) := by simp only [wpE]
theorem e_or {a b : E} : wpE Ψ G (.or a b) X σ k Q = wpE Ψ G a X σ k fun x _ σ1 k1 => tstU x (Q (.bl true) false σ1 k1) (wpE Ψ G b X σ1 k1 Q) := by simp only [wpE]
theorem e_ife {c a b : E} : wpE Ψ G (.ife c a b) X σ k Q = wpE Ψ G c X σ k fun x _ σ1 k1 => tstU x (wpE Ψ G a X σ1 k1 Q) (wpE Ψ G b X σ1 k1 Q) := by simp only [wpE]
theorem e_cal {f : Nat} {es : E} : wpE Ψ G (.cal f es) X σ k Q = wpL Ψ G es X σ k fun us σ1 k1 => Ψ f (us.map Prod.fst) k1 (fun u fr k2 => Q u fr σ1 k2) X := by simp only [wpE]
theorem e_bi {f : Bi} {es : E} : wpE Ψ G (.bi f es) X σ k Q = wpM Ψ G es X σ k fun as σ1 k1 => got (ressU σ1 as) fun us => got (biU f us) fun r => Q r.1 r.2 σ1 k1 := by simp only [wpE]
theorem e_isi {ts : List Ty} {a : E} : wpE Ψ G (.isi ts a) X σ k Q = brw a (wpE Ψ G a X) σ k fun x σ1 k1 => got (resU σ1 x) fun x => got (tysAreU x ts) fun r => Q (.bl r) false σ1 k1 := by simp only [wpE]
theorem e_ix {a i : E} : wpE Ψ G (.ix a i) X σ k Q = brw a (wpE Ψ G a X) σ k fun x σ1 k1 => brw i (wpE Ψ G i X) σ1 k1 fun y σ2 k2 => got (resU σ2 x) fun x => got (resU σ2 y) fun y => got (ixU x y) fun r => Q r false σ2 k2 := by simp only [wpE]
theorem e_sl {a lo hi : E} : wpE Ψ G (.sl a lo hi) X σ k Q = brw a (wpE Ψ G a X) σ k fun x σ1 k1 => wpO Ψ G lo X σ1 k1 fun l σ2 k2 => wpO Ψ G hi X σ2 k2 fun h σ3 k3 => got (resU σ3 x) fun x => got (slU x l h) fun r => Q r.1 r.2 σ3 k3 := by simp only [wpE]
theorem e_rvs {a : E} : wpE Ψ G (.rvs a) X σ k Q = brw a (wpE Ψ G a X) σ k fun x σ1 k1 => got (resU σ1 x) fun x => rvsG x fun u => Q u true σ1 k1 := by
  simp only [wpE]; rfl
theorem e_lrg {es : E} : wpE Ψ G (.lrg es) X σ k Q = wpL Ψ G es X σ k fun us σ1 k1 => got (lrU (us.map Prod.fst)) fun r => Q r true σ1 k1 := by simp only [wpE]
theorem e_join {o es : E} : wpE Ψ G (.mth .join o es) X σ k Q = wpE Ψ G o X σ k fun x _ σ1 k1 => got (asSU x) fun s => wpM Ψ G es X σ1 k1 fun as σ2 k2 => got (ressU σ2 as) fun us => joinG s us fun r => Q r false σ2 k2 := by
  simp only [wpE, mthW]; rfl
theorem e_app {i : Nat} {es : E} : wpE Ψ G (.mth .append (.var i) es) X σ k Q = mthV σ[i]? (wpL Ψ G es X σ k fun as σ1 k1 => mthG σ1[i]? .append i (as.map Prod.fst) σ1 k1 Q) := by
  simp only [wpE, mthW, lstMt, true_and]; rfl
theorem e_ins {i : Nat} {es : E} : wpE Ψ G (.mth .insert (.var i) es) X σ k Q = mthV σ[i]? (wpL Ψ G es X σ k fun as σ1 k1 => mthG σ1[i]? .insert i (as.map Prod.fst) σ1 k1 Q) := by
  simp only [wpE, mthW, lstMt, true_and]; rfl
theorem e_pop {i : Nat} {es : E} : wpE Ψ G (.mth .pop (.var i) es) X σ k Q = mthV σ[i]? (wpL Ψ G es X σ k fun as σ1 k1 => mthG σ1[i]? .pop i (as.map Prod.fst) σ1 k1 Q) := by
  simp only [wpE, mthW, lstMt, true_and]; rfl
theorem e_ext {i : Nat} {es : E} : wpE Ψ G (.mth .extend (.var i) es) X σ k Q = mthV σ[i]? (wpM Ψ G es X σ k fun as σ1 k1 => extG σ1[i]? i as σ1 k1 Q) := by
  simp only [wpE, mthW]; rfl
theorem e_lc {vs : List Nat} {e tg it c : E} (h1 : onlyNames tg = true) (h2 : (slotsE tg).all (vs.contains ·) = true) : wpE Ψ G (.lc vs e tg it c) X σ k Q = wpI Ψ G it X σ k fun its σ1 k1 =>
      lcU (fun u σ' k' K => got (bindU tg u σ') fun σ2 => wpE Ψ G c X σ2 k' fun b _ σ3 k3 => tstU b (wpE Ψ G e X σ3 k3 fun x _ σ4 k4 => K (some x) σ4 k4) (K none σ3 k3)) vs its σ1 k1 [] fun rs σ2 k2 =>
        its.length ≤ sizeLine ∧ Q (.lst rs) true (restU σ1 vs σ2) k2 := by
  simp only [wpE, h1, h2, and_self, true_and]
end
theorem mthV_o {us : List U} {P : Prop} : mthV (some (some (.lst us, true))) P = P := nrfl
theorem mthG_o {xs : List U} {m : Mt} {i : Nat} {as : List U} {Q : U → Bool → Env → Nat → Prop} : mthG (some (some (.lst xs, true))) m i as σ k Q = got (mtU m xs as) fun r => Q r.1 false (σ.set i (some (.lst r.2, true))) k := nrfl
theorem extG_o {xs : List U} {i : Nat} {as : List Opd} {Q : U → Bool → Env → Nat → Prop} : extG (some (some (.lst xs, true))) i as σ k Q = got (ressU σ as) fun us => got (mtU .extend xs us) fun r => Q r.1 false (σ.set i (some (.lst r.2, true))) k := nrfl
theorem joinG_1 {s : Str} {y : U} {Q : U → Prop} : joinG s [y] Q = got (joinU s y) Q := nrfl
theorem rvsG_l {us : List U} {Q : U → Prop} : rvsG (.lst us) Q = Q (.lst us.reverse) := nrfl
theorem enmG_1 {u : U} {fr : Bool} {Q : List U → Prop} : enmG [(u, fr)] Q = got (srcU u) fun its => Q (numberedU 0 its) := nrfl
theorem ea_nil {Q : List (U × Bool) → Env → Nat → Prop} : wpL Ψ G .nil X σ k Q = Q [] σ k := by simp only [wpL]
theorem ea_cons {a b : E} {Q : List (U × Bool) → Env → Nat → Prop} : wpL Ψ G (.cons a b) X σ k Q = wpE Ψ G a X σ k fun u fr σ1 k1 => wpL Ψ G b X σ1 k1 fun us σ2 k2 => Q ((u, fr) :: us) σ2 k2 := by simp only [wpL]
theorem em_nil {Q : List Opd → Env → Nat → Prop} : wpM Ψ G .nil X σ k Q = Q [] σ k := by simp only [wpM]
theorem em_cons {a b : E} {Q : List Opd → Env → Nat → Prop} : wpM Ψ G (.cons a b) X σ k Q = brw a (wpE Ψ G a X) σ k fun o σ1 k1 => wpM Ψ G b X σ1 k1 fun os σ2 k2 => Q (o :: os) σ2 k2 := by simp only [wpM]
theorem eo_nil {Q : Option Int → Env → Nat → Prop} : wpO Ψ G .nil X σ k Q = Q none σ k := by simp only [wpO]
theorem eo_cons {a b : E} {Q : Option Int → Env → Nat → Prop} : wpO Ψ G (.cons a b) X σ k Q = wpE Ψ G a X σ k fun u _ σ1 k1 => got (asIU u) fun i => Q (some i) σ1 k1 := by simp only [wpO]
theorem ei_rng {es : E} {Q : List U → Env → Nat → Prop} : wpI Ψ G (.rng es) X σ k Q = wpL Ψ G es X σ k fun us σ1 k1 => got (rgU (us.map Prod.fst)) fun its => Q its σ1 k1 := by simp only [wpI]
theorem ei_enm {es : E} {Q : List U → Env → Nat → Prop} : wpI Ψ G (.enm es) X σ k Q = wpL Ψ G es X σ k fun us σ1 k1 => enmG us fun its => Q its σ1 k1 := by
  simp only [wpI]; rfl
theorem ei_zip {st : Bool} {es : E} {Q : List U → Env → Nat → Prop} : wpI Ψ G (.zip st es) X σ k Q = wpL Ψ G es X σ k fun us σ1 k1 => got (zpU st (us.map Prod.fst)) fun its => Q its σ1 k1 := by simp only [wpI]
theorem ei_cons {a b : E} {Q : List U → Env → Nat → Prop} : wpI Ψ G (.cons a b) X σ k Q = wpE Ψ G a X σ k fun u _ σ1 k1 => got (srcU u) fun its => Q its σ1 k1 := by simp only [wpI]
/-! ### statements -/
section
variable {Q : QT}
theorem wc_nil : wpC Ψ G W .nil X σ k Q = Q (.nx σ) k := by simp only [wpC]
theorem wc_cons {a b : CV} : wpC Ψ G W (.cons a b) X σ k Q = wpC Ψ G W a X σ k (nxU (fun σ1 k1 => wpC Ψ G W b X σ1 k1 Q) Q) := by simp only [wpC]
theorem wc_step {a b : CV} (h : ∀ K : Env → Nat → Prop, (∀ σ1 k1, wpC Ψ G W b X σ1 k1 Q → K σ1 k1) → wpC Ψ G W a X σ k (nxU K Q)) : wpC Ψ G W (.cons a b) X σ k Q := by
  rw [wc_cons]; exact h _ fun _ _ h => h
theorem nxU_id : nxU (fun σ1 k1 => Q (.nx σ1) k1) Q = Q := by funext f k; cases f <;> rfl
theorem wc_one {a : CV} : wpC Ψ G W (.cons a .nil) X σ k Q = wpC Ψ G W a X σ k Q := by
  rw [wc_cons]; simp only [wc_nil, nxU_id]
theorem nxU_nx {K : Env → Nat → Prop} : nxU K Q (.nx σ) k = K σ k := nrfl
theorem nxU_rt {K : Env → Nat → Prop} {u : U} {b : Bool} : nxU K Q (.rt u b) k = Q (.rt u b) k := nrfl
theorem nxU_bk {K : Env → Nat → Prop} : nxU K Q (.bk σ) k = Q (.bk σ) k := nrfl
theorem nxU_ct {K : Env → Nat → Prop} : nxU K Q (.ct σ) k = Q (.ct σ) k := nrfl
theorem rtU_nx {Q : U → Bool → Nat → Prop} : rtU Q (.nx σ) k = Q .non false k := nrfl
theorem rtU_rt {Q : U → Bool → Nat → Prop} {u : U} {b : Bool} : rtU Q (.rt u b) k = Q u b k := nrfl
theorem wc_set {i : Nat} {e : E} : wpC Ψ G W (.asg (.var i) e) X σ k Q = wpE Ψ G e X σ k fun u fr σ1 k1 => i < σ1.length ∧ Q (.nx (σ1.set i (some (u, fr)))) k1 := by
  simp only [wpC]; unfold asgW; rfl
theorem wc_tup {ts es : E} : wpC Ψ G W (.asg (.tup ts) (.tup es)) X σ k Q = wpL Ψ G es X σ k fun us σ1 k1 => us.length ≤ sizeLine ∧ us.length = cnt ts ∧ got (setsU ts us σ1) fun σ2 => Q (.nx σ2) k1 := by
  simp only [wpC]; unfold asgW; rfl
def notTup : E → Bool
  | .tup _ => false
  | _ => true
theorem wc_unp {ts e : E} (h : notTup e = true) : wpC Ψ G W (.asg (.tup ts) e) X σ k Q = wpE Ψ G e X σ k fun u _ σ1 k1 => got (bindU (.tup ts) u σ1) fun σ2 => Q (.nx σ2) k1 := by
  simp only [wpC]; unfold asgW; cases e <;> first | rfl | exact Bool.noConfusion h
theorem wc_aug {i : Nat} {o : Bop} {e : E} : wpC Ψ G W (.aug i o e) X σ k Q = got (slotU σ[i]?) fun x => wpE Ψ G e X σ k fun y _ σ1 k1 => got (augU o x y) fun r => Q (.nx (σ1.set i (some (r, false)))) k1 := by
  simp only [wpC, resU_r]
theorem wc_exp {e : E} : wpC Ψ G W (.exp e) X σ k Q = wpE Ψ G e X σ k fun _ _ σ1 k1 => Q (.nx σ1) k1 := by simp only [wpC]
theorem wc_retv {i : Nat} : wpC Ψ G W (.ret (.var i)) X σ k Q = retV σ[i]? k Q := by
  simp only [wpC, retW]; unfold retV; rfl
def notVar : E → Bool
  | .var _ => false
  | _ => true
theorem wc_ret {e : E} (h : notVar e = true) : wpC Ψ G W (.ret e) X σ k Q = wpE Ψ G e X σ k fun u fr _ k1 => Q (.rt u fr) k1 := by
  simp only [wpC]; unfold retW; cases e <;> first | rfl | exact Bool.noConfusion h
theorem retV_s {u : U} {b : Bool} : retV (some (some (u, b))) k Q = Q (.rt u b) k := nrfl
theorem wc_retN : wpC Ψ G W .retN X σ k Q = Q (.rt .non false) k := by simp only [wpC]
theorem wc_pas : wpC Ψ G W .pas X σ k Q = Q (.nx σ) k := by simp only [wpC]
theorem wc_brk : wpC Ψ G W .brk X σ k Q = Q (.bk σ) k := by simp only [wpC]
theorem wc_cnt : wpC Ψ G W .cnt X σ k Q = Q (.ct σ) k := by simp only [wpC]
theorem wc_wip {vs : List Nat} : wpC Ψ G W (.wip vs) X σ k Q = Q (.nx (wipeU σ vs)) k := by simp only [wpC]
theorem wc_ife {c : E} {a b : CV} : wpC Ψ G W (.ife c a b) X σ k Q = wpE Ψ G c X σ k fun u _ σ1 k1 => tstU u (wpC Ψ G W a X σ1 k1 Q) (wpC Ψ G W b X σ1 k1 Q) := by simp only [wpC]
theorem wc_for {tg it : E} {b : CV} : wpC Ψ G W (.for_ tg it b) X σ k Q = wpI Ψ G it X σ k fun its σ1 k1 => forU (fun u σ' k' K => got (bindU tg u σ') fun σ2 => wpC Ψ G W b X σ2 k' K) its σ1 k1 Q := by simp only [wpC]
theorem wc_whl {c : E} {b : CV} : wpC Ψ G W (.whl c b) X σ k Q = whlU (fun σ k K => wpE Ψ G c X σ k fun u _ σ1 k1 => K u σ1 k1) (wpC Ψ G W b X) W σ k Q := by simp only [wpC]
theorem wc_put {i : Nat} {j e : E} : wpC Ψ G W (.asg (.ix (.var i) j) e) X σ k Q = wpE Ψ G e X σ k fun u _ σ1 k1 => brwV σ1[i]? i σ1 k1 fun _ σ1 k1 => wpE Ψ G j X σ1 k1 fun v _ σ2 k2 => setG σ2[i]? i v u σ2 k2 Q := by
  simp only [wpC]; unfold asgW; rfl
theorem setG_o {xs : List U} {i : Nat} {v u : U} : setG (some (some (.lst xs, true))) i v u σ k Q = got (asIU v) fun z => got (L2.ixN xs.length z) fun n => Q (.nx (σ.set i (some (.lst (xs.set n u), true)))) k := nrfl
/-- a for by an invariant -/
theorem for_inv {turn : U → Env → Nat → QT → Prop} {us : List U} (I : Nat → Env → Nat → Prop) (h0 : I 0 σ k)
    (ht : ∀ i u σ k, us[i]? = some u → I i σ k → ∀ K : QT, (∀ σ1 k1, I (i + 1) σ1 k1 → K (.nx σ1) k1) → (∀ σ1 k1, I (i + 1) σ1 k1 → K (.ct σ1) k1) → (∀ σ1 k1, Q (.nx σ1) k1 → K (.bk σ1) k1) → (∀ u fr k1, Q (.rt u fr) k1 → K (.rt u fr) k1) → turn u σ k K)
    (hq : ∀ σ k, I us.length σ k → Q (.nx σ) k) : forU turn us σ k Q := by
  induction us generalizing I σ k with
  | nil => exact hq _ _ h0
  | cons u us ih =>
    refine ht 0 u σ k rfl h0 _ (fun σ1 k1 h => ?_) (fun σ1 k1 h => ?_) (fun σ1 k1 h => h) (fun u fr k1 h => h)
    · exact ih (fun i => I (i + 1)) h (fun i u σ k hu => ht (i + 1) u σ k (by simpa using hu)) hq
    · exact ih (fun i => I (i + 1)) h (fun i u σ k hu => ht (i + 1) u σ k (by simpa using hu)) hq
/-- a while by an invariant and a measure -/
theorem whl_inv {cond : Env → Nat → (U → Env → Nat → Prop) → Prop} {turn : Env → Nat → QT → Prop} (I : Nat → Env → Nat → Prop) {n : Nat} (hn : n < W) (h0 : I n σ k)
    (ht : ∀ n σ k, I n σ k → ∀ (KC : U → Env → Nat → Prop), (∀ σ1 k1, Q (.nx σ1) k1 → KC (.bl false) σ1 k1) → (∀ σ1 k1, 0 < n → (∀ K : QT, (∀ m σ2 k2, m < n → I m σ2 k2 → K (.nx σ2) k2) → (∀ m σ2 k2, m < n → I m σ2 k2 → K (.ct σ2) k2) → (∀ σ1 k1, Q (.nx σ1) k1 → K (.bk σ1) k1) → (∀ u fr k1, Q (.rt u fr) k1 → K (.rt u fr) k1) → turn σ1 k1 K) → KC (.bl true) σ1 k1) → cond σ k KC) :
    whlU cond turn W σ k Q := by
  induction W generalizing n σ k with
  | zero => omega
  | succ W ih =>
    simp only [whlU]
    refine ht n σ k h0 _ (fun σ1 k1 h => h) (fun σ1 k1 hp h => ?_)
    show turn σ1 k1 _
    refine h _ (fun m σ2 k2 hm hI => ?_) (fun m σ2 k2 hm hI => ?_) (fun _ _ h => h) (fun _ _ _ h => h)
    · exact ih (n := m) (by omega) hI
    · exact ih (n := m) (by omega) hI
end
/-- a comprehension by an invariant -/
theorem lc_inv {turn : U → Env → Nat → (Option U → Env → Nat → Prop) → Prop} {vs : List Nat} {us acc : List U} {Q : List U → Env → Nat → Prop} (I : Nat → List U → Env → Nat → Prop) (h0 : I 0 acc σ k)
    (ht : ∀ i u acc σ k, us[i]? = some u → I i acc σ k → ∀ K : Option U → Env → Nat → Prop, (∀ o σ1 k1, I (i + 1) (acc ++ o.toList) σ1 k1 → K o σ1 k1) → turn u (wipeU σ vs) k K)
    (hq : ∀ acc σ k, I us.length acc σ k → Q acc σ k) : lcU turn vs us σ k acc Q := by
  induction us generalizing I σ k acc with
  | nil => exact hq _ _ _ h0
  | cons u us ih =>
    refine ht 0 u acc σ k rfl h0 _ fun o σ1 k1 h => ?_
    exact ih (fun i => I (i + 1)) h (fun i u acc σ k hu => ht (i + 1) u acc σ k (by simpa using hu)) hq
/-- .. whose turns change nothing -/
theorem lc_pure {turn : U → Env → Nat → (Option U → Env → Nat → Prop) → Prop} {vs : List Nat} {us : List U} {Q : List U → Env → Nat → Prop} (g : U → Option U)
    (ht : ∀ u, u ∈ us → ∀ K : Option U → Env → Nat → Prop, (∀ σ1, wipeU σ1 vs = wipeU σ vs → K (g u) σ1 k) → turn u (wipeU σ vs) k K)
    (hq : ∀ σ1, wipeU σ1 vs = wipeU σ vs → Q (us.filterMap g) σ1 k) : lcU turn vs us σ k [] Q := by
  refine lc_inv (fun i acc σ1 k1 => k1 = k ∧ wipeU σ1 vs = wipeU σ vs ∧ acc = (us.take i).filterMap g) ⟨rfl, rfl, by simp⟩ ?_ ?_
  · rintro i u acc σ1 k1 hu ⟨rfl, h1, rfl⟩ K hK
    rw [h1]
    refine ht u (List.mem_of_getElem? hu) K fun σ2 h2 => hK _ _ _ ⟨rfl, h2, ?_⟩
    rw [List.take_succ, hu, List.filterMap_append]
    cases e : g u <;> simp [e]
  · rintro acc σ1 k1 ⟨rfl, h1, rfl⟩
    rw [List.take_length]
    exact hq σ1 h1
theorem wipeU_nil : wipeU σ [] = σ := nrfl
theorem wipeU_cons {v : Nat} {vs : List Nat} : wipeU σ (v :: vs) = (wipeU σ vs).set v none := nrfl
theorem restU_nil {σ0 : Env} : restU σ0 [] σ = σ := nrfl
theorem restU_cons {σ0 : Env} {v : Nat} {vs : List Nat} : restU σ0 (v :: vs) σ = restV σ0[v]? v (restU σ0 vs σ) := by
  simp only [restU, restV] <;> rfl
theorem restV_p {v : Nat} {u : U} : restV (some (some (u, false))) v σ = σ.set v (some (u, false)) := nrfl
theorem restV_o {v : Nat} {u : U} : restV (some (some (u, true))) v σ = σ.set v none := nrfl
theorem restV_n {v : Nat} : restV (some none) v σ = σ.set v none := nrfl
theorem restV_b (s : Option Slot) (v : Nat) (σ : Env) : ∃ t, restV s v σ = σ.set v t ∧ ∀ σ', restV s v σ' = σ'.set v t := by
  unfold restV
  split
  · exact ⟨_, rfl, fun _ => rfl⟩
  · exact ⟨_, rfl, fun _ => rfl⟩
theorem restU_wipe {σ0 : Env} (vs : List Nat) : restU σ0 vs σ = restU σ0 vs (wipeU σ vs) := by
  apply List.ext_getElem?
  intro i
  have key : ∀ (ws : List Nat) (s1 s2 : Env), s1.length = s2.length → (i ∉ ws → s1[i]? = s2[i]?) → (restU σ0 ws s1)[i]? = (restU σ0 ws s2)[i]? := by
    intro ws
    induction ws with
    | nil => intro s1 s2 hl h; exact h (by simp)
    | cons v ws ih =>
      intro s1 s2 hl h
      rw [restU_cons, restU_cons]
      obtain ⟨t, h1, h2⟩ := restV_b σ0[v]? v (restU σ0 ws s1)
      rw [h1, h2]
      have l1 := restU_len (σ := s1) σ0 ws
      have l2 := restU_len (σ := s2) σ0 ws
      by_cases hv : v = i
      · subst hv
        by_cases hi : v < s1.length
        · rw [List.getElem?_set_self (by omega), List.getElem?_set_self (by omega)]
        · rw [List.getElem?_eq_none (by rw [List.length_set]; omega), List.getElem?_eq_none (by rw [List.length_set]; omega)]
      · rw [List.getElem?_set_ne hv, List.getElem?_set_ne hv]
        exact ih s1 s2 hl fun hi => h (by simp only [List.mem_cons, not_or]; exact ⟨Ne.symm hv, hi⟩)
  exact key vs σ (wipeU σ vs) (wipeU_len vs).symm fun hi => by rw [wipeU_get, if_neg fun z => hi z.1]
theorem restU_of {σ0 σ1 : Env} {vs : List Nat} (h : wipeU σ1 vs = wipeU σ vs) : restU σ0 vs σ1 = restU σ0 vs (wipeU σ vs) := by rw [restU_wipe, h]
theorem bindU_var {i : Nat} {u : U} (h : i < σ.length) : bindU (.var i) u σ = some (σ.set i (some (u, false))) := by simp only [bindU]; rw [if_pos h]
theorem bindU_tup {es : E} {us : List U} (h : us.length = cnt es) : bindU (.tup es) (.tup us) σ = bindsU es us σ := by simp only [bindU]; rw [if_pos h]
def obind (o : Option Env) (f : Env → Option Env) : Option Env := match o with
  | some σ => f σ
  | none => none
theorem obind_s {f : Env → Option Env} : obind (some σ) f = f σ := nrfl
theorem bindsU_nil : bindsU .nil [] σ = some σ := by simp only [bindsU]
theorem bindsU_cons {a b : E} {u : U} {us : List U} : bindsU (.cons a b) (u :: us) σ = obind (bindU a u σ) (bindsU b us) := by
  simp only [bindsU, obind] <;> rfl
theorem setsU_nil : setsU .nil [] σ = some σ := by simp only [setsU]
theorem setsU_cons {i : Nat} {b : E} {u : U} {fr : Bool} {us : List (U × Bool)} (h : i < σ.length) : setsU (.cons (.var i) b) ((u, fr) :: us) σ = setsU b us (σ.set i (some (u, fr))) := by
  simp only [setsU]; rw [if_pos h]
end
theorem got_if {α : Type} {c : Prop} [Decidable c] {a : α} {K : α → Prop} : got (if c then some a else none) K = (c ∧ K a) := by
  split
  · rename_i h; simp [got, h]
  · rename_i h; simp [got, h]
theorem tstU_t {A B : Prop} : tstU (.bl true) A B = A := nrfl
theorem tstU_f {A B : Prop} : tstU (.bl false) A B = B := nrfl
theorem tstU_p {c : Prop} [Decidable c] {A B : Prop} : tstU (.bl (decide c)) A B = if c then A else B := by by_cases h : c <;> simp [h, tstU]
theorem tstU_n {c : Bool} {A B : Prop} : tstU (.bl (!c)) A B = if c = true then B else A := by cases c <;> rfl
theorem tstU_b {c : Bool} {A B : Prop} : tstU (.bl c) A B = if c = true then A else B := by cases c <;> rfl
theorem asIU_i {i : Int} : asIU (.int i) = some i := nrfl
theorem asBU_b {b : Bool} : asBU (.bl b) = some b := nrfl
theorem asSU_s {x : Str} : asSU (.str x) = some x := nrfl
theorem bu_add {i j : Int} : binU .add (.int i) (.int j) = some (.int (i + j), false) := nrfl
theorem bu_sub {i j : Int} : binU .sub (.int i) (.int j) = some (.int (i - j), false) := nrfl
theorem bu_mul {i j : Int} : binU .mul (.int i) (.int j) = if mulOk i j then some (.int (i * j), false) else none := nrfl
theorem bu_adds {x y : Str} : binU .add (.str x) (.str y) = if x.length + y.length ≤ sizeLine then some (.str (x ++ y), false) else none := nrfl
theorem bu_addt {x y : List U} : binU .add (.tup x) (.tup y) = if x.length + y.length ≤ sizeLine then some (.tup (x ++ y), false) else none := nrfl
theorem bu_addl {x y : List U} : binU .add (.lst x) (.lst y) = if x.length + y.length ≤ sizeLine then some (.lst (x ++ y), true) else none := nrfl
theorem bu_mult {x : List U} {i : Int} : binU .mul (.tup x) (.int i) = if x ≠ [] ∧ 2 ≤ i ∧ i ≤ 1000 ∧ x.length ≤ 1000 then some (.tup (rep i.toNat x), false) else none := nrfl
theorem bu_mull {x : List U} {i : Int} : binU .mul (.lst x) (.int i) = if -(2 ^ 63) ≤ i ∧ i < 2 ^ 63 ∧ x.length * i.toNat ≤ sizeLine then some (.lst (rep i.toNat x), true) else none := nrfl
theorem bu_mod {i j : Int} : binU .mod (.int i) (.int j) = if j ≠ 0 then some (.int (i.fmod j), false) else none := nrfl
theorem bu_fdv {i j : Int} : binU .fdv (.int i) (.int j) = if j ≠ 0 ∧ j.natAbs < 1073741824 then some (.int (i.fdiv j), false) else none := nrfl
theorem bu_pow {i j : Int} : binU .pow (.int i) (.int j) = if 0 ≤ j ∧ j ≤ 1000000 ∧ i.natAbs < 2 ^ 64 then some (.int (i ^ j.toNat), false) else none := nrfl
theorem au_add {i j : Int} : augU .add (.int i) (.int j) = some (.int (i + j)) := nrfl
theorem au_sub {i j : Int} : augU .sub (.int i) (.int j) = some (.int (i - j)) := nrfl
theorem cu_lt {i j : Int} : cmpU .lt (.int i) (.int j) = some (decide (i < j)) := nrfl
theorem cu_le {i j : Int} : cmpU .le (.int i) (.int j) = some (decide (i ≤ j)) := nrfl
theorem cu_gt {i j : Int} : cmpU .gt (.int i) (.int j) = some (decide (j < i)) := nrfl
theorem cu_ge {i j : Int} : cmpU .ge (.int i) (.int j) = some (decide (j ≤ i)) := nrfl
theorem cu_eq {x y : U} : cmpU .eq x y = eqU x y := by unfold cmpU; rfl
theorem cu_ne {x y : U} : cmpU .ne x y = (eqU x y).map (!·) := by unfold cmpU; rfl
theorem cu_in {x y : U} : cmpU .mem x y = memU x y := by unfold cmpU; rfl
theorem cu_ni {x y : U} : cmpU .nmem x y = (memU x y).map (!·) := by unfold cmpU; rfl
theorem equ_ii {i j : Int} : eqU (.int i) (.int j) = some (decide (i = j)) := nrfl
theorem equ_ss {x y : Str} : eqU (.str x) (.str y) = some (decide (x = y)) := nrfl
theorem biu_len {u : U} : biU .len [u] = (lenU u).map fun (n : Nat) => (.int (n : Int), false) := nrfl
theorem lenU_t {us : List U} : lenU (.tup us) = some us.length := nrfl
theorem lenU_l {us : List U} : lenU (.lst us) = some us.length := nrfl
theorem lenU_s {x : Str} : lenU (.str x) = if x.length ≤ sizeLine then some x.length else none := nrfl
theorem biu_int {i : Int} : biU .int [.int i] = some (.int i, false) := nrfl
theorem biu_intb {b : Bool} : biU .int [.bl b] = some (.int (if b then 1 else 0), false) := nrfl
theorem biu_lists {x : Str} : biU .list [.str x] = if x.length ≤ sizeLine then some (.lst (signsU x), true) else none := nrfl
theorem biu_listt {us : List U} : biU .list [.tup us] = some (.lst us, true) := nrfl
theorem biu_listl {us : List U} : biU .list [.lst us] = some (.lst us, true) := nrfl
theorem biu_tupt {us : List U} : biU .tuple [.tup us] = some (.tup us, false) := nrfl
theorem biu_tupl {us : List U} : biU .tuple [.lst us] = some (.tup us, false) := nrfl
theorem biu_sum {us : List U} : biU .sum [.lst us] = (mapO asIU us).map fun ns => (.int ns.sum, false) := nrfl
theorem biu_all {us : List U} : biU .all [.lst us] = (mapO asBU us).map fun bs => (.bl (bs.all id), false) := nrfl
theorem biu_any {us : List U} : biU .any [.lst us] = (mapO asBU us).map fun bs => (.bl (bs.any id), false) := nrfl
theorem biu_maxl {us : List U} : biU .max [.lst us] = ((mapO asIU us).bind maxL).map fun n => (.int n, false) := nrfl
theorem biu_minl {us : List U} : biU .min [.lst us] = ((mapO asIU us).bind minL).map fun n => (.int n, false) := nrfl
theorem biu_max {i j : Int} : biU .max [.int i, .int j] = some (.int (if j > i then j else i), false) := nrfl
theorem biu_min {i j : Int} : biU .min [.int i, .int j] = some (.int (if j < i then j else i), false) := nrfl
theorem biu_sets {x : Str} : biU .sortedSet [.str x] = if x.length + 1 < 4096 then some (.lst ((sortC x.cps.toList).map fun c => .str ⟨#[c]⟩), true) else none := nrfl
theorem biu_setl {us : List U} : biU .sortedSet [.lst us] = if us.length + 1 < 4096 then (mapO asIU us).map fun is => (.lst ((sortI is).map .int), true) else none := nrfl
theorem biu_split {x y : Str} : biU .split [.str x, .str y] = if (y.length == 0) = false ∧ x.length + 2 ≤ sizeLine then some (.lst ((Txt.split x y).map .str), true) else none := nrfl
theorem mu_app {xs : List U} {x : U} : mtU .append xs [x] = if xs.length < sizeLine then some (.non, xs ++ [x]) else none := nrfl
theorem mu_ext {xs ys : List U} : mtU .extend xs [.lst ys] = if xs.length + ys.length ≤ sizeLine then some (.non, xs ++ ys) else none := nrfl
theorem mu_ins {xs : List U} {i : Int} {x : U} : mtU .insert xs [.int i, x] = if xs.length < sizeLine ∧ 0 ≤ i ∧ i < 2 ^ 63 then some (.non, xs.take i.toNat ++ [x] ++ xs.drop i.toNat) else none := nrfl
theorem ixu_t {us : List U} {i : Int} : ixU (.tup us) (.int i) = L2.atI us i := nrfl
theorem ixu_l {us : List U} {i : Int} : ixU (.lst us) (.int i) = L2.atI us i := nrfl
theorem ixu_s {x : Str} {i : Int} : ixU (.str x) (.int i) = if x.length ≤ sizeLine then (L2.atI x.cps.toList i).map fun c => .str ⟨#[c]⟩ else none := nrfl
theorem slu_t {us : List U} {l h : Option Int} : slU (.tup us) l h = some (.tup (cutD us l h), false) := nrfl
theorem slu_l {us : List U} {l h : Option Int} : slU (.lst us) l h = some (.lst (cutD us l h), true) := nrfl
theorem slu_s {x : Str} {l h : Option Int} : slU (.str x) l h = if x.length ≤ sizeLine then some (.str ⟨(cutD x.cps.toList l h).toArray⟩, false) else none := nrfl
theorem srcu_t {us : List U} : srcU (.tup us) = some us := nrfl
theorem srcu_l {us : List U} : srcU (.lst us) = some us := nrfl
theorem srcu_s {x : Str} : srcU (.str x) = some (signsU x) := nrfl
theorem rgu_1 {j : Int} : rgU [.int j] = if big62 j then some (rangeU 0 j.toNat) else none := nrfl
theorem rgu_2 {i j : Int} : rgU [.int i, .int j] = if big62 i && big62 j then some (rangeU i (j - i).toNat) else none := nrfl
theorem rgu_3 {i j c : Int} : rgU [.int i, .int j, .int c] = if big62 i && big62 j && decide (c = -1) then some (rangeCU i (-1) (i - j).toNat) else none := nrfl
theorem lru_1 {j : Int} : lrU [.int j] = if big62 j = true ∧ j.toNat ≤ 2 ^ 24 then some (.lst (rangeU 0 j.toNat)) else none := nrfl
theorem zpu_t {st : Bool} {xs ys : List U} : zpU st [.tup xs, .tup ys] = if st && xs.length != ys.length then none else some (pairsUpU xs ys) := nrfl
theorem zpu_l {st : Bool} {xs ys : List U} : zpU st [.lst xs, .lst ys] = if st && xs.length != ys.length then none else some (pairsUpU xs ys) := nrfl
theorem joinu {x : Str} {u : U} {us : List U} {ys : List Str} (h : seqU u = some us) (e : mapO asSU us = some ys) (hl : (ys.map (·.length)).sum + ys.length * x.length ≤ 16777216) : joinU x u = some (.str (Txt.join x ys)) := by
  unfold joinU
  simp only [h, Option.bind_some, e]
  rw [if_pos hl]
theorem mapO_map {α β γ : Type} {f : β → Option γ} {g : α → β} {h : α → γ} (e : ∀ a, f (g a) = some (h a)) : ∀ l : List α, mapO f (l.map g) = some (l.map h)
  | [] => rfl
  | a :: l => by simp only [List.map_cons, mapO, e, mapO_map e l]
theorem numberedU_get : ∀ (us : List U) (j i : Nat), (numberedU j us)[i]? = (us[i]?).map fun u => .tup [.int ((j + i : Nat) : Int), u]
  | [], _, _ => by simp [numberedU]
  | u :: us, j, 0 => by simp [numberedU]
  | u :: us, j, i + 1 => by
    simp only [numberedU, List.getElem?_cons_succ]
    rw [numberedU_get us (j + 1) i]
    have : j + 1 + i = j + (i + 1) := by omega
    rw [this]
theorem numberedU_len : ∀ (us : List U) (j : Nat), (numberedU j us).length = us.length
  | [], _ => rfl
  | u :: us, j => by simp [numberedU, numberedU_len us]
theorem rangeU_get {lo : Int} {n i : Nat} {u : U} (h : (rangeU lo n)[i]? = some u) : i < n ∧ u = .int (lo + i) := by
  unfold rangeU at h
  rw [List.getElem?_map] at h
  cases e : (List.range n)[i]? with
  | none => rw [e] at h; cases h
  | some m =>
    rw [e] at h
    obtain ⟨h1, h2⟩ := List.getElem?_eq_some_iff.mp e
    rw [List.getElem_range] at h2
    subst h2
    exact ⟨by simpa using h1, (Option.some.inj h).symm⟩
theorem rangeU_len {lo : Int} {n : Nat} : (rangeU lo n).length = n := by simp [rangeU]
theorem rangeU_mem {lo : Int} {n : Nat} {u : U} (h : u ∈ rangeU lo n) : ∃ i : Nat, i < n ∧ u = .int (lo + i) := by
  obtain ⟨i, hi⟩ := List.mem_iff_getElem?.mp h
  exact ⟨i, rangeU_get hi⟩
/-! ### the pen's defs -/
theorem Ok.okx {α : Type} {r : R α} {Q : α → Hs → Prop} {E : Nat → Option D → Hs → Prop} (h : Ok r Q) : OkX r Q E := by
  cases r with
  | ok a S => exact h
  | ex => exact h.elim
  | no => exact h.elim
section
variable {Φ : Nat → List D → Hs → R D} {p k i : Nat} {Q : U → Bool → Nat → Prop} {Ex : ExT}
theorem fr_out {S S' : Hs} (f : Fr [p] S S') : S.length ≤ S'.length ∧ ∀ n, n < S.length → n ≠ p → S'[n]? = S[n]? := ⟨f.1, fun n hn hp => f.2 n hn (by simp [hp])⟩
theorem call_take (h : TakeOk Φ i) {m : Int} (hk : k ≤ 1048576) (h0 : 0 < m) (h1 : m < 1073741824) (q : ∀ z : Int, 0 ≤ z → z < m → Q (.int z) false (k + 1)) : CallOk Φ p i [.pen, .int m] k Q Ex := by
  intro X S ds hX hp hs
  rw [Hlds_cons] at hs
  obtain ⟨d, r, rfl, a, hs⟩ := hs
  obtain ⟨d2, rfl, b⟩ := hs.fst1
  rw [Hld_pen] at a
  rw [Hld_int] at b
  subst a; subst b
  exact (h p k m S _ hp hk h0 h1 fun z S' z0 z1 hp' f => ⟨.int z, false, k + 1, (fr_out f).1, (fr_out f).2, hp', Hld_int.mpr rfl, q z z0 z1⟩).okx
theorem call_one (h : OneOk Φ i) {u : U} {us : List U} (hk : k ≤ 1048576) (hs : seqU u = some us) (hne : us ≠ []) (hl : us.length < 1073741824) (q : ∀ v, v ∈ us → Q v false (k + 1)) : CallOk Φ p i [.pen, u] k Q Ex := by
  intro X S ds hX hp hd
  rw [Hlds_cons] at hd
  obtain ⟨d, r, rfl, a, hd⟩ := hd
  obtain ⟨d2, rfl, b⟩ := hd.fst1
  rw [Hld_pen] at a
  subst a
  obtain ⟨es, e1, e2⟩ := (Opn.seq (.inl b) hs)
  have np : d2 ≠ .ref p := fun z => by
    subst z
    cases u <;> simp only [seqU] at hs <;> try cases hs
    · rw [Hld_tup] at b; obtain ⟨_, b, _⟩ := b; cases b
    · rw [Hld_lst] at b; obtain ⟨n, _, b, c, _⟩ := b; cases b; exact c (.inl rfl)
  refine (h p k d2 es S _ hp hk e1 np (e2.ne hne) (by rw [← e2.len]; exact hl) fun z S' hz hp' f => ?_).okx
  obtain ⟨j, hj⟩ := List.mem_iff_getElem?.mp hz
  have hj2 : j < us.length := by rw [e2.len]; exact ltg hj
  obtain ⟨z', g1, g2⟩ := e2.get (List.getElem?_eq_getElem hj2)
  rw [hj] at g1; cases g1
  refine ⟨us[j], false, k + 1, (fr_out f).1, (fr_out f).2, hp', g2.mv fun n o e a => ⟨?_, a⟩, q _ (List.getElem_mem _)⟩
  rw [(fr_out f).2 n (lt_of_get e) fun z => a (.inl z)]; exact e
theorem call_oneS (h : OneStrOk Φ i) {x : Str} (hk : k ≤ 1048576) (h0 : 0 < x.length) (hl : x.length ≤ 1000000) (q : ∀ c, c ∈ x.cps.toList → Q (.str ⟨#[c]⟩) false (k + 1)) : CallOk Φ p i [.pen, .str x] k Q Ex := by
  intro X S ds hX hp hd
  rw [Hlds_cons] at hd
  obtain ⟨d, r, rfl, a, hd⟩ := hd
  obtain ⟨d2, rfl, b⟩ := hd.fst1
  rw [Hld_pen] at a
  rw [Hld_str] at b
  subst a; subst b
  exact (h p k x S _ hp hk h0 hl fun c S' hc hp' f => ⟨.str ⟨#[c]⟩, false, k + 1, (fr_out f).1, (fr_out f).2, hp', Hld_str.mpr rfl, q c hc⟩).okx
theorem call_same {n : Nat} (h : SameOk Φ i n) {x y : U} {a b : PyData} (hx : pyU n x = some a) (hy : pyU n y = some b) (hs : smallP a = true) (q : ∀ c : Bool, (c = true ↔ a = b) → Q (.bl c) false k) : CallOk Φ p i [x, y] k Q Ex := by
  intro X S ds hX hp hd
  rw [Hlds_cons] at hd
  obtain ⟨d, r, rfl, g, hd⟩ := hd
  obtain ⟨d2, rfl, g2⟩ := hd.fst1
  exact (h d d2 a b S _ (pyU_hld n (.inl g) hx) (pyU_hld n (.inl g2) hy) hs fun c S' hc f => ⟨.bl c, false, k, f.1, fun m hm _ => f.2 m hm (by simp), hp.lo fun m hm => by
    obtain ⟨_, _, _, _, _, h2, _⟩ := hp
    exact f.2 m (by have := lt_of_get h2; omega) (by simp), Hld_bl.mpr rfl, q c hc⟩).okx
end
end RS

/-! V9a: from the top of a law's def to values -/
namespace RS
open PySem
theorem law_v {fs : List Fn} {GD : Nat → D} {GU : Nat → U} {W n li io nn : Nat} {b : CV} {ns : List Int} (hG : ∀ g S p av, Hld S p av (GU g) (GD g)) (e : fs[li]? = some ⟨1, nn, .cons (.asg (.var 1) (.cal io (.cons (.var 0) .nil))) (erC b)⟩) (hn : 2 ≤ nn) (ho : OpenOk (run fs GD W n) io) (hl : ns.length ≤ 63)
    (w : ∀ p, wpC (CallOk (run fs GD W n) p) GU W b (fun _ _ _ => False) (none :: some (.pen, false) :: List.replicate (nn - 2) none) 0 (rtU fun u fr k => u = .bl true)) : ∃ S, run fs GD W (n + 1) li [.ref 0] [.scr (ns.map D.int)] = .ok (.bl true) S := by
  obtain ⟨d, S1, e1, p, rfl, hp⟩ := (ho 0 ns [.scr (ns.map D.int)] (fun d S' => ∃ p, d = .ref p ∧ Pen S' p 0) rfl hl fun p S' _ hp _ => ⟨p, rfl, hp⟩).out
  have hpl : p < S1.length := by
    obtain ⟨c, cells, at_, val, h1, h2, _⟩ := hp
    exact lt_of_get h2
  obtain ⟨m, rfl⟩ : ∃ m, nn = m + 2 := ⟨nn - 2, by omega⟩
  obtain ⟨F, er, hF⟩ : ∃ F : Fl → Hs → R D, run fs GD W (n + 1) li [.ref 0] [.scr (ns.map D.int)] = (exec (run fs GD W n) GD W (erC b) (some (.ref 0) :: some (.ref p) :: List.replicate m none) S1).bind F ∧ ∀ d S, F (.rt d) S = .ok d S := by
    have hr : run fs GD W (n + 1) li [.ref 0] [.scr (ns.map D.int)] = runF (run fs GD W n) GD W ⟨1, m + 2, .cons (.asg (.var 1) (.cal io (.cons (.var 0) .nil))) (erC b)⟩ [.ref 0] [.scr (ns.map D.int)] := by
      show (match fs[li]? with | some f => runF (run fs GD W n) GD W f _ _ | none => .no) = _
      rw [e]
    rw [hr]
    simp only [runF]
    rw [if_pos (show ([D.ref 0] : List D).length = 1 from rfl)]
    have en : (([.ref 0] : List D).map some ++ List.replicate (m + 2 - ([.ref 0] : List D).length) none : Rho) = some (.ref 0) :: none :: List.replicate m none := by
      show some (D.ref 0) :: List.replicate (m + 1) none = _
      rw [List.replicate_succ]
    rw [en]
    simp only [exec, den, denL, denG, R.bind_ok, List.getElem?_cons_zero, e1, List.length_cons, List.length_replicate]
    rw [if_pos (by omega)]
    simp only [R.bind_ok, List.set_cons_succ, List.set_cons_zero]
    exact ⟨_, rfl, fun _ _ => rfl⟩
  simp only [Nat.add_sub_cancel] at w
  have no : ∀ m', ¬ Own (some (.ref 0) :: some (.ref p) :: List.replicate m none) (none :: some (.pen, false) :: List.replicate m none) m' := fun m' ⟨j, u, q, _⟩ => by
    match j, q with
    | 0, q => cases q
    | 1, q => cases q
    | j + 2, q =>
      simp only [List.getElem?_cons_succ, List.getElem?_replicate] at q
      split at q <;> cases q
  have rl : Rel p (fun _ => False) S1.length S1 (some (.ref 0) :: some (.ref p) :: List.replicate m none) (none :: some (.pen, false) :: List.replicate m none) := by
    refine ⟨by simp, fun j u q => ?_, fun j u q => ?_, fun a b m x => absurd ⟨a, x⟩ (no m), fun a m x => absurd ⟨a, x⟩ (no m), Nat.le_refl _, hpl, fun n h => h.elim⟩
    · match j, q with
      | 0, q => cases q
      | 1, q => cases q; exact ⟨_, rfl, Hld_pen.mpr rfl⟩
      | j + 2, q =>
        simp only [List.getElem?_cons_succ, List.getElem?_replicate] at q
        split at q <;> cases q
    · match j, q with
      | 0, q => cases q
      | 1, q => cases q
      | j + 2, q =>
        simp only [List.getElem?_cons_succ, List.getElem?_replicate] at q
        split at q <;> cases q
  have h := snd_C (fun e => snd_all (fun g S av => hG g S p av) e) b S1 _ _ 0 _ rl hp (w p)
  rw [er]
  revert h
  cases exec (run fs GD W n) GD W (erC b) (some (.ref 0) :: some (.ref p) :: List.replicate m none) S1 with
  | ok f S' =>
    rintro ⟨fu, k', r, hp', q⟩
    cases f <;> cases fu <;> first | exact r.elim | exact q.elim | skip
    · cases q
    · obtain ⟨h1, h2, h3⟩ := r
      rename_i d u fr
      cases q
      cases fr with
      | false => have h4 : Hld S' p (fun n => n = p ∨ False) (.bl true) d := h3; have h5 := Hld_bl.mp h4; subst h5; exact ⟨S', by rw [R.bind_ok, hF]⟩
      | true => obtain ⟨_, _, _, h⟩ := h3; exact absurd h (by simp [Body])
  | ex c x S' => rintro ⟨_, _, _, _, _, _, h⟩; exact h.elim
  | no => exact fun h => h.elim
section
variable {Ψ : PsiT} {G : Nat → U} {W : Nat} {X : ExT} {σ : Env} {k : Nat} {Q : QT}
theorem wr_non  : wpC Ψ G W (.ret (.non)) X σ k Q = wpE Ψ G (.non) X σ k fun u fr _ k1 => Q (.rt u fr) k1 := wc_ret rfl
theorem wr_bl {b : Bool} : wpC Ψ G W (.ret (.bl b)) X σ k Q = wpE Ψ G (.bl b) X σ k fun u fr _ k1 => Q (.rt u fr) k1 := wc_ret rfl
theorem wr_int {i : Int} : wpC Ψ G W (.ret (.int i)) X σ k Q = wpE Ψ G (.int i) X σ k fun u fr _ k1 => Q (.rt u fr) k1 := wc_ret rfl
theorem wr_str {x : Str} : wpC Ψ G W (.ret (.str x)) X σ k Q = wpE Ψ G (.str x) X σ k fun u fr _ k1 => Q (.rt u fr) k1 := wc_ret rfl
theorem wr_glb {g : Nat} : wpC Ψ G W (.ret (.glb g)) X σ k Q = wpE Ψ G (.glb g) X σ k fun u fr _ k1 => Q (.rt u fr) k1 := wc_ret rfl
theorem wr_tup {es : E} : wpC Ψ G W (.ret (.tup es)) X σ k Q = wpE Ψ G (.tup es) X σ k fun u fr _ k1 => Q (.rt u fr) k1 := wc_ret rfl
theorem wr_lst {es : E} : wpC Ψ G W (.ret (.lst es)) X σ k Q = wpE Ψ G (.lst es) X σ k fun u fr _ k1 => Q (.rt u fr) k1 := wc_ret rfl
theorem wr_bin {o : Bop} {a b : E} : wpC Ψ G W (.ret (.bin o a b)) X σ k Q = wpE Ψ G (.bin o a b) X σ k fun u fr _ k1 => Q (.rt u fr) k1 := wc_ret rfl
theorem wr_neg {a : E} : wpC Ψ G W (.ret (.neg a)) X σ k Q = wpE Ψ G (.neg a) X σ k fun u fr _ k1 => Q (.rt u fr) k1 := wc_ret rfl
theorem wr_nt {a : E} : wpC Ψ G W (.ret (.nt a)) X σ k Q = wpE Ψ G (.nt a) X σ k fun u fr _ k1 => Q (.rt u fr) k1 := wc_ret rfl
theorem wr_cmp {o : Cop} {a b : E} : wpC Ψ G W (.ret (.cmp o a b)) X σ k Q = wpE Ψ G (.cmp o a b) X σ k fun u fr _ k1 => Q (.rt u fr) k1 := wc_ret rfl
theorem wr_isN {a : E} : wpC Ψ G W (.ret (.isN a)) X σ k Q = wpE Ψ G (.isN a) X σ k fun u fr _ k1 => Q (.rt u fr) k1 := wc_ret rfl
theorem wr_nsN {a : E} : wpC Ψ G W (.ret (.nsN a)) X σ k Q = wpE Ψ G (.nsN a) X σ k fun u fr _ k1 => Q (.rt u fr) k1 := wc_ret rfl
theorem wr_chn {o q : Cop} {a b c : E} : wpC Ψ G W (.ret (.chn o q a b c)) X σ k Q = wpE Ψ G (.chn o q a b c) X σ k fun u fr _ k1 => Q (.rt u fr) k1 := wc_ret rfl
theorem wr_and {a b : E} : wpC Ψ G W (.ret (.and a b)) X σ k Q = wpE Ψ G (.and a b) X σ k fun u fr _ k1 => Q (.rt u fr) k1 := wc_ret rfl
theorem wr_or {a b : E} : wpC Ψ G W (.ret (.or a b)) X σ k Q = wpE Ψ G (.or a b) X σ k fun u fr _ k1 => Q (.rt u fr) k1 := wc_ret rfl
theorem wr_ife {c a b : E} : wpC Ψ G W (.ret (.ife c a b)) X σ k Q = wpE Ψ G (.ife c a b) X σ k fun u fr _ k1 => Q (.rt u fr) k1 := wc_ret rfl
theorem wr_cal {f : Nat} {es : E} : wpC Ψ G W (.ret (.cal f es)) X σ k Q = wpE Ψ G (.cal f es) X σ k fun u fr _ k1 => Q (.rt u fr) k1 := wc_ret rfl
theorem wr_bi {h : Bi} {es : E} : wpC Ψ G W (.ret (.bi h es)) X σ k Q = wpE Ψ G (.bi h es) X σ k fun u fr _ k1 => Q (.rt u fr) k1 := wc_ret rfl
theorem wr_isi {ts : List Ty} {a : E} : wpC Ψ G W (.ret (.isi ts a)) X σ k Q = wpE Ψ G (.isi ts a) X σ k fun u fr _ k1 => Q (.rt u fr) k1 := wc_ret rfl
theorem wr_mth {m : Mt} {a es : E} : wpC Ψ G W (.ret (.mth m a es)) X σ k Q = wpE Ψ G (.mth m a es) X σ k fun u fr _ k1 => Q (.rt u fr) k1 := wc_ret rfl
theorem wr_ix {a b : E} : wpC Ψ G W (.ret (.ix a b)) X σ k Q = wpE Ψ G (.ix a b) X σ k fun u fr _ k1 => Q (.rt u fr) k1 := wc_ret rfl
theorem wr_sl {a l u : E} : wpC Ψ G W (.ret (.sl a l u)) X σ k Q = wpE Ψ G (.sl a l u) X σ k fun u fr _ k1 => Q (.rt u fr) k1 := wc_ret rfl
theorem wr_rvs {a : E} : wpC Ψ G W (.ret (.rvs a)) X σ k Q = wpE Ψ G (.rvs a) X σ k fun u fr _ k1 => Q (.rt u fr) k1 := wc_ret rfl
theorem wr_lc {vs : List Nat} {e tg it c : E} : wpC Ψ G W (.ret (.lc vs e tg it c)) X σ k Q = wpE Ψ G (.lc vs e tg it c) X σ k fun u fr _ k1 => Q (.rt u fr) k1 := wc_ret rfl
theorem wr_lrg {es : E} : wpC Ψ G W (.ret (.lrg es)) X σ k Q = wpE Ψ G (.lrg es) X σ k fun u fr _ k1 => Q (.rt u fr) k1 := wc_ret rfl
end
end RS

/-! T50: texts of tapes -/
namespace RS
open PySem
def B_are_letters (g_LETTERS : Nat) : CV :=
  (.cons (.ret (.and (.isi [.str] (.var 0)) (.bi .all (.cons (.lc [1] (.cmp .mem (.var 1) (.glb g_LETTERS)) (.var 1) (.cons (.var 0) .nil) (.bl true)) .nil))))
  .nil)

def B_is_frame (c_are_letters : Nat) : CV :=
  (.cons (.ife (.and (.cmp .eq (.var 0) (.str "?")) (.isi [.str] (.var 0)))
      (.cons (.ret (.bl true))
      .nil)
      .nil)
  (.cons (.ret (.and (.cal c_are_letters (.cons (.var 0) .nil)) (.cmp .eq (.bi .list (.cons (.var 0) .nil)) (.bi .sortedSet (.cons (.var 0) .nil)))))
  .nil))

def B_is_tape (c_is_frame g_MOST_FRAMES : Nat) : CV :=
  (.cons (.ret (.and (.isi [.tuple] (.var 0)) (.and (.cmp .le (.bi .len (.cons (.var 0) .nil)) (.glb g_MOST_FRAMES)) (.bi .all (.cons (.lc [1] (.cal c_is_frame (.cons (.var 1) .nil)) (.var 1) (.cons (.var 0) .nil) (.bl true)) .nil)))))
  .nil)

def B_write_tape : CV :=
  (.cons (.ret (.mth .join (.str "") (.cons (.lc [1] (.bin .add (.bin .add (.str "[") (.var 1)) (.str "]")) (.var 1) (.cons (.var 0) .nil) (.bl true)) .nil)))
  .nil)

def B_read_tape (c_is_tape c_write_tape : Nat) : CV :=
  (.cons (.ife (.nt (.isi [.str] (.var 0)))
      (.cons (.exp .nil)
      .nil)
      .nil)
  (.cons (.asg (.var 1) (.bi .tuple (.cons (.lc [2] (.sl (.var 2) (.cons (.int 1) .nil) .nil) (.var 2) (.cons (.sl (.bi .split (.cons (.var 0) (.cons (.str "]") .nil))) .nil (.cons (.neg (.int 1)) .nil)) .nil) (.bl true)) .nil)))
  (.cons (.ife (.or (.nt (.cal c_is_tape (.cons (.var 1) .nil))) (.cmp .ne (.cal c_write_tape (.cons (.var 1) .nil)) (.var 0)))
      (.cons (.exp .nil)
      .nil)
      .nil)
  (.cons (.ret (.var 1))
  .nil))))

def B_law_draw_tape (c_law_take c_law_one_of : Nat) : CV :=
  (.cons (.asg (.tup (.cons (.var 2) (.cons (.var 3) .nil))) (.tup (.cons (.str "abcdefghijklmnopqrstuvwxyz") (.cons (.lst .nil) .nil))))
  (.cons (.for_ (.var 1) (.rng (.cons (.cal c_law_take (.cons (.var 0) (.cons (.int 17) .nil))) .nil))
      (.cons (.asg (.var 4) (.mth .join (.str "") (.cons (.lc [5] (.var 5) (.var 5) (.cons (.var 2) .nil) (.cmp .eq (.cal c_law_take (.cons (.var 0) (.cons (.int 3) .nil))) (.int 0))) .nil)))
      (.cons (.exp (.mth .append (.var 3) (.cons (.cal c_law_one_of (.cons (.var 0) (.cons (.lst (.cons (.str "?") (.cons (.str "") (.cons (.var 2) (.cons (.var 4) (.cons (.ix (.var 2) (.cal c_law_take (.cons (.var 0) (.cons (.int 26) .nil)))) (.cons (.str "az") .nil))))))) .nil))) .nil)))
      .nil)))
  (.cons (.ret (.bi .tuple (.cons (.var 3) .nil)))
  .nil)))

def B_law50 (c_law_draw_tape c_law_same c_write_tape c_read_tape : Nat) : CV :=
  (.cons (.for_ (.var 2) (.rng (.cons (.int 8) .nil))
      (.cons (.asg (.var 3) (.cal c_law_draw_tape (.cons (.var 1) .nil)))
      (.cons (.asg (.var 4) (.str ""))
      (.cons (.for_ (.var 5) (.cons (.var 3) .nil)
          (.cons (.asg (.var 4) (.bin .add (.bin .add (.bin .add (.var 4) (.str "[")) (.var 5)) (.str "]")))
          .nil))
      (.cons (.ife (.nt (.cal c_law_same (.cons (.lst (.cons (.cal c_write_tape (.cons (.var 3) .nil)) (.cons (.cal c_read_tape (.cons (.var 4) .nil)) .nil))) (.cons (.lst (.cons (.var 4) (.cons (.var 3) .nil))) .nil))))
          (.cons (.ret (.bl false))
          .nil)
          .nil)
      .nil)))))
  (.cons (.ret (.and (.cmp .eq (.cal c_write_tape (.cons (.tup .nil) .nil)) (.str "")) (.cmp .eq (.cal c_read_tape (.cons (.str "") .nil)) (.tup .nil))))
  .nil))


def alpha : List Nat := [97, 98, 99, 100, 101, 102, 103, 104, 105, 106, 107, 108, 109, 110, 111, 112, 113, 114, 115, 116, 117, 118, 119, 120, 121, 122]
def lettersS : Str := "abcdefghijklmnopqrstuvwxyz"
theorem letters_cps : lettersS.cps.toList = alpha := by decide +kernel
theorem alpha_in : ∀ c ∈ alpha, memU (.str ⟨#[c]⟩) (.str "abcdefghijklmnopqrstuvwxyz") = some true := by
  intro c hc
  have : ∀ c ∈ alpha, (!(Builtin.Str.occurrences lettersS ⟨#[c]⟩ 0 lettersS.length 1).isEmpty) = true := by decide +kernel
  unfold memU
  exact congrArg some (this c hc)
theorem alpha_lt : alpha.Pairwise (· < ·) := by decide +kernel

/-! ### plain -/
open TL in
theorem tl_u (x : Str) : x.cps.toList = tl x := rfl
/-- a frame as it is drawn -/
def FrameU (f : Str) : Prop := f = "?" ∨ (TL.tl f).Sublist alpha
theorem FrameU.len {f : Str} (h : FrameU f) : f.length ≤ 26 := by
  rcases h with rfl | h
  · decide
  · have := h.length_le
    show (TL.tl f).length ≤ 26
    exact this
theorem FrameU.cs {f : Str} (h : FrameU f) : ∀ c ∈ TL.tl f, c = 63 ∨ c ∈ alpha := by
  rcases h with rfl | h
  · intro c hc
    rw [show TL.tl ("?" : Str) = [63] by decide] at hc
    exact .inl (by simpa using hc)
  · exact fun c hc => .inr (h.subset hc)
theorem alpha_bd : ∀ c ∈ alpha, 97 ≤ c ∧ c ≤ 122 := by decide
theorem FrameU.no {f : Str} (h : FrameU f) : 93 ∉ TL.tl f := fun hc => by
  rcases h.cs 93 hc with z | z
  · cases z
  · have := alpha_bd 93 z; omega
theorem FrameU.ok {f : Str} (h : FrameU f) : PyData.strOk f = true := by
  unfold PyData.strOk
  rw [← Array.all_toList, List.all_eq_true]
  intro c hc
  have : c ≤ 122 := by
    rcases h.cs c hc with rfl | z
    · omega
    · exact (alpha_bd c z).2
  simp only [decide_eq_true_eq]
  omega
def wr (fs : List Str) : Str := ⟨(fs.flatMap fun f => 91 :: (TL.tl f ++ [93])).toArray⟩
theorem tl_wr (fs : List Str) : TL.tl (wr fs) = fs.flatMap fun f => 91 :: (TL.tl f ++ [93]) := rfl
theorem tl_e : TL.tl ("" : Str) = [] := by decide
theorem tl_o : TL.tl ("[" : Str) = [91] := by decide
theorem tl_c : TL.tl ("]" : Str) = [93] := by decide
theorem wr_nil : wr [] = "" := TL.ext_tl (by rw [tl_wr, tl_e]; rfl)
theorem wr_snoc (fs : List Str) (f : Str) : wr fs ++ "[" ++ f ++ "]" = wr (fs ++ [f]) := TL.ext_tl (by
  simp only [TL.tl_append, tl_wr, tl_o, tl_c, List.flatMap_append, List.flatMap_cons, List.flatMap_nil, List.append_nil, List.append_assoc, List.cons_append, List.nil_append])
theorem joinL_nil : ∀ l : List (List Nat), TL.joinL [] l = l.flatten
  | [] => rfl
  | [p] => by simp [TL.joinL]
  | p :: q :: r => by
    simp only [TL.joinL, joinL_nil (q :: r), List.nil_append, List.flatten_cons]
theorem wr_join (fs : List Str) : Txt.join "" (fs.map fun f => ("[" : Str) ++ f ++ "]") = wr fs := by
  rw [TL.join_eq]
  refine TL.ext_tl ?_
  rw [TL.tl_join, tl_e, joinL_nil, List.map_map, tl_wr]
  induction fs with
  | nil => rfl
  | cons f fs ih =>
    simp only [List.map_cons, List.flatten_cons, List.flatMap_cons, ih, Function.comp, TL.tl_append, tl_o, tl_c, List.cons_append, List.nil_append]
theorem joinL_c : ∀ fs : List Str, TL.joinL [93] ((fs.map fun f => ("[" : Str) ++ f).map TL.tl ++ [[]]) = fs.flatMap fun f => 91 :: (TL.tl f ++ [93])
  | [] => rfl
  | f :: fs => by
    have ih := joinL_c fs
    obtain ⟨y, ys, e⟩ : ∃ y ys, ((fs.map fun f => ("[" : Str) ++ f).map TL.tl ++ [[]] : List (List Nat)) = y :: ys := by
      cases h : ((fs.map fun f => ("[" : Str) ++ f).map TL.tl ++ [[]] : List (List Nat)) with
      | nil => simp at h
      | cons y ys => exact ⟨y, ys, rfl⟩
    simp only [List.map_cons, List.cons_append, List.flatMap_cons]
    rw [e] at ih ⊢
    simp only [TL.joinL]
    rw [ih, TL.tl_append, tl_o]
    simp only [List.cons_append, List.nil_append, List.append_assoc]
theorem wr_split {fs : List Str} (h : ∀ f ∈ fs, FrameU f) : Txt.split (wr fs) "]" = (fs.map fun f => ("[" : Str) ++ f) ++ [("" : Str)] := by
  have e : wr fs = Txt.join "]" ((fs.map fun f => ("[" : Str) ++ f) ++ [("" : Str)]) := by
    rw [TL.join_eq]
    refine TL.ext_tl ?_
    rw [TL.tl_join, tl_c, List.map_append, tl_wr, List.map_cons, List.map_nil, tl_e, joinL_c]
  rw [e]
  refine TL.split_join tl_c (by decide +kernel) (by simp) fun p hp => ?_
  rcases List.mem_append.mp hp with hp | hp
  · obtain ⟨f, hf, rfl⟩ := List.mem_map.mp hp
    rw [TL.tl_append, tl_o]
    simp only [List.cons_append, List.nil_append, List.mem_cons, not_or]
    exact ⟨by decide, (h f hf).no⟩
  · rw [List.mem_singleton.mp hp, tl_e]; simp
theorem wr_len : ∀ {fs : List Str}, (∀ f ∈ fs, FrameU f) → (wr fs).length ≤ 28 * fs.length
  | [], _ => by decide
  | f :: fs, h => by
    have ih := wr_len (fs := fs) fun g hg => h g (List.mem_cons_of_mem _ hg)
    have h1 : (TL.tl f).length ≤ 26 := (h f List.mem_cons_self).len
    have e : ∀ l : List Str, (wr l).length = (l.flatMap fun f => 91 :: (TL.tl f ++ [93])).length := fun l => rfl
    rw [e] at ih ⊢
    simp only [List.flatMap_cons, List.length_append, List.length_cons, List.length_nil]
    omega
theorem cut_init {α : Type} (xs : List α) (x : α) : cutD (xs ++ [x]) none (some (-1)) = xs := by
  unfold cutD
  rw [HT.sIx_none, HT.sIx]
  simp
  have e : (-1 + ((xs.length : Int) + 1)).toNat = xs.length := by omega
  rw [e, List.take_left]
theorem cut_tail {α : Type} (xs : List α) (x : α) : cutD (x :: xs) (some 1) none = xs := by
  unfold cutD
  rw [HT.sIx_none, show HT.sIx (x :: xs).length 0 (some 1) = 1 by unfold HT.sIx; simp]
  simp
theorem cut_str (f : Str) : (⟨(cutD (("[" : Str) ++ f).cps.toList (some 1) none).toArray⟩ : Str) = f := by
  refine TL.ext_tl ?_
  have e : (("[" : Str) ++ f).cps.toList = 91 :: TL.tl f := by
    rw [tl_u, TL.tl_append, tl_o]; rfl
  rw [e, cut_tail]
theorem canStrs : ∀ l : List Str, (∀ x ∈ l, PyData.strOk x = true) → PyData.canLayAll0 (l.map PyData.str) = true ∧ PyData.depthAll (l.map PyData.str) = 0
  | [], _ => ⟨rfl, rfl⟩
  | x :: l, h => by
    obtain ⟨h1, h2⟩ := canStrs l fun y hy => h y (List.mem_cons_of_mem _ hy)
    have h3 := h x List.mem_cons_self
    simp only [List.map_cons, PyData.canLayAll0, PyData.depthAll, PyData.canLay0, PyData.depth, h1, h2, h3, Bool.and_self]; exact ⟨trivial, rfl⟩
theorem pyU_strs (n : Nat) (l : List Str) : mapO (pyU (n + 1)) (l.map U.str) = some (l.map PyData.str) := mapO_map (fun _ => by simp only [pyU]) l
theorem shpU_lst {l : List Str} (h : ∀ x ∈ l, PyData.strOk x = true) : shpU (.lst (l.map .str)) = some (.list (l.map .str)) := by
  obtain ⟨h1, h2⟩ := canStrs l h
  unfold shpU
  have e : pyU 66 (.lst (l.map .str)) = some (.list (l.map .str)) := by simp only [pyU, pyU_strs, Option.map_some]
  rw [e]
  show (if SeqAt.shaped (.list (l.map .str)) = true then _ else _) = _
  rw [if_pos]
  unfold SeqAt.shaped
  simp only [PyData.canLay0, h1, Bool.true_and, decide_eq_true_eq, PyData.depth, h2]
  omega
theorem eqU_self {u : U} {p : PyData} (h : shpU u = some p) : eqU u u = some true := by
  have hc : p.canLay0 = true := by
    unfold shpU at h
    split at h
    · split at h
      · rename_i hs; cases h; exact SeqAt.canLay_of_shaped hs
      · cases h
    · cases h
  have e : (match shpU u, shpU u with | some p, some q => some (PyData.eqv p q) | _, _ => none) = some true := by
    rw [h]; simp only [SeqAt.eqv_refl p hc]
  cases u <;> first | exact e | (simp [eqU]; done)
theorem all_true (l : List U) : mapO asBU (l.filterMap fun _ => some (.bl true)) = some (l.map fun _ => true) := by
  induction l with
  | nil => rfl
  | cons a l ih => simp only [List.filterMap_cons, mapO, asBU, ih, List.map_cons]
theorem all_id (l : List U) : (l.map fun _ => true).all id = true := by simp
theorem sortC_id {l : List Nat} (h : l.Pairwise (· < ·)) : sortC l = l := by
  refine pw_uniq (r := fun a b => a < b) (fun a b h h' => by omega) ?_ h fun k => sortC_mem
  refine List.Pairwise.imp ?_ (sortS_pw (l := l) ltC1 ltC2)
  intro a b h
  simpa using h
theorem fm_brk : ∀ fs : List Str, (fs.map U.str).filterMap (fun u => match u with | .str f => some (U.str (("[" : Str) ++ f ++ "]")) | u => some u) = (fs.map fun f => ("[" : Str) ++ f ++ "]").map U.str
  | [] => rfl
  | f :: fs => by simp only [List.map_cons, List.filterMap_cons, fm_brk fs]
section
variable {Φ : Nat → List D → Hs → R D} {G : Nat → U} {W p k i : Nat} {Q : U → Bool → Nat → Prop} {Ex : ExT}
theorem are_letters_ok {g : Nat} {f : Str} (hG : G g = .str "abcdefghijklmnopqrstuvwxyz") (hf : (TL.tl f).Sublist alpha) (q : Q (.bl true) false k) : wpC (CallOk Φ p) G W (B_are_letters g) Ex [some (.str f, false), none] k (rtU Q) := by
  have hl : f.length ≤ 26 := FrameU.len (.inr hf)
  unfold B_are_letters
  simp only [wc_nil, wc_one, wc_set, wc_ife, wc_exp, wc_retv, wr_non, wr_bl, wr_int, wr_str, wr_glb, wr_tup, wr_lst, wr_bin, wr_neg, wr_nt, wr_cmp, wr_isN, wr_nsN, wr_chn, wr_and, wr_or, wr_ife, wr_cal, wr_bi, wr_isi, wr_mth, wr_ix, wr_sl, wr_rvs, wr_lc, wr_lrg, wc_retN, wc_pas, wc_brk, wc_cnt, wc_wip, wc_for, wc_aug, wc_put, nxU_nx, nxU_rt, nxU_bk, nxU_ct, rtU_nx, rtU_rt, retV_s, e_var, varW_o, varW_p, e_non, e_bl, e_int, e_str, e_glb, e_tup, e_lst, e_bin, e_neg, e_nt, e_cmp, e_isN, e_nsN, e_chn, e_and, e_or, e_ife, e_cal, e_bi, e_isi, e_ix, e_sl, e_rvs, e_lrg, e_join, e_app, e_ins, e_pop, e_ext, mthV_o, mthG_o, extG_o, joinG_1, rvsG_l, enmG_1, setG_o, ea_nil, ea_cons, em_nil, em_cons, eo_nil, eo_cons, ei_rng, ei_enm, ei_zip, ei_cons, brw_non, brw_bl, brw_int, brw_str, brw_glb, brw_tup, brw_lst, brw_bin, brw_neg, brw_nt, brw_cmp, brw_isN, brw_nsN, brw_chn, brw_and, brw_or, brw_ife, brw_cal, brw_bi, brw_isi, brw_mth, brw_ix, brw_sl, brw_rvs, brw_lc, brw_lrg, brw_var, brwV_o, brwV_p, resU_l, resU_r, slotU_s, ressU_nil, ressU_cons, opt2_s, got_some, got_if, decide_eq_true_eq, tstU_t, tstU_f, tstU_p, tstU_n, tstU_b, asIU_i, asBU_b, asSU_s, bu_add, bu_sub, bu_adds, bu_addt, bu_addl, bu_mod, bu_fdv, au_add, au_sub, cu_lt, cu_le, cu_gt, cu_ge, cu_eq, cu_ne, cu_in, cu_ni, equ_ii, equ_ss, biu_len, lenU_t, lenU_l, biu_int, biu_intb, biu_lists, biu_listt, biu_listl, biu_tupt, biu_tupl, biu_max, biu_min, biu_sets, biu_split, mu_app, mu_ext, mu_ins, ixu_t, ixu_l, slu_t, slu_l, srcu_t, srcu_l, srcu_s, rgu_1, rgu_2, zpu_t, zpu_l, wipeU_nil, wipeU_cons, obind_s, bindsU_nil, bindsU_cons, setsU_nil, isNU, Option.map_some, Option.bind_some, cnt_nil, cnt_cons, List.getElem?_cons_zero, List.getElem?_cons_succ, List.set_cons_zero, List.set_cons_succ, List.map_cons, List.map_nil, List.length_cons, List.length_nil, List.replicate_succ, List.replicate_zero, List.cons_append, List.nil_append, Bool.not_true, Bool.not_false, if_true, if_false, Nat.reduceAdd, Nat.reduceSub, Nat.reduceLT, Nat.reduceLeDiff, Int.reduceLT, Bool.false_eq_true, true_and, and_true, forall_const, tysAreU, tyIsU, Bool.or_false]
  rw [e_lc rfl rfl]
  (try simp only [wc_nil, wc_one, wc_set, wc_ife, wc_exp, wc_retv, wr_non, wr_bl, wr_int, wr_str, wr_glb, wr_tup, wr_lst, wr_bin, wr_neg, wr_nt, wr_cmp, wr_isN, wr_nsN, wr_chn, wr_and, wr_or, wr_ife, wr_cal, wr_bi, wr_isi, wr_mth, wr_ix, wr_sl, wr_rvs, wr_lc, wr_lrg, wc_retN, wc_pas, wc_brk, wc_cnt, wc_wip, wc_for, wc_aug, wc_put, nxU_nx, nxU_rt, nxU_bk, nxU_ct, rtU_nx, rtU_rt, retV_s, e_var, varW_o, varW_p, e_non, e_bl, e_int, e_str, e_glb, e_tup, e_lst, e_bin, e_neg, e_nt, e_cmp, e_isN, e_nsN, e_chn, e_and, e_or, e_ife, e_cal, e_bi, e_isi, e_ix, e_sl, e_rvs, e_lrg, e_join, e_app, e_ins, e_pop, e_ext, mthV_o, mthG_o, extG_o, joinG_1, rvsG_l, enmG_1, setG_o, ea_nil, ea_cons, em_nil, em_cons, eo_nil, eo_cons, ei_rng, ei_enm, ei_zip, ei_cons, brw_non, brw_bl, brw_int, brw_str, brw_glb, brw_tup, brw_lst, brw_bin, brw_neg, brw_nt, brw_cmp, brw_isN, brw_nsN, brw_chn, brw_and, brw_or, brw_ife, brw_cal, brw_bi, brw_isi, brw_mth, brw_ix, brw_sl, brw_rvs, brw_lc, brw_lrg, brw_var, brwV_o, brwV_p, resU_l, resU_r, slotU_s, ressU_nil, ressU_cons, opt2_s, got_some, got_if, decide_eq_true_eq, tstU_t, tstU_f, tstU_p, tstU_n, tstU_b, asIU_i, asBU_b, asSU_s, bu_add, bu_sub, bu_adds, bu_addt, bu_addl, bu_mod, bu_fdv, au_add, au_sub, cu_lt, cu_le, cu_gt, cu_ge, cu_eq, cu_ne, cu_in, cu_ni, equ_ii, equ_ss, biu_len, lenU_t, lenU_l, biu_int, biu_intb, biu_lists, biu_listt, biu_listl, biu_tupt, biu_tupl, biu_max, biu_min, biu_sets, biu_split, mu_app, mu_ext, mu_ins, ixu_t, ixu_l, slu_t, slu_l, srcu_t, srcu_l, srcu_s, rgu_1, rgu_2, zpu_t, zpu_l, wipeU_nil, wipeU_cons, obind_s, bindsU_nil, bindsU_cons, setsU_nil, isNU, Option.map_some, Option.bind_some, cnt_nil, cnt_cons, List.getElem?_cons_zero, List.getElem?_cons_succ, List.set_cons_zero, List.set_cons_succ, List.map_cons, List.map_nil, List.length_cons, List.length_nil, List.replicate_succ, List.replicate_zero, List.cons_append, List.nil_append, Bool.not_true, Bool.not_false, if_true, if_false, Nat.reduceAdd, Nat.reduceSub, Nat.reduceLT, Nat.reduceLeDiff, Int.reduceLT, Bool.false_eq_true, true_and, and_true, forall_const])
  refine lc_pure (fun _ => some (.bl true)) (fun u hu K hK => ?_) (fun σ1 h1 => ?_)
  · obtain ⟨c, hc, rfl⟩ := List.mem_map.mp hu
    rw [bindU_var (by simp [wipeU])]
    simp only [wc_nil, wc_one, wc_set, wc_ife, wc_exp, wc_retv, wr_non, wr_bl, wr_int, wr_str, wr_glb, wr_tup, wr_lst, wr_bin, wr_neg, wr_nt, wr_cmp, wr_isN, wr_nsN, wr_chn, wr_and, wr_or, wr_ife, wr_cal, wr_bi, wr_isi, wr_mth, wr_ix, wr_sl, wr_rvs, wr_lc, wr_lrg, wc_retN, wc_pas, wc_brk, wc_cnt, wc_wip, wc_for, wc_aug, wc_put, nxU_nx, nxU_rt, nxU_bk, nxU_ct, rtU_nx, rtU_rt, retV_s, e_var, varW_o, varW_p, e_non, e_bl, e_int, e_str, e_glb, e_tup, e_lst, e_bin, e_neg, e_nt, e_cmp, e_isN, e_nsN, e_chn, e_and, e_or, e_ife, e_cal, e_bi, e_isi, e_ix, e_sl, e_rvs, e_lrg, e_join, e_app, e_ins, e_pop, e_ext, mthV_o, mthG_o, extG_o, joinG_1, rvsG_l, enmG_1, setG_o, ea_nil, ea_cons, em_nil, em_cons, eo_nil, eo_cons, ei_rng, ei_enm, ei_zip, ei_cons, brw_non, brw_bl, brw_int, brw_str, brw_glb, brw_tup, brw_lst, brw_bin, brw_neg, brw_nt, brw_cmp, brw_isN, brw_nsN, brw_chn, brw_and, brw_or, brw_ife, brw_cal, brw_bi, brw_isi, brw_mth, brw_ix, brw_sl, brw_rvs, brw_lc, brw_lrg, brw_var, brwV_o, brwV_p, resU_l, resU_r, slotU_s, ressU_nil, ressU_cons, opt2_s, got_some, got_if, decide_eq_true_eq, tstU_t, tstU_f, tstU_p, tstU_n, tstU_b, asIU_i, asBU_b, asSU_s, bu_add, bu_sub, bu_adds, bu_addt, bu_addl, bu_mod, bu_fdv, au_add, au_sub, cu_lt, cu_le, cu_gt, cu_ge, cu_eq, cu_ne, cu_in, cu_ni, equ_ii, equ_ss, biu_len, lenU_t, lenU_l, biu_int, biu_intb, biu_lists, biu_listt, biu_listl, biu_tupt, biu_tupl, biu_max, biu_min, biu_sets, biu_split, mu_app, mu_ext, mu_ins, ixu_t, ixu_l, slu_t, slu_l, srcu_t, srcu_l, srcu_s, rgu_1, rgu_2, zpu_t, zpu_l, wipeU_nil, wipeU_cons, obind_s, bindsU_nil, bindsU_cons, setsU_nil, isNU, Option.map_some, Option.bind_some, cnt_nil, cnt_cons, List.getElem?_cons_zero, List.getElem?_cons_succ, List.set_cons_zero, List.set_cons_succ, List.map_cons, List.map_nil, List.length_cons, List.length_nil, List.replicate_succ, List.replicate_zero, List.cons_append, List.nil_append, Bool.not_true, Bool.not_false, if_true, if_false, Nat.reduceAdd, Nat.reduceSub, Nat.reduceLT, Nat.reduceLeDiff, Int.reduceLT, Bool.false_eq_true, true_and, and_true, forall_const, hG, alpha_in c (hf.subset hc)]
    exact hK _ rfl
  · simp only [wc_nil, wc_one, wc_set, wc_ife, wc_exp, wc_retv, wr_non, wr_bl, wr_int, wr_str, wr_glb, wr_tup, wr_lst, wr_bin, wr_neg, wr_nt, wr_cmp, wr_isN, wr_nsN, wr_chn, wr_and, wr_or, wr_ife, wr_cal, wr_bi, wr_isi, wr_mth, wr_ix, wr_sl, wr_rvs, wr_lc, wr_lrg, wc_retN, wc_pas, wc_brk, wc_cnt, wc_wip, wc_for, wc_aug, wc_put, nxU_nx, nxU_rt, nxU_bk, nxU_ct, rtU_nx, rtU_rt, retV_s, e_var, varW_o, varW_p, e_non, e_bl, e_int, e_str, e_glb, e_tup, e_lst, e_bin, e_neg, e_nt, e_cmp, e_isN, e_nsN, e_chn, e_and, e_or, e_ife, e_cal, e_bi, e_isi, e_ix, e_sl, e_rvs, e_lrg, e_join, e_app, e_ins, e_pop, e_ext, mthV_o, mthG_o, extG_o, joinG_1, rvsG_l, enmG_1, setG_o, ea_nil, ea_cons, em_nil, em_cons, eo_nil, eo_cons, ei_rng, ei_enm, ei_zip, ei_cons, brw_non, brw_bl, brw_int, brw_str, brw_glb, brw_tup, brw_lst, brw_bin, brw_neg, brw_nt, brw_cmp, brw_isN, brw_nsN, brw_chn, brw_and, brw_or, brw_ife, brw_cal, brw_bi, brw_isi, brw_mth, brw_ix, brw_sl, brw_rvs, brw_lc, brw_lrg, brw_var, brwV_o, brwV_p, resU_l, resU_r, slotU_s, ressU_nil, ressU_cons, opt2_s, got_some, got_if, decide_eq_true_eq, tstU_t, tstU_f, tstU_p, tstU_n, tstU_b, asIU_i, asBU_b, asSU_s, bu_add, bu_sub, bu_adds, bu_addt, bu_addl, bu_mod, bu_fdv, au_add, au_sub, cu_lt, cu_le, cu_gt, cu_ge, cu_eq, cu_ne, cu_in, cu_ni, equ_ii, equ_ss, biu_len, lenU_t, lenU_l, biu_int, biu_intb, biu_lists, biu_listt, biu_listl, biu_tupt, biu_tupl, biu_max, biu_min, biu_sets, biu_split, mu_app, mu_ext, mu_ins, ixu_t, ixu_l, slu_t, slu_l, srcu_t, srcu_l, srcu_s, rgu_1, rgu_2, zpu_t, zpu_l, wipeU_nil, wipeU_cons, obind_s, bindsU_nil, bindsU_cons, setsU_nil, isNU, Option.map_some, Option.bind_some, cnt_nil, cnt_cons, List.getElem?_cons_zero, List.getElem?_cons_succ, List.set_cons_zero, List.set_cons_succ, List.map_cons, List.map_nil, List.length_cons, List.length_nil, List.replicate_succ, List.replicate_zero, List.cons_append, List.nil_append, Bool.not_true, Bool.not_false, if_true, if_false, Nat.reduceAdd, Nat.reduceSub, Nat.reduceLT, Nat.reduceLeDiff, Int.reduceLT, Bool.false_eq_true, true_and, and_true, forall_const, biu_all, all_true, all_id]
    refine ⟨?_, q⟩
    unfold signsU
    rw [List.length_map, sizeLine_eq]
    exact Nat.le_trans hl (by decide)
def LettersUOk (Φ : Nat → List D → Hs → R D) (p i : Nat) : Prop := ∀ (f : Str) (k : Nat) (Q : U → Bool → Nat → Prop) (Ex : ExT), (TL.tl f).Sublist alpha → Q (.bl true) false k → CallOk Φ p i [.str f] k Q Ex
theorem is_frame_ok {c : Nat} {f : Str} (hc : LettersUOk Φ p c) (hf : FrameU f) (q : Q (.bl true) false k) : wpC (CallOk Φ p) G W (B_is_frame c) Ex [some (.str f, false)] k (rtU Q) := by
  have hl := hf.len
  unfold B_is_frame
  refine wc_step fun K hK => ?_
  simp only [wc_nil, wc_one, wc_set, wc_ife, wc_exp, wc_retv, wr_non, wr_bl, wr_int, wr_str, wr_glb, wr_tup, wr_lst, wr_bin, wr_neg, wr_nt, wr_cmp, wr_isN, wr_nsN, wr_chn, wr_and, wr_or, wr_ife, wr_cal, wr_bi, wr_isi, wr_mth, wr_ix, wr_sl, wr_rvs, wr_lc, wr_lrg, wc_retN, wc_pas, wc_brk, wc_cnt, wc_wip, wc_for, wc_aug, wc_put, nxU_nx, nxU_rt, nxU_bk, nxU_ct, rtU_nx, rtU_rt, retV_s, e_var, varW_o, varW_p, e_non, e_bl, e_int, e_str, e_glb, e_tup, e_lst, e_bin, e_neg, e_nt, e_cmp, e_isN, e_nsN, e_chn, e_and, e_or, e_ife, e_cal, e_bi, e_isi, e_ix, e_sl, e_rvs, e_lrg, e_join, e_app, e_ins, e_pop, e_ext, mthV_o, mthG_o, extG_o, joinG_1, rvsG_l, enmG_1, setG_o, ea_nil, ea_cons, em_nil, em_cons, eo_nil, eo_cons, ei_rng, ei_enm, ei_zip, ei_cons, brw_non, brw_bl, brw_int, brw_str, brw_glb, brw_tup, brw_lst, brw_bin, brw_neg, brw_nt, brw_cmp, brw_isN, brw_nsN, brw_chn, brw_and, brw_or, brw_ife, brw_cal, brw_bi, brw_isi, brw_mth, brw_ix, brw_sl, brw_rvs, brw_lc, brw_lrg, brw_var, brwV_o, brwV_p, resU_l, resU_r, slotU_s, ressU_nil, ressU_cons, opt2_s, got_some, got_if, decide_eq_true_eq, tstU_t, tstU_f, tstU_p, tstU_n, tstU_b, asIU_i, asBU_b, asSU_s, bu_add, bu_sub, bu_adds, bu_addt, bu_addl, bu_mod, bu_fdv, au_add, au_sub, cu_lt, cu_le, cu_gt, cu_ge, cu_eq, cu_ne, cu_in, cu_ni, equ_ii, equ_ss, biu_len, lenU_t, lenU_l, biu_int, biu_intb, biu_lists, biu_listt, biu_listl, biu_tupt, biu_tupl, biu_max, biu_min, biu_sets, biu_split, mu_app, mu_ext, mu_ins, ixu_t, ixu_l, slu_t, slu_l, srcu_t, srcu_l, srcu_s, rgu_1, rgu_2, zpu_t, zpu_l, wipeU_nil, wipeU_cons, obind_s, bindsU_nil, bindsU_cons, setsU_nil, isNU, Option.map_some, Option.bind_some, cnt_nil, cnt_cons, List.getElem?_cons_zero, List.getElem?_cons_succ, List.set_cons_zero, List.set_cons_succ, List.map_cons, List.map_nil, List.length_cons, List.length_nil, List.replicate_succ, List.replicate_zero, List.cons_append, List.nil_append, Bool.not_true, Bool.not_false, if_true, if_false, Nat.reduceAdd, Nat.reduceSub, Nat.reduceLT, Nat.reduceLeDiff, Int.reduceLT, Bool.false_eq_true, true_and, and_true, forall_const, tysAreU, tyIsU, Bool.or_false]
  by_cases h : f = "?"
  · rw [if_pos h]; exact q
  · rw [if_neg h]
    have hs : (TL.tl f).Sublist alpha := hf.resolve_left h
    refine hK _ _ ?_
    (try simp only [wc_nil, wc_one, wc_set, wc_ife, wc_exp, wc_retv, wr_non, wr_bl, wr_int, wr_str, wr_glb, wr_tup, wr_lst, wr_bin, wr_neg, wr_nt, wr_cmp, wr_isN, wr_nsN, wr_chn, wr_and, wr_or, wr_ife, wr_cal, wr_bi, wr_isi, wr_mth, wr_ix, wr_sl, wr_rvs, wr_lc, wr_lrg, wc_retN, wc_pas, wc_brk, wc_cnt, wc_wip, wc_for, wc_aug, wc_put, nxU_nx, nxU_rt, nxU_bk, nxU_ct, rtU_nx, rtU_rt, retV_s, e_var, varW_o, varW_p, e_non, e_bl, e_int, e_str, e_glb, e_tup, e_lst, e_bin, e_neg, e_nt, e_cmp, e_isN, e_nsN, e_chn, e_and, e_or, e_ife, e_cal, e_bi, e_isi, e_ix, e_sl, e_rvs, e_lrg, e_join, e_app, e_ins, e_pop, e_ext, mthV_o, mthG_o, extG_o, joinG_1, rvsG_l, enmG_1, setG_o, ea_nil, ea_cons, em_nil, em_cons, eo_nil, eo_cons, ei_rng, ei_enm, ei_zip, ei_cons, brw_non, brw_bl, brw_int, brw_str, brw_glb, brw_tup, brw_lst, brw_bin, brw_neg, brw_nt, brw_cmp, brw_isN, brw_nsN, brw_chn, brw_and, brw_or, brw_ife, brw_cal, brw_bi, brw_isi, brw_mth, brw_ix, brw_sl, brw_rvs, brw_lc, brw_lrg, brw_var, brwV_o, brwV_p, resU_l, resU_r, slotU_s, ressU_nil, ressU_cons, opt2_s, got_some, got_if, decide_eq_true_eq, tstU_t, tstU_f, tstU_p, tstU_n, tstU_b, asIU_i, asBU_b, asSU_s, bu_add, bu_sub, bu_adds, bu_addt, bu_addl, bu_mod, bu_fdv, au_add, au_sub, cu_lt, cu_le, cu_gt, cu_ge, cu_eq, cu_ne, cu_in, cu_ni, equ_ii, equ_ss, biu_len, lenU_t, lenU_l, biu_int, biu_intb, biu_lists, biu_listt, biu_listl, biu_tupt, biu_tupl, biu_max, biu_min, biu_sets, biu_split, mu_app, mu_ext, mu_ins, ixu_t, ixu_l, slu_t, slu_l, srcu_t, srcu_l, srcu_s, rgu_1, rgu_2, zpu_t, zpu_l, wipeU_nil, wipeU_cons, obind_s, bindsU_nil, bindsU_cons, setsU_nil, isNU, Option.map_some, Option.bind_some, cnt_nil, cnt_cons, List.getElem?_cons_zero, List.getElem?_cons_succ, List.set_cons_zero, List.set_cons_succ, List.map_cons, List.map_nil, List.length_cons, List.length_nil, List.replicate_succ, List.replicate_zero, List.cons_append, List.nil_append, Bool.not_true, Bool.not_false, if_true, if_false, Nat.reduceAdd, Nat.reduceSub, Nat.reduceLT, Nat.reduceLeDiff, Int.reduceLT, Bool.false_eq_true, true_and, and_true, forall_const])
    refine hc _ _ _ _ hs ?_
    (try simp only [wc_nil, wc_one, wc_set, wc_ife, wc_exp, wc_retv, wr_non, wr_bl, wr_int, wr_str, wr_glb, wr_tup, wr_lst, wr_bin, wr_neg, wr_nt, wr_cmp, wr_isN, wr_nsN, wr_chn, wr_and, wr_or, wr_ife, wr_cal, wr_bi, wr_isi, wr_mth, wr_ix, wr_sl, wr_rvs, wr_lc, wr_lrg, wc_retN, wc_pas, wc_brk, wc_cnt, wc_wip, wc_for, wc_aug, wc_put, nxU_nx, nxU_rt, nxU_bk, nxU_ct, rtU_nx, rtU_rt, retV_s, e_var, varW_o, varW_p, e_non, e_bl, e_int, e_str, e_glb, e_tup, e_lst, e_bin, e_neg, e_nt, e_cmp, e_isN, e_nsN, e_chn, e_and, e_or, e_ife, e_cal, e_bi, e_isi, e_ix, e_sl, e_rvs, e_lrg, e_join, e_app, e_ins, e_pop, e_ext, mthV_o, mthG_o, extG_o, joinG_1, rvsG_l, enmG_1, setG_o, ea_nil, ea_cons, em_nil, em_cons, eo_nil, eo_cons, ei_rng, ei_enm, ei_zip, ei_cons, brw_non, brw_bl, brw_int, brw_str, brw_glb, brw_tup, brw_lst, brw_bin, brw_neg, brw_nt, brw_cmp, brw_isN, brw_nsN, brw_chn, brw_and, brw_or, brw_ife, brw_cal, brw_bi, brw_isi, brw_mth, brw_ix, brw_sl, brw_rvs, brw_lc, brw_lrg, brw_var, brwV_o, brwV_p, resU_l, resU_r, slotU_s, ressU_nil, ressU_cons, opt2_s, got_some, got_if, decide_eq_true_eq, tstU_t, tstU_f, tstU_p, tstU_n, tstU_b, asIU_i, asBU_b, asSU_s, bu_add, bu_sub, bu_adds, bu_addt, bu_addl, bu_mod, bu_fdv, au_add, au_sub, cu_lt, cu_le, cu_gt, cu_ge, cu_eq, cu_ne, cu_in, cu_ni, equ_ii, equ_ss, biu_len, lenU_t, lenU_l, biu_int, biu_intb, biu_lists, biu_listt, biu_listl, biu_tupt, biu_tupl, biu_max, biu_min, biu_sets, biu_split, mu_app, mu_ext, mu_ins, ixu_t, ixu_l, slu_t, slu_l, srcu_t, srcu_l, srcu_s, rgu_1, rgu_2, zpu_t, zpu_l, wipeU_nil, wipeU_cons, obind_s, bindsU_nil, bindsU_cons, setsU_nil, isNU, Option.map_some, Option.bind_some, cnt_nil, cnt_cons, List.getElem?_cons_zero, List.getElem?_cons_succ, List.set_cons_zero, List.set_cons_succ, List.map_cons, List.map_nil, List.length_cons, List.length_nil, List.replicate_succ, List.replicate_zero, List.cons_append, List.nil_append, Bool.not_true, Bool.not_false, if_true, if_false, Nat.reduceAdd, Nat.reduceSub, Nat.reduceLT, Nat.reduceLeDiff, Int.reduceLT, Bool.false_eq_true, true_and, and_true, forall_const])
    refine ⟨by rw [sizeLine_eq]; omega, ?_⟩
    have hl2 : f.length + 1 < 4096 := by omega
    refine ⟨hl2, ?_⟩
    rw [tl_u, sortC_id (alpha_lt.sublist hs)]
    have e : signsU f = ((TL.tl f).map fun c => (⟨#[c]⟩ : Str)).map U.str := by rw [List.map_map]; rfl
    have e2 : ((TL.tl f).map fun c => U.str ⟨#[c]⟩) = ((TL.tl f).map fun c => (⟨#[c]⟩ : Str)).map U.str := by rw [List.map_map]; rfl
    rw [e, e2, eqU_self (shpU_lst fun x hx => ?_)]
    · simp only [wc_nil, wc_one, wc_set, wc_ife, wc_exp, wc_retv, wr_non, wr_bl, wr_int, wr_str, wr_glb, wr_tup, wr_lst, wr_bin, wr_neg, wr_nt, wr_cmp, wr_isN, wr_nsN, wr_chn, wr_and, wr_or, wr_ife, wr_cal, wr_bi, wr_isi, wr_mth, wr_ix, wr_sl, wr_rvs, wr_lc, wr_lrg, wc_retN, wc_pas, wc_brk, wc_cnt, wc_wip, wc_for, wc_aug, wc_put, nxU_nx, nxU_rt, nxU_bk, nxU_ct, rtU_nx, rtU_rt, retV_s, e_var, varW_o, varW_p, e_non, e_bl, e_int, e_str, e_glb, e_tup, e_lst, e_bin, e_neg, e_nt, e_cmp, e_isN, e_nsN, e_chn, e_and, e_or, e_ife, e_cal, e_bi, e_isi, e_ix, e_sl, e_rvs, e_lrg, e_join, e_app, e_ins, e_pop, e_ext, mthV_o, mthG_o, extG_o, joinG_1, rvsG_l, enmG_1, setG_o, ea_nil, ea_cons, em_nil, em_cons, eo_nil, eo_cons, ei_rng, ei_enm, ei_zip, ei_cons, brw_non, brw_bl, brw_int, brw_str, brw_glb, brw_tup, brw_lst, brw_bin, brw_neg, brw_nt, brw_cmp, brw_isN, brw_nsN, brw_chn, brw_and, brw_or, brw_ife, brw_cal, brw_bi, brw_isi, brw_mth, brw_ix, brw_sl, brw_rvs, brw_lc, brw_lrg, brw_var, brwV_o, brwV_p, resU_l, resU_r, slotU_s, ressU_nil, ressU_cons, opt2_s, got_some, got_if, decide_eq_true_eq, tstU_t, tstU_f, tstU_p, tstU_n, tstU_b, asIU_i, asBU_b, asSU_s, bu_add, bu_sub, bu_adds, bu_addt, bu_addl, bu_mod, bu_fdv, au_add, au_sub, cu_lt, cu_le, cu_gt, cu_ge, cu_eq, cu_ne, cu_in, cu_ni, equ_ii, equ_ss, biu_len, lenU_t, lenU_l, biu_int, biu_intb, biu_lists, biu_listt, biu_listl, biu_tupt, biu_tupl, biu_max, biu_min, biu_sets, biu_split, mu_app, mu_ext, mu_ins, ixu_t, ixu_l, slu_t, slu_l, srcu_t, srcu_l, srcu_s, rgu_1, rgu_2, zpu_t, zpu_l, wipeU_nil, wipeU_cons, obind_s, bindsU_nil, bindsU_cons, setsU_nil, isNU, Option.map_some, Option.bind_some, cnt_nil, cnt_cons, List.getElem?_cons_zero, List.getElem?_cons_succ, List.set_cons_zero, List.set_cons_succ, List.map_cons, List.map_nil, List.length_cons, List.length_nil, List.replicate_succ, List.replicate_zero, List.cons_append, List.nil_append, Bool.not_true, Bool.not_false, if_true, if_false, Nat.reduceAdd, Nat.reduceSub, Nat.reduceLT, Nat.reduceLeDiff, Int.reduceLT, Bool.false_eq_true, true_and, and_true, forall_const]; exact q
    · obtain ⟨c, hc, rfl⟩ := List.mem_map.mp hx
      have := (alpha_bd c (hs.subset hc)).2
      unfold PyData.strOk
      simp
      omega
def FrameOk (Φ : Nat → List D → Hs → R D) (p i : Nat) : Prop := ∀ (f : Str) (k : Nat) (Q : U → Bool → Nat → Prop) (Ex : ExT), FrameU f → Q (.bl true) false k → CallOk Φ p i [.str f] k Q Ex
theorem is_tape_ok {c g : Nat} {fs : List Str} (hG : G g = .int 16) (hc : FrameOk Φ p c) (hl : fs.length ≤ 16) (hf : ∀ f ∈ fs, FrameU f) (q : Q (.bl true) false k) : wpC (CallOk Φ p) G W (B_is_tape c g) Ex [some (.tup (fs.map .str), false), none] k (rtU Q) := by
  unfold B_is_tape
  have hz : ((List.length fs : Nat) : Int) ≤ 16 := by omega
  simp only [wc_nil, wc_one, wc_set, wc_ife, wc_exp, wc_retv, wr_non, wr_bl, wr_int, wr_str, wr_glb, wr_tup, wr_lst, wr_bin, wr_neg, wr_nt, wr_cmp, wr_isN, wr_nsN, wr_chn, wr_and, wr_or, wr_ife, wr_cal, wr_bi, wr_isi, wr_mth, wr_ix, wr_sl, wr_rvs, wr_lc, wr_lrg, wc_retN, wc_pas, wc_brk, wc_cnt, wc_wip, wc_for, wc_aug, wc_put, nxU_nx, nxU_rt, nxU_bk, nxU_ct, rtU_nx, rtU_rt, retV_s, e_var, varW_o, varW_p, e_non, e_bl, e_int, e_str, e_glb, e_tup, e_lst, e_bin, e_neg, e_nt, e_cmp, e_isN, e_nsN, e_chn, e_and, e_or, e_ife, e_cal, e_bi, e_isi, e_ix, e_sl, e_rvs, e_lrg, e_join, e_app, e_ins, e_pop, e_ext, mthV_o, mthG_o, extG_o, joinG_1, rvsG_l, enmG_1, setG_o, ea_nil, ea_cons, em_nil, em_cons, eo_nil, eo_cons, ei_rng, ei_enm, ei_zip, ei_cons, brw_non, brw_bl, brw_int, brw_str, brw_glb, brw_tup, brw_lst, brw_bin, brw_neg, brw_nt, brw_cmp, brw_isN, brw_nsN, brw_chn, brw_and, brw_or, brw_ife, brw_cal, brw_bi, brw_isi, brw_mth, brw_ix, brw_sl, brw_rvs, brw_lc, brw_lrg, brw_var, brwV_o, brwV_p, resU_l, resU_r, slotU_s, ressU_nil, ressU_cons, opt2_s, got_some, got_if, decide_eq_true_eq, tstU_t, tstU_f, tstU_p, tstU_n, tstU_b, asIU_i, asBU_b, asSU_s, bu_add, bu_sub, bu_adds, bu_addt, bu_addl, bu_mod, bu_fdv, au_add, au_sub, cu_lt, cu_le, cu_gt, cu_ge, cu_eq, cu_ne, cu_in, cu_ni, equ_ii, equ_ss, biu_len, lenU_t, lenU_l, biu_int, biu_intb, biu_lists, biu_listt, biu_listl, biu_tupt, biu_tupl, biu_max, biu_min, biu_sets, biu_split, mu_app, mu_ext, mu_ins, ixu_t, ixu_l, slu_t, slu_l, srcu_t, srcu_l, srcu_s, rgu_1, rgu_2, zpu_t, zpu_l, wipeU_nil, wipeU_cons, obind_s, bindsU_nil, bindsU_cons, setsU_nil, isNU, Option.map_some, Option.bind_some, cnt_nil, cnt_cons, List.getElem?_cons_zero, List.getElem?_cons_succ, List.set_cons_zero, List.set_cons_succ, List.map_cons, List.map_nil, List.length_cons, List.length_nil, List.replicate_succ, List.replicate_zero, List.cons_append, List.nil_append, Bool.not_true, Bool.not_false, if_true, if_false, Nat.reduceAdd, Nat.reduceSub, Nat.reduceLT, Nat.reduceLeDiff, Int.reduceLT, Bool.false_eq_true, true_and, and_true, forall_const, tysAreU, tyIsU, Bool.or_false, hG, List.length_map, if_pos hz]
  rw [e_lc rfl rfl]
  (try simp only [wc_nil, wc_one, wc_set, wc_ife, wc_exp, wc_retv, wr_non, wr_bl, wr_int, wr_str, wr_glb, wr_tup, wr_lst, wr_bin, wr_neg, wr_nt, wr_cmp, wr_isN, wr_nsN, wr_chn, wr_and, wr_or, wr_ife, wr_cal, wr_bi, wr_isi, wr_mth, wr_ix, wr_sl, wr_rvs, wr_lc, wr_lrg, wc_retN, wc_pas, wc_brk, wc_cnt, wc_wip, wc_for, wc_aug, wc_put, nxU_nx, nxU_rt, nxU_bk, nxU_ct, rtU_nx, rtU_rt, retV_s, e_var, varW_o, varW_p, e_non, e_bl, e_int, e_str, e_glb, e_tup, e_lst, e_bin, e_neg, e_nt, e_cmp, e_isN, e_nsN, e_chn, e_and, e_or, e_ife, e_cal, e_bi, e_isi, e_ix, e_sl, e_rvs, e_lrg, e_join, e_app, e_ins, e_pop, e_ext, mthV_o, mthG_o, extG_o, joinG_1, rvsG_l, enmG_1, setG_o, ea_nil, ea_cons, em_nil, em_cons, eo_nil, eo_cons, ei_rng, ei_enm, ei_zip, ei_cons, brw_non, brw_bl, brw_int, brw_str, brw_glb, brw_tup, brw_lst, brw_bin, brw_neg, brw_nt, brw_cmp, brw_isN, brw_nsN, brw_chn, brw_and, brw_or, brw_ife, brw_cal, brw_bi, brw_isi, brw_mth, brw_ix, brw_sl, brw_rvs, brw_lc, brw_lrg, brw_var, brwV_o, brwV_p, resU_l, resU_r, slotU_s, ressU_nil, ressU_cons, opt2_s, got_some, got_if, decide_eq_true_eq, tstU_t, tstU_f, tstU_p, tstU_n, tstU_b, asIU_i, asBU_b, asSU_s, bu_add, bu_sub, bu_adds, bu_addt, bu_addl, bu_mod, bu_fdv, au_add, au_sub, cu_lt, cu_le, cu_gt, cu_ge, cu_eq, cu_ne, cu_in, cu_ni, equ_ii, equ_ss, biu_len, lenU_t, lenU_l, biu_int, biu_intb, biu_lists, biu_listt, biu_listl, biu_tupt, biu_tupl, biu_max, biu_min, biu_sets, biu_split, mu_app, mu_ext, mu_ins, ixu_t, ixu_l, slu_t, slu_l, srcu_t, srcu_l, srcu_s, rgu_1, rgu_2, zpu_t, zpu_l, wipeU_nil, wipeU_cons, obind_s, bindsU_nil, bindsU_cons, setsU_nil, isNU, Option.map_some, Option.bind_some, cnt_nil, cnt_cons, List.getElem?_cons_zero, List.getElem?_cons_succ, List.set_cons_zero, List.set_cons_succ, List.map_cons, List.map_nil, List.length_cons, List.length_nil, List.replicate_succ, List.replicate_zero, List.cons_append, List.nil_append, Bool.not_true, Bool.not_false, if_true, if_false, Nat.reduceAdd, Nat.reduceSub, Nat.reduceLT, Nat.reduceLeDiff, Int.reduceLT, Bool.false_eq_true, true_and, and_true, forall_const])
  refine lc_pure (fun _ => some (.bl true)) (fun u hu K hK => ?_) (fun σ1 h1 => ?_)
  · obtain ⟨f, hm, rfl⟩ := List.mem_map.mp hu
    rw [bindU_var (by simp [wipeU])]
    (try simp only [wc_nil, wc_one, wc_set, wc_ife, wc_exp, wc_retv, wr_non, wr_bl, wr_int, wr_str, wr_glb, wr_tup, wr_lst, wr_bin, wr_neg, wr_nt, wr_cmp, wr_isN, wr_nsN, wr_chn, wr_and, wr_or, wr_ife, wr_cal, wr_bi, wr_isi, wr_mth, wr_ix, wr_sl, wr_rvs, wr_lc, wr_lrg, wc_retN, wc_pas, wc_brk, wc_cnt, wc_wip, wc_for, wc_aug, wc_put, nxU_nx, nxU_rt, nxU_bk, nxU_ct, rtU_nx, rtU_rt, retV_s, e_var, varW_o, varW_p, e_non, e_bl, e_int, e_str, e_glb, e_tup, e_lst, e_bin, e_neg, e_nt, e_cmp, e_isN, e_nsN, e_chn, e_and, e_or, e_ife, e_cal, e_bi, e_isi, e_ix, e_sl, e_rvs, e_lrg, e_join, e_app, e_ins, e_pop, e_ext, mthV_o, mthG_o, extG_o, joinG_1, rvsG_l, enmG_1, setG_o, ea_nil, ea_cons, em_nil, em_cons, eo_nil, eo_cons, ei_rng, ei_enm, ei_zip, ei_cons, brw_non, brw_bl, brw_int, brw_str, brw_glb, brw_tup, brw_lst, brw_bin, brw_neg, brw_nt, brw_cmp, brw_isN, brw_nsN, brw_chn, brw_and, brw_or, brw_ife, brw_cal, brw_bi, brw_isi, brw_mth, brw_ix, brw_sl, brw_rvs, brw_lc, brw_lrg, brw_var, brwV_o, brwV_p, resU_l, resU_r, slotU_s, ressU_nil, ressU_cons, opt2_s, got_some, got_if, decide_eq_true_eq, tstU_t, tstU_f, tstU_p, tstU_n, tstU_b, asIU_i, asBU_b, asSU_s, bu_add, bu_sub, bu_adds, bu_addt, bu_addl, bu_mod, bu_fdv, au_add, au_sub, cu_lt, cu_le, cu_gt, cu_ge, cu_eq, cu_ne, cu_in, cu_ni, equ_ii, equ_ss, biu_len, lenU_t, lenU_l, biu_int, biu_intb, biu_lists, biu_listt, biu_listl, biu_tupt, biu_tupl, biu_max, biu_min, biu_sets, biu_split, mu_app, mu_ext, mu_ins, ixu_t, ixu_l, slu_t, slu_l, srcu_t, srcu_l, srcu_s, rgu_1, rgu_2, zpu_t, zpu_l, wipeU_nil, wipeU_cons, obind_s, bindsU_nil, bindsU_cons, setsU_nil, isNU, Option.map_some, Option.bind_some, cnt_nil, cnt_cons, List.getElem?_cons_zero, List.getElem?_cons_succ, List.set_cons_zero, List.set_cons_succ, List.map_cons, List.map_nil, List.length_cons, List.length_nil, List.replicate_succ, List.replicate_zero, List.cons_append, List.nil_append, Bool.not_true, Bool.not_false, if_true, if_false, Nat.reduceAdd, Nat.reduceSub, Nat.reduceLT, Nat.reduceLeDiff, Int.reduceLT, Bool.false_eq_true, true_and, and_true, forall_const])
    exact hc _ _ _ _ (hf f hm) (hK _ rfl)
  · simp only [wc_nil, wc_one, wc_set, wc_ife, wc_exp, wc_retv, wr_non, wr_bl, wr_int, wr_str, wr_glb, wr_tup, wr_lst, wr_bin, wr_neg, wr_nt, wr_cmp, wr_isN, wr_nsN, wr_chn, wr_and, wr_or, wr_ife, wr_cal, wr_bi, wr_isi, wr_mth, wr_ix, wr_sl, wr_rvs, wr_lc, wr_lrg, wc_retN, wc_pas, wc_brk, wc_cnt, wc_wip, wc_for, wc_aug, wc_put, nxU_nx, nxU_rt, nxU_bk, nxU_ct, rtU_nx, rtU_rt, retV_s, e_var, varW_o, varW_p, e_non, e_bl, e_int, e_str, e_glb, e_tup, e_lst, e_bin, e_neg, e_nt, e_cmp, e_isN, e_nsN, e_chn, e_and, e_or, e_ife, e_cal, e_bi, e_isi, e_ix, e_sl, e_rvs, e_lrg, e_join, e_app, e_ins, e_pop, e_ext, mthV_o, mthG_o, extG_o, joinG_1, rvsG_l, enmG_1, setG_o, ea_nil, ea_cons, em_nil, em_cons, eo_nil, eo_cons, ei_rng, ei_enm, ei_zip, ei_cons, brw_non, brw_bl, brw_int, brw_str, brw_glb, brw_tup, brw_lst, brw_bin, brw_neg, brw_nt, brw_cmp, brw_isN, brw_nsN, brw_chn, brw_and, brw_or, brw_ife, brw_cal, brw_bi, brw_isi, brw_mth, brw_ix, brw_sl, brw_rvs, brw_lc, brw_lrg, brw_var, brwV_o, brwV_p, resU_l, resU_r, slotU_s, ressU_nil, ressU_cons, opt2_s, got_some, got_if, decide_eq_true_eq, tstU_t, tstU_f, tstU_p, tstU_n, tstU_b, asIU_i, asBU_b, asSU_s, bu_add, bu_sub, bu_adds, bu_addt, bu_addl, bu_mod, bu_fdv, au_add, au_sub, cu_lt, cu_le, cu_gt, cu_ge, cu_eq, cu_ne, cu_in, cu_ni, equ_ii, equ_ss, biu_len, lenU_t, lenU_l, biu_int, biu_intb, biu_lists, biu_listt, biu_listl, biu_tupt, biu_tupl, biu_max, biu_min, biu_sets, biu_split, mu_app, mu_ext, mu_ins, ixu_t, ixu_l, slu_t, slu_l, srcu_t, srcu_l, srcu_s, rgu_1, rgu_2, zpu_t, zpu_l, wipeU_nil, wipeU_cons, obind_s, bindsU_nil, bindsU_cons, setsU_nil, isNU, Option.map_some, Option.bind_some, cnt_nil, cnt_cons, List.getElem?_cons_zero, List.getElem?_cons_succ, List.set_cons_zero, List.set_cons_succ, List.map_cons, List.map_nil, List.length_cons, List.length_nil, List.replicate_succ, List.replicate_zero, List.cons_append, List.nil_append, Bool.not_true, Bool.not_false, if_true, if_false, Nat.reduceAdd, Nat.reduceSub, Nat.reduceLT, Nat.reduceLeDiff, Int.reduceLT, Bool.false_eq_true, true_and, and_true, forall_const, biu_all, all_true, all_id, List.length_map]
    exact ⟨by rw [sizeLine_eq]; omega, q⟩
def TapeOk (Φ : Nat → List D → Hs → R D) (p i : Nat) : Prop := ∀ (fs : List Str) (k : Nat) (Q : U → Bool → Nat → Prop) (Ex : ExT), fs.length ≤ 16 → (∀ f ∈ fs, FrameU f) → Q (.bl true) false k → CallOk Φ p i [.tup (fs.map .str)] k Q Ex
theorem write_tape_ok {fs : List Str} (hl : fs.length ≤ 16) (hf : ∀ f ∈ fs, FrameU f) (q : Q (.str (wr fs)) false k) : wpC (CallOk Φ p) G W B_write_tape Ex [some (.tup (fs.map .str), false), none] k (rtU Q) := by
  unfold B_write_tape
  (try simp only [wc_nil, wc_one, wc_set, wc_ife, wc_exp, wc_retv, wr_non, wr_bl, wr_int, wr_str, wr_glb, wr_tup, wr_lst, wr_bin, wr_neg, wr_nt, wr_cmp, wr_isN, wr_nsN, wr_chn, wr_and, wr_or, wr_ife, wr_cal, wr_bi, wr_isi, wr_mth, wr_ix, wr_sl, wr_rvs, wr_lc, wr_lrg, wc_retN, wc_pas, wc_brk, wc_cnt, wc_wip, wc_for, wc_aug, wc_put, nxU_nx, nxU_rt, nxU_bk, nxU_ct, rtU_nx, rtU_rt, retV_s, e_var, varW_o, varW_p, e_non, e_bl, e_int, e_str, e_glb, e_tup, e_lst, e_bin, e_neg, e_nt, e_cmp, e_isN, e_nsN, e_chn, e_and, e_or, e_ife, e_cal, e_bi, e_isi, e_ix, e_sl, e_rvs, e_lrg, e_join, e_app, e_ins, e_pop, e_ext, mthV_o, mthG_o, extG_o, joinG_1, rvsG_l, enmG_1, setG_o, ea_nil, ea_cons, em_nil, em_cons, eo_nil, eo_cons, ei_rng, ei_enm, ei_zip, ei_cons, brw_non, brw_bl, brw_int, brw_str, brw_glb, brw_tup, brw_lst, brw_bin, brw_neg, brw_nt, brw_cmp, brw_isN, brw_nsN, brw_chn, brw_and, brw_or, brw_ife, brw_cal, brw_bi, brw_isi, brw_mth, brw_ix, brw_sl, brw_rvs, brw_lc, brw_lrg, brw_var, brwV_o, brwV_p, resU_l, resU_r, slotU_s, ressU_nil, ressU_cons, opt2_s, got_some, got_if, decide_eq_true_eq, tstU_t, tstU_f, tstU_p, tstU_n, tstU_b, asIU_i, asBU_b, asSU_s, bu_add, bu_sub, bu_adds, bu_addt, bu_addl, bu_mod, bu_fdv, au_add, au_sub, cu_lt, cu_le, cu_gt, cu_ge, cu_eq, cu_ne, cu_in, cu_ni, equ_ii, equ_ss, biu_len, lenU_t, lenU_l, biu_int, biu_intb, biu_lists, biu_listt, biu_listl, biu_tupt, biu_tupl, biu_max, biu_min, biu_sets, biu_split, mu_app, mu_ext, mu_ins, ixu_t, ixu_l, slu_t, slu_l, srcu_t, srcu_l, srcu_s, rgu_1, rgu_2, zpu_t, zpu_l, wipeU_nil, wipeU_cons, obind_s, bindsU_nil, bindsU_cons, setsU_nil, isNU, Option.map_some, Option.bind_some, cnt_nil, cnt_cons, List.getElem?_cons_zero, List.getElem?_cons_succ, List.set_cons_zero, List.set_cons_succ, List.map_cons, List.map_nil, List.length_cons, List.length_nil, List.replicate_succ, List.replicate_zero, List.cons_append, List.nil_append, Bool.not_true, Bool.not_false, if_true, if_false, Nat.reduceAdd, Nat.reduceSub, Nat.reduceLT, Nat.reduceLeDiff, Int.reduceLT, Bool.false_eq_true, true_and, and_true, forall_const])
  rw [e_lc rfl rfl]
  (try simp only [wc_nil, wc_one, wc_set, wc_ife, wc_exp, wc_retv, wr_non, wr_bl, wr_int, wr_str, wr_glb, wr_tup, wr_lst, wr_bin, wr_neg, wr_nt, wr_cmp, wr_isN, wr_nsN, wr_chn, wr_and, wr_or, wr_ife, wr_cal, wr_bi, wr_isi, wr_mth, wr_ix, wr_sl, wr_rvs, wr_lc, wr_lrg, wc_retN, wc_pas, wc_brk, wc_cnt, wc_wip, wc_for, wc_aug, wc_put, nxU_nx, nxU_rt, nxU_bk, nxU_ct, rtU_nx, rtU_rt, retV_s, e_var, varW_o, varW_p, e_non, e_bl, e_int, e_str, e_glb, e_tup, e_lst, e_bin, e_neg, e_nt, e_cmp, e_isN, e_nsN, e_chn, e_and, e_or, e_ife, e_cal, e_bi, e_isi, e_ix, e_sl, e_rvs, e_lrg, e_join, e_app, e_ins, e_pop, e_ext, mthV_o, mthG_o, extG_o, joinG_1, rvsG_l, enmG_1, setG_o, ea_nil, ea_cons, em_nil, em_cons, eo_nil, eo_cons, ei_rng, ei_enm, ei_zip, ei_cons, brw_non, brw_bl, brw_int, brw_str, brw_glb, brw_tup, brw_lst, brw_bin, brw_neg, brw_nt, brw_cmp, brw_isN, brw_nsN, brw_chn, brw_and, brw_or, brw_ife, brw_cal, brw_bi, brw_isi, brw_mth, brw_ix, brw_sl, brw_rvs, brw_lc, brw_lrg, brw_var, brwV_o, brwV_p, resU_l, resU_r, slotU_s, ressU_nil, ressU_cons, opt2_s, got_some, got_if, decide_eq_true_eq, tstU_t, tstU_f, tstU_p, tstU_n, tstU_b, asIU_i, asBU_b, asSU_s, bu_add, bu_sub, bu_adds, bu_addt, bu_addl, bu_mod, bu_fdv, au_add, au_sub, cu_lt, cu_le, cu_gt, cu_ge, cu_eq, cu_ne, cu_in, cu_ni, equ_ii, equ_ss, biu_len, lenU_t, lenU_l, biu_int, biu_intb, biu_lists, biu_listt, biu_listl, biu_tupt, biu_tupl, biu_max, biu_min, biu_sets, biu_split, mu_app, mu_ext, mu_ins, ixu_t, ixu_l, slu_t, slu_l, srcu_t, srcu_l, srcu_s, rgu_1, rgu_2, zpu_t, zpu_l, wipeU_nil, wipeU_cons, obind_s, bindsU_nil, bindsU_cons, setsU_nil, isNU, Option.map_some, Option.bind_some, cnt_nil, cnt_cons, List.getElem?_cons_zero, List.getElem?_cons_succ, List.set_cons_zero, List.set_cons_succ, List.map_cons, List.map_nil, List.length_cons, List.length_nil, List.replicate_succ, List.replicate_zero, List.cons_append, List.nil_append, Bool.not_true, Bool.not_false, if_true, if_false, Nat.reduceAdd, Nat.reduceSub, Nat.reduceLT, Nat.reduceLeDiff, Int.reduceLT, Bool.false_eq_true, true_and, and_true, forall_const])
  refine lc_pure (fun u => match u with | .str f => some (.str (("[" : Str) ++ f ++ "]")) | u => some u) (fun u hu K hK => ?_) (fun σ1 h1 => ?_)
  · obtain ⟨f, hm, rfl⟩ := List.mem_map.mp hu
    have h1 := (hf f hm).len
    rw [bindU_var (by simp [wipeU])]
    simp only [wc_nil, wc_one, wc_set, wc_ife, wc_exp, wc_retv, wr_non, wr_bl, wr_int, wr_str, wr_glb, wr_tup, wr_lst, wr_bin, wr_neg, wr_nt, wr_cmp, wr_isN, wr_nsN, wr_chn, wr_and, wr_or, wr_ife, wr_cal, wr_bi, wr_isi, wr_mth, wr_ix, wr_sl, wr_rvs, wr_lc, wr_lrg, wc_retN, wc_pas, wc_brk, wc_cnt, wc_wip, wc_for, wc_aug, wc_put, nxU_nx, nxU_rt, nxU_bk, nxU_ct, rtU_nx, rtU_rt, retV_s, e_var, varW_o, varW_p, e_non, e_bl, e_int, e_str, e_glb, e_tup, e_lst, e_bin, e_neg, e_nt, e_cmp, e_isN, e_nsN, e_chn, e_and, e_or, e_ife, e_cal, e_bi, e_isi, e_ix, e_sl, e_rvs, e_lrg, e_join, e_app, e_ins, e_pop, e_ext, mthV_o, mthG_o, extG_o, joinG_1, rvsG_l, enmG_1, setG_o, ea_nil, ea_cons, em_nil, em_cons, eo_nil, eo_cons, ei_rng, ei_enm, ei_zip, ei_cons, brw_non, brw_bl, brw_int, brw_str, brw_glb, brw_tup, brw_lst, brw_bin, brw_neg, brw_nt, brw_cmp, brw_isN, brw_nsN, brw_chn, brw_and, brw_or, brw_ife, brw_cal, brw_bi, brw_isi, brw_mth, brw_ix, brw_sl, brw_rvs, brw_lc, brw_lrg, brw_var, brwV_o, brwV_p, resU_l, resU_r, slotU_s, ressU_nil, ressU_cons, opt2_s, got_some, got_if, decide_eq_true_eq, tstU_t, tstU_f, tstU_p, tstU_n, tstU_b, asIU_i, asBU_b, asSU_s, bu_add, bu_sub, bu_adds, bu_addt, bu_addl, bu_mod, bu_fdv, au_add, au_sub, cu_lt, cu_le, cu_gt, cu_ge, cu_eq, cu_ne, cu_in, cu_ni, equ_ii, equ_ss, biu_len, lenU_t, lenU_l, biu_int, biu_intb, biu_lists, biu_listt, biu_listl, biu_tupt, biu_tupl, biu_max, biu_min, biu_sets, biu_split, mu_app, mu_ext, mu_ins, ixu_t, ixu_l, slu_t, slu_l, srcu_t, srcu_l, srcu_s, rgu_1, rgu_2, zpu_t, zpu_l, wipeU_nil, wipeU_cons, obind_s, bindsU_nil, bindsU_cons, setsU_nil, isNU, Option.map_some, Option.bind_some, cnt_nil, cnt_cons, List.getElem?_cons_zero, List.getElem?_cons_succ, List.set_cons_zero, List.set_cons_succ, List.map_cons, List.map_nil, List.length_cons, List.length_nil, List.replicate_succ, List.replicate_zero, List.cons_append, List.nil_append, Bool.not_true, Bool.not_false, if_true, if_false, Nat.reduceAdd, Nat.reduceSub, Nat.reduceLT, Nat.reduceLeDiff, Int.reduceLT, Bool.false_eq_true, true_and, and_true, forall_const, str_length_append]
    refine ⟨by rw [sizeLine_eq, show ("[" : Str).length = 1 by decide]; omega, by rw [sizeLine_eq, show ("[" : Str).length = 1 by decide, show ("]" : Str).length = 1 by decide]; omega, hK _ rfl⟩
  · rw [fm_brk]
    have e : mapO asSU ((fs.map fun f => ("[" : Str) ++ f ++ "]").map U.str) = some (fs.map fun f => ("[" : Str) ++ f ++ "]") := by
      rw [mapO_map (f := asSU) (g := U.str) (h := fun x => x) (fun _ => rfl), List.map_id']
    have hn : ((fs.map fun f => ("[" : Str) ++ f ++ "]").map (·.length)).sum ≤ 28 * fs.length := by
      clear e q h1
      induction fs with
      | nil => simp
      | cons f fs ih =>
        have h1 := (hf f List.mem_cons_self).len
        have h2 := ih (by simp at hl; omega) fun g hg => hf g (List.mem_cons_of_mem _ hg)
        simp only [List.map_cons, List.sum_cons, str_length_append, List.length_cons, show ("[" : Str).length = 1 by decide, show ("]" : Str).length = 1 by decide] at h2 ⊢
        omega
    simp only [wc_nil, wc_one, wc_set, wc_ife, wc_exp, wc_retv, wr_non, wr_bl, wr_int, wr_str, wr_glb, wr_tup, wr_lst, wr_bin, wr_neg, wr_nt, wr_cmp, wr_isN, wr_nsN, wr_chn, wr_and, wr_or, wr_ife, wr_cal, wr_bi, wr_isi, wr_mth, wr_ix, wr_sl, wr_rvs, wr_lc, wr_lrg, wc_retN, wc_pas, wc_brk, wc_cnt, wc_wip, wc_for, wc_aug, wc_put, nxU_nx, nxU_rt, nxU_bk, nxU_ct, rtU_nx, rtU_rt, retV_s, e_var, varW_o, varW_p, e_non, e_bl, e_int, e_str, e_glb, e_tup, e_lst, e_bin, e_neg, e_nt, e_cmp, e_isN, e_nsN, e_chn, e_and, e_or, e_ife, e_cal, e_bi, e_isi, e_ix, e_sl, e_rvs, e_lrg, e_join, e_app, e_ins, e_pop, e_ext, mthV_o, mthG_o, extG_o, joinG_1, rvsG_l, enmG_1, setG_o, ea_nil, ea_cons, em_nil, em_cons, eo_nil, eo_cons, ei_rng, ei_enm, ei_zip, ei_cons, brw_non, brw_bl, brw_int, brw_str, brw_glb, brw_tup, brw_lst, brw_bin, brw_neg, brw_nt, brw_cmp, brw_isN, brw_nsN, brw_chn, brw_and, brw_or, brw_ife, brw_cal, brw_bi, brw_isi, brw_mth, brw_ix, brw_sl, brw_rvs, brw_lc, brw_lrg, brw_var, brwV_o, brwV_p, resU_l, resU_r, slotU_s, ressU_nil, ressU_cons, opt2_s, got_some, got_if, decide_eq_true_eq, tstU_t, tstU_f, tstU_p, tstU_n, tstU_b, asIU_i, asBU_b, asSU_s, bu_add, bu_sub, bu_adds, bu_addt, bu_addl, bu_mod, bu_fdv, au_add, au_sub, cu_lt, cu_le, cu_gt, cu_ge, cu_eq, cu_ne, cu_in, cu_ni, equ_ii, equ_ss, biu_len, lenU_t, lenU_l, biu_int, biu_intb, biu_lists, biu_listt, biu_listl, biu_tupt, biu_tupl, biu_max, biu_min, biu_sets, biu_split, mu_app, mu_ext, mu_ins, ixu_t, ixu_l, slu_t, slu_l, srcu_t, srcu_l, srcu_s, rgu_1, rgu_2, zpu_t, zpu_l, wipeU_nil, wipeU_cons, obind_s, bindsU_nil, bindsU_cons, setsU_nil, isNU, Option.map_some, Option.bind_some, cnt_nil, cnt_cons, List.getElem?_cons_zero, List.getElem?_cons_succ, List.set_cons_zero, List.set_cons_succ, List.map_cons, List.map_nil, List.length_cons, List.length_nil, List.replicate_succ, List.replicate_zero, List.cons_append, List.nil_append, Bool.not_true, Bool.not_false, if_true, if_false, Nat.reduceAdd, Nat.reduceSub, Nat.reduceLT, Nat.reduceLeDiff, Int.reduceLT, Bool.false_eq_true, true_and, and_true, forall_const, joinu (u := .lst _) rfl e (by rw [show ("" : Str).length = 0 by decide]; omega), wr_join, List.length_map]
    exact ⟨by rw [sizeLine_eq]; omega, q⟩
def WriteOk (Φ : Nat → List D → Hs → R D) (p i : Nat) : Prop := ∀ (fs : List Str) (k : Nat) (Q : U → Bool → Nat → Prop) (Ex : ExT), fs.length ≤ 16 → (∀ f ∈ fs, FrameU f) → Q (.str (wr fs)) false k → CallOk Φ p i [.tup (fs.map .str)] k Q Ex
theorem fm_tail : ∀ fs : List Str, (fs.map fun f => U.str (("[" : Str) ++ f)).filterMap (fun u => match u with | .str f => some (U.str ⟨(cutD f.cps.toList (some 1) none).toArray⟩) | u => some u) = fs.map U.str
  | [] => rfl
  | f :: fs => by simp only [List.map_cons, List.filterMap_cons, fm_tail fs, cut_str]
theorem read_tape_ok {c d : Nat} {fs : List Str} (hc : TapeOk Φ p c) (hd : WriteOk Φ p d) (hl : fs.length ≤ 16) (hf : ∀ f ∈ fs, FrameU f) (q : Q (.tup (fs.map .str)) false k) : wpC (CallOk Φ p) G W (B_read_tape c d) Ex [some (.str (wr fs), false), none, none] k (rtU Q) := by
  have hw := wr_len hf
  unfold B_read_tape
  refine wc_step fun K hK => ?_
  simp only [wc_nil, wc_one, wc_set, wc_ife, wc_exp, wc_retv, wr_non, wr_bl, wr_int, wr_str, wr_glb, wr_tup, wr_lst, wr_bin, wr_neg, wr_nt, wr_cmp, wr_isN, wr_nsN, wr_chn, wr_and, wr_or, wr_ife, wr_cal, wr_bi, wr_isi, wr_mth, wr_ix, wr_sl, wr_rvs, wr_lc, wr_lrg, wc_retN, wc_pas, wc_brk, wc_cnt, wc_wip, wc_for, wc_aug, wc_put, nxU_nx, nxU_rt, nxU_bk, nxU_ct, rtU_nx, rtU_rt, retV_s, e_var, varW_o, varW_p, e_non, e_bl, e_int, e_str, e_glb, e_tup, e_lst, e_bin, e_neg, e_nt, e_cmp, e_isN, e_nsN, e_chn, e_and, e_or, e_ife, e_cal, e_bi, e_isi, e_ix, e_sl, e_rvs, e_lrg, e_join, e_app, e_ins, e_pop, e_ext, mthV_o, mthG_o, extG_o, joinG_1, rvsG_l, enmG_1, setG_o, ea_nil, ea_cons, em_nil, em_cons, eo_nil, eo_cons, ei_rng, ei_enm, ei_zip, ei_cons, brw_non, brw_bl, brw_int, brw_str, brw_glb, brw_tup, brw_lst, brw_bin, brw_neg, brw_nt, brw_cmp, brw_isN, brw_nsN, brw_chn, brw_and, brw_or, brw_ife, brw_cal, brw_bi, brw_isi, brw_mth, brw_ix, brw_sl, brw_rvs, brw_lc, brw_lrg, brw_var, brwV_o, brwV_p, resU_l, resU_r, slotU_s, ressU_nil, ressU_cons, opt2_s, got_some, got_if, decide_eq_true_eq, tstU_t, tstU_f, tstU_p, tstU_n, tstU_b, asIU_i, asBU_b, asSU_s, bu_add, bu_sub, bu_adds, bu_addt, bu_addl, bu_mod, bu_fdv, au_add, au_sub, cu_lt, cu_le, cu_gt, cu_ge, cu_eq, cu_ne, cu_in, cu_ni, equ_ii, equ_ss, biu_len, lenU_t, lenU_l, biu_int, biu_intb, biu_lists, biu_listt, biu_listl, biu_tupt, biu_tupl, biu_max, biu_min, biu_sets, biu_split, mu_app, mu_ext, mu_ins, ixu_t, ixu_l, slu_t, slu_l, srcu_t, srcu_l, srcu_s, rgu_1, rgu_2, zpu_t, zpu_l, wipeU_nil, wipeU_cons, obind_s, bindsU_nil, bindsU_cons, setsU_nil, isNU, Option.map_some, Option.bind_some, cnt_nil, cnt_cons, List.getElem?_cons_zero, List.getElem?_cons_succ, List.set_cons_zero, List.set_cons_succ, List.map_cons, List.map_nil, List.length_cons, List.length_nil, List.replicate_succ, List.replicate_zero, List.cons_append, List.nil_append, Bool.not_true, Bool.not_false, if_true, if_false, Nat.reduceAdd, Nat.reduceSub, Nat.reduceLT, Nat.reduceLeDiff, Int.reduceLT, Bool.false_eq_true, true_and, and_true, forall_const, tysAreU, tyIsU, Bool.or_false]
  refine hK _ _ ?_
  refine wc_step fun K2 hK2 => ?_
  (try simp only [wc_nil, wc_one, wc_set, wc_ife, wc_exp, wc_retv, wr_non, wr_bl, wr_int, wr_str, wr_glb, wr_tup, wr_lst, wr_bin, wr_neg, wr_nt, wr_cmp, wr_isN, wr_nsN, wr_chn, wr_and, wr_or, wr_ife, wr_cal, wr_bi, wr_isi, wr_mth, wr_ix, wr_sl, wr_rvs, wr_lc, wr_lrg, wc_retN, wc_pas, wc_brk, wc_cnt, wc_wip, wc_for, wc_aug, wc_put, nxU_nx, nxU_rt, nxU_bk, nxU_ct, rtU_nx, rtU_rt, retV_s, e_var, varW_o, varW_p, e_non, e_bl, e_int, e_str, e_glb, e_tup, e_lst, e_bin, e_neg, e_nt, e_cmp, e_isN, e_nsN, e_chn, e_and, e_or, e_ife, e_cal, e_bi, e_isi, e_ix, e_sl, e_rvs, e_lrg, e_join, e_app, e_ins, e_pop, e_ext, mthV_o, mthG_o, extG_o, joinG_1, rvsG_l, enmG_1, setG_o, ea_nil, ea_cons, em_nil, em_cons, eo_nil, eo_cons, ei_rng, ei_enm, ei_zip, ei_cons, brw_non, brw_bl, brw_int, brw_str, brw_glb, brw_tup, brw_lst, brw_bin, brw_neg, brw_nt, brw_cmp, brw_isN, brw_nsN, brw_chn, brw_and, brw_or, brw_ife, brw_cal, brw_bi, brw_isi, brw_mth, brw_ix, brw_sl, brw_rvs, brw_lc, brw_lrg, brw_var, brwV_o, brwV_p, resU_l, resU_r, slotU_s, ressU_nil, ressU_cons, opt2_s, got_some, got_if, decide_eq_true_eq, tstU_t, tstU_f, tstU_p, tstU_n, tstU_b, asIU_i, asBU_b, asSU_s, bu_add, bu_sub, bu_adds, bu_addt, bu_addl, bu_mod, bu_fdv, au_add, au_sub, cu_lt, cu_le, cu_gt, cu_ge, cu_eq, cu_ne, cu_in, cu_ni, equ_ii, equ_ss, biu_len, lenU_t, lenU_l, biu_int, biu_intb, biu_lists, biu_listt, biu_listl, biu_tupt, biu_tupl, biu_max, biu_min, biu_sets, biu_split, mu_app, mu_ext, mu_ins, ixu_t, ixu_l, slu_t, slu_l, srcu_t, srcu_l, srcu_s, rgu_1, rgu_2, zpu_t, zpu_l, wipeU_nil, wipeU_cons, obind_s, bindsU_nil, bindsU_cons, setsU_nil, isNU, Option.map_some, Option.bind_some, cnt_nil, cnt_cons, List.getElem?_cons_zero, List.getElem?_cons_succ, List.set_cons_zero, List.set_cons_succ, List.map_cons, List.map_nil, List.length_cons, List.length_nil, List.replicate_succ, List.replicate_zero, List.cons_append, List.nil_append, Bool.not_true, Bool.not_false, if_true, if_false, Nat.reduceAdd, Nat.reduceSub, Nat.reduceLT, Nat.reduceLeDiff, Int.reduceLT, Bool.false_eq_true, true_and, and_true, forall_const])
  rw [e_lc rfl rfl]
  (try simp only [wc_nil, wc_one, wc_set, wc_ife, wc_exp, wc_retv, wr_non, wr_bl, wr_int, wr_str, wr_glb, wr_tup, wr_lst, wr_bin, wr_neg, wr_nt, wr_cmp, wr_isN, wr_nsN, wr_chn, wr_and, wr_or, wr_ife, wr_cal, wr_bi, wr_isi, wr_mth, wr_ix, wr_sl, wr_rvs, wr_lc, wr_lrg, wc_retN, wc_pas, wc_brk, wc_cnt, wc_wip, wc_for, wc_aug, wc_put, nxU_nx, nxU_rt, nxU_bk, nxU_ct, rtU_nx, rtU_rt, retV_s, e_var, varW_o, varW_p, e_non, e_bl, e_int, e_str, e_glb, e_tup, e_lst, e_bin, e_neg, e_nt, e_cmp, e_isN, e_nsN, e_chn, e_and, e_or, e_ife, e_cal, e_bi, e_isi, e_ix, e_sl, e_rvs, e_lrg, e_join, e_app, e_ins, e_pop, e_ext, mthV_o, mthG_o, extG_o, joinG_1, rvsG_l, enmG_1, setG_o, ea_nil, ea_cons, em_nil, em_cons, eo_nil, eo_cons, ei_rng, ei_enm, ei_zip, ei_cons, brw_non, brw_bl, brw_int, brw_str, brw_glb, brw_tup, brw_lst, brw_bin, brw_neg, brw_nt, brw_cmp, brw_isN, brw_nsN, brw_chn, brw_and, brw_or, brw_ife, brw_cal, brw_bi, brw_isi, brw_mth, brw_ix, brw_sl, brw_rvs, brw_lc, brw_lrg, brw_var, brwV_o, brwV_p, resU_l, resU_r, slotU_s, ressU_nil, ressU_cons, opt2_s, got_some, got_if, decide_eq_true_eq, tstU_t, tstU_f, tstU_p, tstU_n, tstU_b, asIU_i, asBU_b, asSU_s, bu_add, bu_sub, bu_adds, bu_addt, bu_addl, bu_mod, bu_fdv, au_add, au_sub, cu_lt, cu_le, cu_gt, cu_ge, cu_eq, cu_ne, cu_in, cu_ni, equ_ii, equ_ss, biu_len, lenU_t, lenU_l, biu_int, biu_intb, biu_lists, biu_listt, biu_listl, biu_tupt, biu_tupl, biu_max, biu_min, biu_sets, biu_split, mu_app, mu_ext, mu_ins, ixu_t, ixu_l, slu_t, slu_l, srcu_t, srcu_l, srcu_s, rgu_1, rgu_2, zpu_t, zpu_l, wipeU_nil, wipeU_cons, obind_s, bindsU_nil, bindsU_cons, setsU_nil, isNU, Option.map_some, Option.bind_some, cnt_nil, cnt_cons, List.getElem?_cons_zero, List.getElem?_cons_succ, List.set_cons_zero, List.set_cons_succ, List.map_cons, List.map_nil, List.length_cons, List.length_nil, List.replicate_succ, List.replicate_zero, List.cons_append, List.nil_append, Bool.not_true, Bool.not_false, if_true, if_false, Nat.reduceAdd, Nat.reduceSub, Nat.reduceLT, Nat.reduceLeDiff, Int.reduceLT, Bool.false_eq_true, true_and, and_true, forall_const])
  refine ⟨⟨by decide +kernel, by rw [sizeLine_eq]; omega⟩, ?_⟩
  have es : (Txt.split (wr fs) "]").map U.str = (fs.map fun f => U.str (("[" : Str) ++ f)) ++ [.str ""] := by
    rw [wr_split hf, List.map_append, List.map_map]; rfl
  rw [es, show (-1 : Int) = -1 from rfl, cut_init]
  refine lc_pure (fun u => match u with | .str f => some (U.str ⟨(cutD f.cps.toList (some 1) none).toArray⟩) | u => some u) (fun u hu K hK => ?_) (fun σ1 h1 => ?_)
  · obtain ⟨f, hm, rfl⟩ := List.mem_map.mp hu
    have h1 := (hf f hm).len
    rw [bindU_var (by simp [wipeU])]
    simp only [wc_nil, wc_one, wc_set, wc_ife, wc_exp, wc_retv, wr_non, wr_bl, wr_int, wr_str, wr_glb, wr_tup, wr_lst, wr_bin, wr_neg, wr_nt, wr_cmp, wr_isN, wr_nsN, wr_chn, wr_and, wr_or, wr_ife, wr_cal, wr_bi, wr_isi, wr_mth, wr_ix, wr_sl, wr_rvs, wr_lc, wr_lrg, wc_retN, wc_pas, wc_brk, wc_cnt, wc_wip, wc_for, wc_aug, wc_put, nxU_nx, nxU_rt, nxU_bk, nxU_ct, rtU_nx, rtU_rt, retV_s, e_var, varW_o, varW_p, e_non, e_bl, e_int, e_str, e_glb, e_tup, e_lst, e_bin, e_neg, e_nt, e_cmp, e_isN, e_nsN, e_chn, e_and, e_or, e_ife, e_cal, e_bi, e_isi, e_ix, e_sl, e_rvs, e_lrg, e_join, e_app, e_ins, e_pop, e_ext, mthV_o, mthG_o, extG_o, joinG_1, rvsG_l, enmG_1, setG_o, ea_nil, ea_cons, em_nil, em_cons, eo_nil, eo_cons, ei_rng, ei_enm, ei_zip, ei_cons, brw_non, brw_bl, brw_int, brw_str, brw_glb, brw_tup, brw_lst, brw_bin, brw_neg, brw_nt, brw_cmp, brw_isN, brw_nsN, brw_chn, brw_and, brw_or, brw_ife, brw_cal, brw_bi, brw_isi, brw_mth, brw_ix, brw_sl, brw_rvs, brw_lc, brw_lrg, brw_var, brwV_o, brwV_p, resU_l, resU_r, slotU_s, ressU_nil, ressU_cons, opt2_s, got_some, got_if, decide_eq_true_eq, tstU_t, tstU_f, tstU_p, tstU_n, tstU_b, asIU_i, asBU_b, asSU_s, bu_add, bu_sub, bu_adds, bu_addt, bu_addl, bu_mod, bu_fdv, au_add, au_sub, cu_lt, cu_le, cu_gt, cu_ge, cu_eq, cu_ne, cu_in, cu_ni, equ_ii, equ_ss, biu_len, lenU_t, lenU_l, biu_int, biu_intb, biu_lists, biu_listt, biu_listl, biu_tupt, biu_tupl, biu_max, biu_min, biu_sets, biu_split, mu_app, mu_ext, mu_ins, ixu_t, ixu_l, slu_t, slu_l, srcu_t, srcu_l, srcu_s, rgu_1, rgu_2, zpu_t, zpu_l, wipeU_nil, wipeU_cons, obind_s, bindsU_nil, bindsU_cons, setsU_nil, isNU, Option.map_some, Option.bind_some, cnt_nil, cnt_cons, List.getElem?_cons_zero, List.getElem?_cons_succ, List.set_cons_zero, List.set_cons_succ, List.map_cons, List.map_nil, List.length_cons, List.length_nil, List.replicate_succ, List.replicate_zero, List.cons_append, List.nil_append, Bool.not_true, Bool.not_false, if_true, if_false, Nat.reduceAdd, Nat.reduceSub, Nat.reduceLT, Nat.reduceLeDiff, Int.reduceLT, Bool.false_eq_true, true_and, and_true, forall_const, slu_s, str_length_append]
    refine ⟨by rw [sizeLine_eq, show ("[" : Str).length = 1 by decide]; omega, hK _ rfl⟩
  · rw [fm_tail, restU_of h1]
    simp only [wc_nil, wc_one, wc_set, wc_ife, wc_exp, wc_retv, wr_non, wr_bl, wr_int, wr_str, wr_glb, wr_tup, wr_lst, wr_bin, wr_neg, wr_nt, wr_cmp, wr_isN, wr_nsN, wr_chn, wr_and, wr_or, wr_ife, wr_cal, wr_bi, wr_isi, wr_mth, wr_ix, wr_sl, wr_rvs, wr_lc, wr_lrg, wc_retN, wc_pas, wc_brk, wc_cnt, wc_wip, wc_for, wc_aug, wc_put, nxU_nx, nxU_rt, nxU_bk, nxU_ct, rtU_nx, rtU_rt, retV_s, e_var, varW_o, varW_p, e_non, e_bl, e_int, e_str, e_glb, e_tup, e_lst, e_bin, e_neg, e_nt, e_cmp, e_isN, e_nsN, e_chn, e_and, e_or, e_ife, e_cal, e_bi, e_isi, e_ix, e_sl, e_rvs, e_lrg, e_join, e_app, e_ins, e_pop, e_ext, mthV_o, mthG_o, extG_o, joinG_1, rvsG_l, enmG_1, setG_o, ea_nil, ea_cons, em_nil, em_cons, eo_nil, eo_cons, ei_rng, ei_enm, ei_zip, ei_cons, brw_non, brw_bl, brw_int, brw_str, brw_glb, brw_tup, brw_lst, brw_bin, brw_neg, brw_nt, brw_cmp, brw_isN, brw_nsN, brw_chn, brw_and, brw_or, brw_ife, brw_cal, brw_bi, brw_isi, brw_mth, brw_ix, brw_sl, brw_rvs, brw_lc, brw_lrg, brw_var, brwV_o, brwV_p, resU_l, resU_r, slotU_s, ressU_nil, ressU_cons, opt2_s, got_some, got_if, decide_eq_true_eq, tstU_t, tstU_f, tstU_p, tstU_n, tstU_b, asIU_i, asBU_b, asSU_s, bu_add, bu_sub, bu_adds, bu_addt, bu_addl, bu_mod, bu_fdv, au_add, au_sub, cu_lt, cu_le, cu_gt, cu_ge, cu_eq, cu_ne, cu_in, cu_ni, equ_ii, equ_ss, biu_len, lenU_t, lenU_l, biu_int, biu_intb, biu_lists, biu_listt, biu_listl, biu_tupt, biu_tupl, biu_max, biu_min, biu_sets, biu_split, mu_app, mu_ext, mu_ins, ixu_t, ixu_l, slu_t, slu_l, srcu_t, srcu_l, srcu_s, rgu_1, rgu_2, zpu_t, zpu_l, wipeU_nil, wipeU_cons, obind_s, bindsU_nil, bindsU_cons, setsU_nil, isNU, Option.map_some, Option.bind_some, cnt_nil, cnt_cons, List.getElem?_cons_zero, List.getElem?_cons_succ, List.set_cons_zero, List.set_cons_succ, List.map_cons, List.map_nil, List.length_cons, List.length_nil, List.replicate_succ, List.replicate_zero, List.cons_append, List.nil_append, Bool.not_true, Bool.not_false, if_true, if_false, Nat.reduceAdd, Nat.reduceSub, Nat.reduceLT, Nat.reduceLeDiff, Int.reduceLT, Bool.false_eq_true, true_and, and_true, forall_const, restU_nil, restU_cons, restV_p, restV_o, restV_n, List.length_map]
    refine ⟨by rw [sizeLine_eq]; omega, hK2 _ _ ?_⟩
    refine wc_step fun K3 hK3 => ?_
    (try simp only [wc_nil, wc_one, wc_set, wc_ife, wc_exp, wc_retv, wr_non, wr_bl, wr_int, wr_str, wr_glb, wr_tup, wr_lst, wr_bin, wr_neg, wr_nt, wr_cmp, wr_isN, wr_nsN, wr_chn, wr_and, wr_or, wr_ife, wr_cal, wr_bi, wr_isi, wr_mth, wr_ix, wr_sl, wr_rvs, wr_lc, wr_lrg, wc_retN, wc_pas, wc_brk, wc_cnt, wc_wip, wc_for, wc_aug, wc_put, nxU_nx, nxU_rt, nxU_bk, nxU_ct, rtU_nx, rtU_rt, retV_s, e_var, varW_o, varW_p, e_non, e_bl, e_int, e_str, e_glb, e_tup, e_lst, e_bin, e_neg, e_nt, e_cmp, e_isN, e_nsN, e_chn, e_and, e_or, e_ife, e_cal, e_bi, e_isi, e_ix, e_sl, e_rvs, e_lrg, e_join, e_app, e_ins, e_pop, e_ext, mthV_o, mthG_o, extG_o, joinG_1, rvsG_l, enmG_1, setG_o, ea_nil, ea_cons, em_nil, em_cons, eo_nil, eo_cons, ei_rng, ei_enm, ei_zip, ei_cons, brw_non, brw_bl, brw_int, brw_str, brw_glb, brw_tup, brw_lst, brw_bin, brw_neg, brw_nt, brw_cmp, brw_isN, brw_nsN, brw_chn, brw_and, brw_or, brw_ife, brw_cal, brw_bi, brw_isi, brw_mth, brw_ix, brw_sl, brw_rvs, brw_lc, brw_lrg, brw_var, brwV_o, brwV_p, resU_l, resU_r, slotU_s, ressU_nil, ressU_cons, opt2_s, got_some, got_if, decide_eq_true_eq, tstU_t, tstU_f, tstU_p, tstU_n, tstU_b, asIU_i, asBU_b, asSU_s, bu_add, bu_sub, bu_adds, bu_addt, bu_addl, bu_mod, bu_fdv, au_add, au_sub, cu_lt, cu_le, cu_gt, cu_ge, cu_eq, cu_ne, cu_in, cu_ni, equ_ii, equ_ss, biu_len, lenU_t, lenU_l, biu_int, biu_intb, biu_lists, biu_listt, biu_listl, biu_tupt, biu_tupl, biu_max, biu_min, biu_sets, biu_split, mu_app, mu_ext, mu_ins, ixu_t, ixu_l, slu_t, slu_l, srcu_t, srcu_l, srcu_s, rgu_1, rgu_2, zpu_t, zpu_l, wipeU_nil, wipeU_cons, obind_s, bindsU_nil, bindsU_cons, setsU_nil, isNU, Option.map_some, Option.bind_some, cnt_nil, cnt_cons, List.getElem?_cons_zero, List.getElem?_cons_succ, List.set_cons_zero, List.set_cons_succ, List.map_cons, List.map_nil, List.length_cons, List.length_nil, List.replicate_succ, List.replicate_zero, List.cons_append, List.nil_append, Bool.not_true, Bool.not_false, if_true, if_false, Nat.reduceAdd, Nat.reduceSub, Nat.reduceLT, Nat.reduceLeDiff, Int.reduceLT, Bool.false_eq_true, true_and, and_true, forall_const])
    refine hc _ _ _ _ hl hf ?_
    (try simp only [wc_nil, wc_one, wc_set, wc_ife, wc_exp, wc_retv, wr_non, wr_bl, wr_int, wr_str, wr_glb, wr_tup, wr_lst, wr_bin, wr_neg, wr_nt, wr_cmp, wr_isN, wr_nsN, wr_chn, wr_and, wr_or, wr_ife, wr_cal, wr_bi, wr_isi, wr_mth, wr_ix, wr_sl, wr_rvs, wr_lc, wr_lrg, wc_retN, wc_pas, wc_brk, wc_cnt, wc_wip, wc_for, wc_aug, wc_put, nxU_nx, nxU_rt, nxU_bk, nxU_ct, rtU_nx, rtU_rt, retV_s, e_var, varW_o, varW_p, e_non, e_bl, e_int, e_str, e_glb, e_tup, e_lst, e_bin, e_neg, e_nt, e_cmp, e_isN, e_nsN, e_chn, e_and, e_or, e_ife, e_cal, e_bi, e_isi, e_ix, e_sl, e_rvs, e_lrg, e_join, e_app, e_ins, e_pop, e_ext, mthV_o, mthG_o, extG_o, joinG_1, rvsG_l, enmG_1, setG_o, ea_nil, ea_cons, em_nil, em_cons, eo_nil, eo_cons, ei_rng, ei_enm, ei_zip, ei_cons, brw_non, brw_bl, brw_int, brw_str, brw_glb, brw_tup, brw_lst, brw_bin, brw_neg, brw_nt, brw_cmp, brw_isN, brw_nsN, brw_chn, brw_and, brw_or, brw_ife, brw_cal, brw_bi, brw_isi, brw_mth, brw_ix, brw_sl, brw_rvs, brw_lc, brw_lrg, brw_var, brwV_o, brwV_p, resU_l, resU_r, slotU_s, ressU_nil, ressU_cons, opt2_s, got_some, got_if, decide_eq_true_eq, tstU_t, tstU_f, tstU_p, tstU_n, tstU_b, asIU_i, asBU_b, asSU_s, bu_add, bu_sub, bu_adds, bu_addt, bu_addl, bu_mod, bu_fdv, au_add, au_sub, cu_lt, cu_le, cu_gt, cu_ge, cu_eq, cu_ne, cu_in, cu_ni, equ_ii, equ_ss, biu_len, lenU_t, lenU_l, biu_int, biu_intb, biu_lists, biu_listt, biu_listl, biu_tupt, biu_tupl, biu_max, biu_min, biu_sets, biu_split, mu_app, mu_ext, mu_ins, ixu_t, ixu_l, slu_t, slu_l, srcu_t, srcu_l, srcu_s, rgu_1, rgu_2, zpu_t, zpu_l, wipeU_nil, wipeU_cons, obind_s, bindsU_nil, bindsU_cons, setsU_nil, isNU, Option.map_some, Option.bind_some, cnt_nil, cnt_cons, List.getElem?_cons_zero, List.getElem?_cons_succ, List.set_cons_zero, List.set_cons_succ, List.map_cons, List.map_nil, List.length_cons, List.length_nil, List.replicate_succ, List.replicate_zero, List.cons_append, List.nil_append, Bool.not_true, Bool.not_false, if_true, if_false, Nat.reduceAdd, Nat.reduceSub, Nat.reduceLT, Nat.reduceLeDiff, Int.reduceLT, Bool.false_eq_true, true_and, and_true, forall_const])
    refine hd _ _ _ _ hl hf ?_
    simp only [wc_nil, wc_one, wc_set, wc_ife, wc_exp, wc_retv, wr_non, wr_bl, wr_int, wr_str, wr_glb, wr_tup, wr_lst, wr_bin, wr_neg, wr_nt, wr_cmp, wr_isN, wr_nsN, wr_chn, wr_and, wr_or, wr_ife, wr_cal, wr_bi, wr_isi, wr_mth, wr_ix, wr_sl, wr_rvs, wr_lc, wr_lrg, wc_retN, wc_pas, wc_brk, wc_cnt, wc_wip, wc_for, wc_aug, wc_put, nxU_nx, nxU_rt, nxU_bk, nxU_ct, rtU_nx, rtU_rt, retV_s, e_var, varW_o, varW_p, e_non, e_bl, e_int, e_str, e_glb, e_tup, e_lst, e_bin, e_neg, e_nt, e_cmp, e_isN, e_nsN, e_chn, e_and, e_or, e_ife, e_cal, e_bi, e_isi, e_ix, e_sl, e_rvs, e_lrg, e_join, e_app, e_ins, e_pop, e_ext, mthV_o, mthG_o, extG_o, joinG_1, rvsG_l, enmG_1, setG_o, ea_nil, ea_cons, em_nil, em_cons, eo_nil, eo_cons, ei_rng, ei_enm, ei_zip, ei_cons, brw_non, brw_bl, brw_int, brw_str, brw_glb, brw_tup, brw_lst, brw_bin, brw_neg, brw_nt, brw_cmp, brw_isN, brw_nsN, brw_chn, brw_and, brw_or, brw_ife, brw_cal, brw_bi, brw_isi, brw_mth, brw_ix, brw_sl, brw_rvs, brw_lc, brw_lrg, brw_var, brwV_o, brwV_p, resU_l, resU_r, slotU_s, ressU_nil, ressU_cons, opt2_s, got_some, got_if, decide_eq_true_eq, tstU_t, tstU_f, tstU_p, tstU_n, tstU_b, asIU_i, asBU_b, asSU_s, bu_add, bu_sub, bu_adds, bu_addt, bu_addl, bu_mod, bu_fdv, au_add, au_sub, cu_lt, cu_le, cu_gt, cu_ge, cu_eq, cu_ne, cu_in, cu_ni, equ_ii, equ_ss, biu_len, lenU_t, lenU_l, biu_int, biu_intb, biu_lists, biu_listt, biu_listl, biu_tupt, biu_tupl, biu_max, biu_min, biu_sets, biu_split, mu_app, mu_ext, mu_ins, ixu_t, ixu_l, slu_t, slu_l, srcu_t, srcu_l, srcu_s, rgu_1, rgu_2, zpu_t, zpu_l, wipeU_nil, wipeU_cons, obind_s, bindsU_nil, bindsU_cons, setsU_nil, isNU, Option.map_some, Option.bind_some, cnt_nil, cnt_cons, List.getElem?_cons_zero, List.getElem?_cons_succ, List.set_cons_zero, List.set_cons_succ, List.map_cons, List.map_nil, List.length_cons, List.length_nil, List.replicate_succ, List.replicate_zero, List.cons_append, List.nil_append, Bool.not_true, Bool.not_false, if_true, if_false, Nat.reduceAdd, Nat.reduceSub, Nat.reduceLT, Nat.reduceLeDiff, Int.reduceLT, Bool.false_eq_true, true_and, and_true, forall_const, decide_true]
    refine hK3 _ _ ?_
    (try simp only [wc_nil, wc_one, wc_set, wc_ife, wc_exp, wc_retv, wr_non, wr_bl, wr_int, wr_str, wr_glb, wr_tup, wr_lst, wr_bin, wr_neg, wr_nt, wr_cmp, wr_isN, wr_nsN, wr_chn, wr_and, wr_or, wr_ife, wr_cal, wr_bi, wr_isi, wr_mth, wr_ix, wr_sl, wr_rvs, wr_lc, wr_lrg, wc_retN, wc_pas, wc_brk, wc_cnt, wc_wip, wc_for, wc_aug, wc_put, nxU_nx, nxU_rt, nxU_bk, nxU_ct, rtU_nx, rtU_rt, retV_s, e_var, varW_o, varW_p, e_non, e_bl, e_int, e_str, e_glb, e_tup, e_lst, e_bin, e_neg, e_nt, e_cmp, e_isN, e_nsN, e_chn, e_and, e_or, e_ife, e_cal, e_bi, e_isi, e_ix, e_sl, e_rvs, e_lrg, e_join, e_app, e_ins, e_pop, e_ext, mthV_o, mthG_o, extG_o, joinG_1, rvsG_l, enmG_1, setG_o, ea_nil, ea_cons, em_nil, em_cons, eo_nil, eo_cons, ei_rng, ei_enm, ei_zip, ei_cons, brw_non, brw_bl, brw_int, brw_str, brw_glb, brw_tup, brw_lst, brw_bin, brw_neg, brw_nt, brw_cmp, brw_isN, brw_nsN, brw_chn, brw_and, brw_or, brw_ife, brw_cal, brw_bi, brw_isi, brw_mth, brw_ix, brw_sl, brw_rvs, brw_lc, brw_lrg, brw_var, brwV_o, brwV_p, resU_l, resU_r, slotU_s, ressU_nil, ressU_cons, opt2_s, got_some, got_if, decide_eq_true_eq, tstU_t, tstU_f, tstU_p, tstU_n, tstU_b, asIU_i, asBU_b, asSU_s, bu_add, bu_sub, bu_adds, bu_addt, bu_addl, bu_mod, bu_fdv, au_add, au_sub, cu_lt, cu_le, cu_gt, cu_ge, cu_eq, cu_ne, cu_in, cu_ni, equ_ii, equ_ss, biu_len, lenU_t, lenU_l, biu_int, biu_intb, biu_lists, biu_listt, biu_listl, biu_tupt, biu_tupl, biu_max, biu_min, biu_sets, biu_split, mu_app, mu_ext, mu_ins, ixu_t, ixu_l, slu_t, slu_l, srcu_t, srcu_l, srcu_s, rgu_1, rgu_2, zpu_t, zpu_l, wipeU_nil, wipeU_cons, obind_s, bindsU_nil, bindsU_cons, setsU_nil, isNU, Option.map_some, Option.bind_some, cnt_nil, cnt_cons, List.getElem?_cons_zero, List.getElem?_cons_succ, List.set_cons_zero, List.set_cons_succ, List.map_cons, List.map_nil, List.length_cons, List.length_nil, List.replicate_succ, List.replicate_zero, List.cons_append, List.nil_append, Bool.not_true, Bool.not_false, if_true, if_false, Nat.reduceAdd, Nat.reduceSub, Nat.reduceLT, Nat.reduceLeDiff, Int.reduceLT, Bool.false_eq_true, true_and, and_true, forall_const])
    exact q
def ReadOk (Φ : Nat → List D → Hs → R D) (p i : Nat) : Prop := ∀ (fs : List Str) (k : Nat) (Q : U → Bool → Nat → Prop) (Ex : ExT), fs.length ≤ 16 → (∀ f ∈ fs, FrameU f) → Q (.tup (fs.map .str)) false k → CallOk Φ p i [.str (wr fs)] k Q Ex
/-! ### drawn tapes -/
theorem alpha_at {z : Int} (h0 : 0 ≤ z) (h1 : z < 26) : ∃ c, L2.atI alpha z = some c ∧ c ∈ alpha := by
  have h : ∀ i, i < 26 → ∃ c, L2.atI alpha (i : Nat) = some c ∧ c ∈ alpha := by decide +kernel
  obtain ⟨i, rfl⟩ := Int.eq_ofNat_of_zero_le h0
  exact h i (by omega)
theorem one_sub {c : Nat} (h : c ∈ alpha) : ([c] : List Nat).Sublist alpha := List.singleton_sublist.mpr h
def DrawTapeOk (Φ : Nat → List D → Hs → R D) (p i : Nat) : Prop := ∀ (k : Nat) (Q : U → Bool → Nat → Prop) (Ex : ExT), k ≤ 1000000 → (∀ (fs : List Str) (k' : Nat), fs.length ≤ 16 → (∀ f ∈ fs, FrameU f) → k' ≤ k + 600 → Q (.tup (fs.map .str)) false k') → CallOk Φ p i [.pen] k Q Ex
theorem draw_tape_ok {c d : Nat} (ht : TakeOk Φ c) (ho : OneOk Φ d) (hk : k ≤ 1000000) (q : ∀ (fs : List Str) (k' : Nat), fs.length ≤ 16 → (∀ f ∈ fs, FrameU f) → k' ≤ k + 600 → Q (.tup (fs.map .str)) false k') : wpC (CallOk Φ p) G W (B_law_draw_tape c d) Ex [some (.pen, false), none, none, none, none, none] k (rtU Q) := by
  unfold B_law_draw_tape
  refine wc_step fun K hK => ?_
  rw [wc_tup]
  (try simp only [wc_nil, wc_one, wc_set, wc_ife, wc_exp, wc_retv, wr_non, wr_bl, wr_int, wr_str, wr_glb, wr_tup, wr_lst, wr_bin, wr_neg, wr_nt, wr_cmp, wr_isN, wr_nsN, wr_chn, wr_and, wr_or, wr_ife, wr_cal, wr_bi, wr_isi, wr_mth, wr_ix, wr_sl, wr_rvs, wr_lc, wr_lrg, wc_retN, wc_pas, wc_brk, wc_cnt, wc_wip, wc_for, wc_aug, wc_put, nxU_nx, nxU_rt, nxU_bk, nxU_ct, rtU_nx, rtU_rt, retV_s, e_var, varW_o, varW_p, e_non, e_bl, e_int, e_str, e_glb, e_tup, e_lst, e_bin, e_neg, e_nt, e_cmp, e_isN, e_nsN, e_chn, e_and, e_or, e_ife, e_cal, e_bi, e_isi, e_ix, e_sl, e_rvs, e_lrg, e_join, e_app, e_ins, e_pop, e_ext, mthV_o, mthG_o, extG_o, joinG_1, rvsG_l, enmG_1, setG_o, ea_nil, ea_cons, em_nil, em_cons, eo_nil, eo_cons, ei_rng, ei_enm, ei_zip, ei_cons, brw_non, brw_bl, brw_int, brw_str, brw_glb, brw_tup, brw_lst, brw_bin, brw_neg, brw_nt, brw_cmp, brw_isN, brw_nsN, brw_chn, brw_and, brw_or, brw_ife, brw_cal, brw_bi, brw_isi, brw_mth, brw_ix, brw_sl, brw_rvs, brw_lc, brw_lrg, brw_var, brwV_o, brwV_p, resU_l, resU_r, slotU_s, ressU_nil, ressU_cons, opt2_s, got_some, got_if, decide_eq_true_eq, tstU_t, tstU_f, tstU_p, tstU_n, tstU_b, asIU_i, asBU_b, asSU_s, bu_add, bu_sub, bu_adds, bu_addt, bu_addl, bu_mod, bu_fdv, au_add, au_sub, cu_lt, cu_le, cu_gt, cu_ge, cu_eq, cu_ne, cu_in, cu_ni, equ_ii, equ_ss, biu_len, lenU_t, lenU_l, biu_int, biu_intb, biu_lists, biu_listt, biu_listl, biu_tupt, biu_tupl, biu_max, biu_min, biu_sets, biu_split, mu_app, mu_ext, mu_ins, ixu_t, ixu_l, slu_t, slu_l, srcu_t, srcu_l, srcu_s, rgu_1, rgu_2, zpu_t, zpu_l, wipeU_nil, wipeU_cons, obind_s, bindsU_nil, bindsU_cons, setsU_nil, isNU, Option.map_some, Option.bind_some, cnt_nil, cnt_cons, List.getElem?_cons_zero, List.getElem?_cons_succ, List.set_cons_zero, List.set_cons_succ, List.map_cons, List.map_nil, List.length_cons, List.length_nil, List.replicate_succ, List.replicate_zero, List.cons_append, List.nil_append, Bool.not_true, Bool.not_false, if_true, if_false, Nat.reduceAdd, Nat.reduceSub, Nat.reduceLT, Nat.reduceLeDiff, Int.reduceLT, Bool.false_eq_true, true_and, and_true, forall_const])
  rw [setsU_cons (by simp)]
  (try simp only [wc_nil, wc_one, wc_set, wc_ife, wc_exp, wc_retv, wr_non, wr_bl, wr_int, wr_str, wr_glb, wr_tup, wr_lst, wr_bin, wr_neg, wr_nt, wr_cmp, wr_isN, wr_nsN, wr_chn, wr_and, wr_or, wr_ife, wr_cal, wr_bi, wr_isi, wr_mth, wr_ix, wr_sl, wr_rvs, wr_lc, wr_lrg, wc_retN, wc_pas, wc_brk, wc_cnt, wc_wip, wc_for, wc_aug, wc_put, nxU_nx, nxU_rt, nxU_bk, nxU_ct, rtU_nx, rtU_rt, retV_s, e_var, varW_o, varW_p, e_non, e_bl, e_int, e_str, e_glb, e_tup, e_lst, e_bin, e_neg, e_nt, e_cmp, e_isN, e_nsN, e_chn, e_and, e_or, e_ife, e_cal, e_bi, e_isi, e_ix, e_sl, e_rvs, e_lrg, e_join, e_app, e_ins, e_pop, e_ext, mthV_o, mthG_o, extG_o, joinG_1, rvsG_l, enmG_1, setG_o, ea_nil, ea_cons, em_nil, em_cons, eo_nil, eo_cons, ei_rng, ei_enm, ei_zip, ei_cons, brw_non, brw_bl, brw_int, brw_str, brw_glb, brw_tup, brw_lst, brw_bin, brw_neg, brw_nt, brw_cmp, brw_isN, brw_nsN, brw_chn, brw_and, brw_or, brw_ife, brw_cal, brw_bi, brw_isi, brw_mth, brw_ix, brw_sl, brw_rvs, brw_lc, brw_lrg, brw_var, brwV_o, brwV_p, resU_l, resU_r, slotU_s, ressU_nil, ressU_cons, opt2_s, got_some, got_if, decide_eq_true_eq, tstU_t, tstU_f, tstU_p, tstU_n, tstU_b, asIU_i, asBU_b, asSU_s, bu_add, bu_sub, bu_adds, bu_addt, bu_addl, bu_mod, bu_fdv, au_add, au_sub, cu_lt, cu_le, cu_gt, cu_ge, cu_eq, cu_ne, cu_in, cu_ni, equ_ii, equ_ss, biu_len, lenU_t, lenU_l, biu_int, biu_intb, biu_lists, biu_listt, biu_listl, biu_tupt, biu_tupl, biu_max, biu_min, biu_sets, biu_split, mu_app, mu_ext, mu_ins, ixu_t, ixu_l, slu_t, slu_l, srcu_t, srcu_l, srcu_s, rgu_1, rgu_2, zpu_t, zpu_l, wipeU_nil, wipeU_cons, obind_s, bindsU_nil, bindsU_cons, setsU_nil, isNU, Option.map_some, Option.bind_some, cnt_nil, cnt_cons, List.getElem?_cons_zero, List.getElem?_cons_succ, List.set_cons_zero, List.set_cons_succ, List.map_cons, List.map_nil, List.length_cons, List.length_nil, List.replicate_succ, List.replicate_zero, List.cons_append, List.nil_append, Bool.not_true, Bool.not_false, if_true, if_false, Nat.reduceAdd, Nat.reduceSub, Nat.reduceLT, Nat.reduceLeDiff, Int.reduceLT, Bool.false_eq_true, true_and, and_true, forall_const])
  rw [setsU_cons (by simp)]
  (try simp only [wc_nil, wc_one, wc_set, wc_ife, wc_exp, wc_retv, wr_non, wr_bl, wr_int, wr_str, wr_glb, wr_tup, wr_lst, wr_bin, wr_neg, wr_nt, wr_cmp, wr_isN, wr_nsN, wr_chn, wr_and, wr_or, wr_ife, wr_cal, wr_bi, wr_isi, wr_mth, wr_ix, wr_sl, wr_rvs, wr_lc, wr_lrg, wc_retN, wc_pas, wc_brk, wc_cnt, wc_wip, wc_for, wc_aug, wc_put, nxU_nx, nxU_rt, nxU_bk, nxU_ct, rtU_nx, rtU_rt, retV_s, e_var, varW_o, varW_p, e_non, e_bl, e_int, e_str, e_glb, e_tup, e_lst, e_bin, e_neg, e_nt, e_cmp, e_isN, e_nsN, e_chn, e_and, e_or, e_ife, e_cal, e_bi, e_isi, e_ix, e_sl, e_rvs, e_lrg, e_join, e_app, e_ins, e_pop, e_ext, mthV_o, mthG_o, extG_o, joinG_1, rvsG_l, enmG_1, setG_o, ea_nil, ea_cons, em_nil, em_cons, eo_nil, eo_cons, ei_rng, ei_enm, ei_zip, ei_cons, brw_non, brw_bl, brw_int, brw_str, brw_glb, brw_tup, brw_lst, brw_bin, brw_neg, brw_nt, brw_cmp, brw_isN, brw_nsN, brw_chn, brw_and, brw_or, brw_ife, brw_cal, brw_bi, brw_isi, brw_mth, brw_ix, brw_sl, brw_rvs, brw_lc, brw_lrg, brw_var, brwV_o, brwV_p, resU_l, resU_r, slotU_s, ressU_nil, ressU_cons, opt2_s, got_some, got_if, decide_eq_true_eq, tstU_t, tstU_f, tstU_p, tstU_n, tstU_b, asIU_i, asBU_b, asSU_s, bu_add, bu_sub, bu_adds, bu_addt, bu_addl, bu_mod, bu_fdv, au_add, au_sub, cu_lt, cu_le, cu_gt, cu_ge, cu_eq, cu_ne, cu_in, cu_ni, equ_ii, equ_ss, biu_len, lenU_t, lenU_l, biu_int, biu_intb, biu_lists, biu_listt, biu_listl, biu_tupt, biu_tupl, biu_max, biu_min, biu_sets, biu_split, mu_app, mu_ext, mu_ins, ixu_t, ixu_l, slu_t, slu_l, srcu_t, srcu_l, srcu_s, rgu_1, rgu_2, zpu_t, zpu_l, wipeU_nil, wipeU_cons, obind_s, bindsU_nil, bindsU_cons, setsU_nil, isNU, Option.map_some, Option.bind_some, cnt_nil, cnt_cons, List.getElem?_cons_zero, List.getElem?_cons_succ, List.set_cons_zero, List.set_cons_succ, List.map_cons, List.map_nil, List.length_cons, List.length_nil, List.replicate_succ, List.replicate_zero, List.cons_append, List.nil_append, Bool.not_true, Bool.not_false, if_true, if_false, Nat.reduceAdd, Nat.reduceSub, Nat.reduceLT, Nat.reduceLeDiff, Int.reduceLT, Bool.false_eq_true, true_and, and_true, forall_const])
  refine ⟨by rw [sizeLine_eq]; omega, by rw [sizeLine_eq]; omega, hK _ _ ?_⟩
  refine wc_step fun K2 hK2 => ?_
  (try simp only [wc_nil, wc_one, wc_set, wc_ife, wc_exp, wc_retv, wr_non, wr_bl, wr_int, wr_str, wr_glb, wr_tup, wr_lst, wr_bin, wr_neg, wr_nt, wr_cmp, wr_isN, wr_nsN, wr_chn, wr_and, wr_or, wr_ife, wr_cal, wr_bi, wr_isi, wr_mth, wr_ix, wr_sl, wr_rvs, wr_lc, wr_lrg, wc_retN, wc_pas, wc_brk, wc_cnt, wc_wip, wc_for, wc_aug, wc_put, nxU_nx, nxU_rt, nxU_bk, nxU_ct, rtU_nx, rtU_rt, retV_s, e_var, varW_o, varW_p, e_non, e_bl, e_int, e_str, e_glb, e_tup, e_lst, e_bin, e_neg, e_nt, e_cmp, e_isN, e_nsN, e_chn, e_and, e_or, e_ife, e_cal, e_bi, e_isi, e_ix, e_sl, e_rvs, e_lrg, e_join, e_app, e_ins, e_pop, e_ext, mthV_o, mthG_o, extG_o, joinG_1, rvsG_l, enmG_1, setG_o, ea_nil, ea_cons, em_nil, em_cons, eo_nil, eo_cons, ei_rng, ei_enm, ei_zip, ei_cons, brw_non, brw_bl, brw_int, brw_str, brw_glb, brw_tup, brw_lst, brw_bin, brw_neg, brw_nt, brw_cmp, brw_isN, brw_nsN, brw_chn, brw_and, brw_or, brw_ife, brw_cal, brw_bi, brw_isi, brw_mth, brw_ix, brw_sl, brw_rvs, brw_lc, brw_lrg, brw_var, brwV_o, brwV_p, resU_l, resU_r, slotU_s, ressU_nil, ressU_cons, opt2_s, got_some, got_if, decide_eq_true_eq, tstU_t, tstU_f, tstU_p, tstU_n, tstU_b, asIU_i, asBU_b, asSU_s, bu_add, bu_sub, bu_adds, bu_addt, bu_addl, bu_mod, bu_fdv, au_add, au_sub, cu_lt, cu_le, cu_gt, cu_ge, cu_eq, cu_ne, cu_in, cu_ni, equ_ii, equ_ss, biu_len, lenU_t, lenU_l, biu_int, biu_intb, biu_lists, biu_listt, biu_listl, biu_tupt, biu_tupl, biu_max, biu_min, biu_sets, biu_split, mu_app, mu_ext, mu_ins, ixu_t, ixu_l, slu_t, slu_l, srcu_t, srcu_l, srcu_s, rgu_1, rgu_2, zpu_t, zpu_l, wipeU_nil, wipeU_cons, obind_s, bindsU_nil, bindsU_cons, setsU_nil, isNU, Option.map_some, Option.bind_some, cnt_nil, cnt_cons, List.getElem?_cons_zero, List.getElem?_cons_succ, List.set_cons_zero, List.set_cons_succ, List.map_cons, List.map_nil, List.length_cons, List.length_nil, List.replicate_succ, List.replicate_zero, List.cons_append, List.nil_append, Bool.not_true, Bool.not_false, if_true, if_false, Nat.reduceAdd, Nat.reduceSub, Nat.reduceLT, Nat.reduceLeDiff, Int.reduceLT, Bool.false_eq_true, true_and, and_true, forall_const])
  refine call_take ht (by omega) (by decide) (by decide) fun n n0 n1 => ?_
  have hb : big62 n = true := by unfold big62; simp; omega
  simp only [wc_nil, wc_one, wc_set, wc_ife, wc_exp, wc_retv, wr_non, wr_bl, wr_int, wr_str, wr_glb, wr_tup, wr_lst, wr_bin, wr_neg, wr_nt, wr_cmp, wr_isN, wr_nsN, wr_chn, wr_and, wr_or, wr_ife, wr_cal, wr_bi, wr_isi, wr_mth, wr_ix, wr_sl, wr_rvs, wr_lc, wr_lrg, wc_retN, wc_pas, wc_brk, wc_cnt, wc_wip, wc_for, wc_aug, wc_put, nxU_nx, nxU_rt, nxU_bk, nxU_ct, rtU_nx, rtU_rt, retV_s, e_var, varW_o, varW_p, e_non, e_bl, e_int, e_str, e_glb, e_tup, e_lst, e_bin, e_neg, e_nt, e_cmp, e_isN, e_nsN, e_chn, e_and, e_or, e_ife, e_cal, e_bi, e_isi, e_ix, e_sl, e_rvs, e_lrg, e_join, e_app, e_ins, e_pop, e_ext, mthV_o, mthG_o, extG_o, joinG_1, rvsG_l, enmG_1, setG_o, ea_nil, ea_cons, em_nil, em_cons, eo_nil, eo_cons, ei_rng, ei_enm, ei_zip, ei_cons, brw_non, brw_bl, brw_int, brw_str, brw_glb, brw_tup, brw_lst, brw_bin, brw_neg, brw_nt, brw_cmp, brw_isN, brw_nsN, brw_chn, brw_and, brw_or, brw_ife, brw_cal, brw_bi, brw_isi, brw_mth, brw_ix, brw_sl, brw_rvs, brw_lc, brw_lrg, brw_var, brwV_o, brwV_p, resU_l, resU_r, slotU_s, ressU_nil, ressU_cons, opt2_s, got_some, got_if, decide_eq_true_eq, tstU_t, tstU_f, tstU_p, tstU_n, tstU_b, asIU_i, asBU_b, asSU_s, bu_add, bu_sub, bu_adds, bu_addt, bu_addl, bu_mod, bu_fdv, au_add, au_sub, cu_lt, cu_le, cu_gt, cu_ge, cu_eq, cu_ne, cu_in, cu_ni, equ_ii, equ_ss, biu_len, lenU_t, lenU_l, biu_int, biu_intb, biu_lists, biu_listt, biu_listl, biu_tupt, biu_tupl, biu_max, biu_min, biu_sets, biu_split, mu_app, mu_ext, mu_ins, ixu_t, ixu_l, slu_t, slu_l, srcu_t, srcu_l, srcu_s, rgu_1, rgu_2, zpu_t, zpu_l, wipeU_nil, wipeU_cons, obind_s, bindsU_nil, bindsU_cons, setsU_nil, isNU, Option.map_some, Option.bind_some, cnt_nil, cnt_cons, List.getElem?_cons_zero, List.getElem?_cons_succ, List.set_cons_zero, List.set_cons_succ, List.map_cons, List.map_nil, List.length_cons, List.length_nil, List.replicate_succ, List.replicate_zero, List.cons_append, List.nil_append, Bool.not_true, Bool.not_false, if_true, if_false, Nat.reduceAdd, Nat.reduceSub, Nat.reduceLT, Nat.reduceLeDiff, Int.reduceLT, Bool.false_eq_true, true_and, and_true, forall_const, hb]
  refine for_inv (fun i σ1 k1 => ∃ (s1 s4 : Slot) (fs : List Str), σ1 = [some (.pen, false), s1, some (.str "abcdefghijklmnopqrstuvwxyz", false), some (.lst (fs.map U.str), true), s4, none] ∧ fs.length = i ∧ (∀ f ∈ fs, FrameU f) ∧ k1 ≤ k + 1 + 30 * i) ⟨none, none, [], rfl, rfl, by simp, by omega⟩ ?_ ?_
  · rintro i u σ1 k1 hu ⟨s1, s4, fs, rfl, rfl, hf, hk1⟩ KK kn kc kb kr
    obtain ⟨hi, rfl⟩ := rangeU_get hu
    rw [bindU_var (by simp)]
    (try simp only [wc_nil, wc_one, wc_set, wc_ife, wc_exp, wc_retv, wr_non, wr_bl, wr_int, wr_str, wr_glb, wr_tup, wr_lst, wr_bin, wr_neg, wr_nt, wr_cmp, wr_isN, wr_nsN, wr_chn, wr_and, wr_or, wr_ife, wr_cal, wr_bi, wr_isi, wr_mth, wr_ix, wr_sl, wr_rvs, wr_lc, wr_lrg, wc_retN, wc_pas, wc_brk, wc_cnt, wc_wip, wc_for, wc_aug, wc_put, nxU_nx, nxU_rt, nxU_bk, nxU_ct, rtU_nx, rtU_rt, retV_s, e_var, varW_o, varW_p, e_non, e_bl, e_int, e_str, e_glb, e_tup, e_lst, e_bin, e_neg, e_nt, e_cmp, e_isN, e_nsN, e_chn, e_and, e_or, e_ife, e_cal, e_bi, e_isi, e_ix, e_sl, e_rvs, e_lrg, e_join, e_app, e_ins, e_pop, e_ext, mthV_o, mthG_o, extG_o, joinG_1, rvsG_l, enmG_1, setG_o, ea_nil, ea_cons, em_nil, em_cons, eo_nil, eo_cons, ei_rng, ei_enm, ei_zip, ei_cons, brw_non, brw_bl, brw_int, brw_str, brw_glb, brw_tup, brw_lst, brw_bin, brw_neg, brw_nt, brw_cmp, brw_isN, brw_nsN, brw_chn, brw_and, brw_or, brw_ife, brw_cal, brw_bi, brw_isi, brw_mth, brw_ix, brw_sl, brw_rvs, brw_lc, brw_lrg, brw_var, brwV_o, brwV_p, resU_l, resU_r, slotU_s, ressU_nil, ressU_cons, opt2_s, got_some, got_if, decide_eq_true_eq, tstU_t, tstU_f, tstU_p, tstU_n, tstU_b, asIU_i, asBU_b, asSU_s, bu_add, bu_sub, bu_adds, bu_addt, bu_addl, bu_mod, bu_fdv, au_add, au_sub, cu_lt, cu_le, cu_gt, cu_ge, cu_eq, cu_ne, cu_in, cu_ni, equ_ii, equ_ss, biu_len, lenU_t, lenU_l, biu_int, biu_intb, biu_lists, biu_listt, biu_listl, biu_tupt, biu_tupl, biu_max, biu_min, biu_sets, biu_split, mu_app, mu_ext, mu_ins, ixu_t, ixu_l, slu_t, slu_l, srcu_t, srcu_l, srcu_s, rgu_1, rgu_2, zpu_t, zpu_l, wipeU_nil, wipeU_cons, obind_s, bindsU_nil, bindsU_cons, setsU_nil, isNU, Option.map_some, Option.bind_some, cnt_nil, cnt_cons, List.getElem?_cons_zero, List.getElem?_cons_succ, List.set_cons_zero, List.set_cons_succ, List.map_cons, List.map_nil, List.length_cons, List.length_nil, List.replicate_succ, List.replicate_zero, List.cons_append, List.nil_append, Bool.not_true, Bool.not_false, if_true, if_false, Nat.reduceAdd, Nat.reduceSub, Nat.reduceLT, Nat.reduceLeDiff, Int.reduceLT, Bool.false_eq_true, true_and, and_true, forall_const])
    refine wc_step fun K3 hK3 => ?_
    (try simp only [wc_nil, wc_one, wc_set, wc_ife, wc_exp, wc_retv, wr_non, wr_bl, wr_int, wr_str, wr_glb, wr_tup, wr_lst, wr_bin, wr_neg, wr_nt, wr_cmp, wr_isN, wr_nsN, wr_chn, wr_and, wr_or, wr_ife, wr_cal, wr_bi, wr_isi, wr_mth, wr_ix, wr_sl, wr_rvs, wr_lc, wr_lrg, wc_retN, wc_pas, wc_brk, wc_cnt, wc_wip, wc_for, wc_aug, wc_put, nxU_nx, nxU_rt, nxU_bk, nxU_ct, rtU_nx, rtU_rt, retV_s, e_var, varW_o, varW_p, e_non, e_bl, e_int, e_str, e_glb, e_tup, e_lst, e_bin, e_neg, e_nt, e_cmp, e_isN, e_nsN, e_chn, e_and, e_or, e_ife, e_cal, e_bi, e_isi, e_ix, e_sl, e_rvs, e_lrg, e_join, e_app, e_ins, e_pop, e_ext, mthV_o, mthG_o, extG_o, joinG_1, rvsG_l, enmG_1, setG_o, ea_nil, ea_cons, em_nil, em_cons, eo_nil, eo_cons, ei_rng, ei_enm, ei_zip, ei_cons, brw_non, brw_bl, brw_int, brw_str, brw_glb, brw_tup, brw_lst, brw_bin, brw_neg, brw_nt, brw_cmp, brw_isN, brw_nsN, brw_chn, brw_and, brw_or, brw_ife, brw_cal, brw_bi, brw_isi, brw_mth, brw_ix, brw_sl, brw_rvs, brw_lc, brw_lrg, brw_var, brwV_o, brwV_p, resU_l, resU_r, slotU_s, ressU_nil, ressU_cons, opt2_s, got_some, got_if, decide_eq_true_eq, tstU_t, tstU_f, tstU_p, tstU_n, tstU_b, asIU_i, asBU_b, asSU_s, bu_add, bu_sub, bu_adds, bu_addt, bu_addl, bu_mod, bu_fdv, au_add, au_sub, cu_lt, cu_le, cu_gt, cu_ge, cu_eq, cu_ne, cu_in, cu_ni, equ_ii, equ_ss, biu_len, lenU_t, lenU_l, biu_int, biu_intb, biu_lists, biu_listt, biu_listl, biu_tupt, biu_tupl, biu_max, biu_min, biu_sets, biu_split, mu_app, mu_ext, mu_ins, ixu_t, ixu_l, slu_t, slu_l, srcu_t, srcu_l, srcu_s, rgu_1, rgu_2, zpu_t, zpu_l, wipeU_nil, wipeU_cons, obind_s, bindsU_nil, bindsU_cons, setsU_nil, isNU, Option.map_some, Option.bind_some, cnt_nil, cnt_cons, List.getElem?_cons_zero, List.getElem?_cons_succ, List.set_cons_zero, List.set_cons_succ, List.map_cons, List.map_nil, List.length_cons, List.length_nil, List.replicate_succ, List.replicate_zero, List.cons_append, List.nil_append, Bool.not_true, Bool.not_false, if_true, if_false, Nat.reduceAdd, Nat.reduceSub, Nat.reduceLT, Nat.reduceLeDiff, Int.reduceLT, Bool.false_eq_true, true_and, and_true, forall_const])
    rw [e_lc rfl rfl]
    (try simp only [wc_nil, wc_one, wc_set, wc_ife, wc_exp, wc_retv, wr_non, wr_bl, wr_int, wr_str, wr_glb, wr_tup, wr_lst, wr_bin, wr_neg, wr_nt, wr_cmp, wr_isN, wr_nsN, wr_chn, wr_and, wr_or, wr_ife, wr_cal, wr_bi, wr_isi, wr_mth, wr_ix, wr_sl, wr_rvs, wr_lc, wr_lrg, wc_retN, wc_pas, wc_brk, wc_cnt, wc_wip, wc_for, wc_aug, wc_put, nxU_nx, nxU_rt, nxU_bk, nxU_ct, rtU_nx, rtU_rt, retV_s, e_var, varW_o, varW_p, e_non, e_bl, e_int, e_str, e_glb, e_tup, e_lst, e_bin, e_neg, e_nt, e_cmp, e_isN, e_nsN, e_chn, e_and, e_or, e_ife, e_cal, e_bi, e_isi, e_ix, e_sl, e_rvs, e_lrg, e_join, e_app, e_ins, e_pop, e_ext, mthV_o, mthG_o, extG_o, joinG_1, rvsG_l, enmG_1, setG_o, ea_nil, ea_cons, em_nil, em_cons, eo_nil, eo_cons, ei_rng, ei_enm, ei_zip, ei_cons, brw_non, brw_bl, brw_int, brw_str, brw_glb, brw_tup, brw_lst, brw_bin, brw_neg, brw_nt, brw_cmp, brw_isN, brw_nsN, brw_chn, brw_and, brw_or, brw_ife, brw_cal, brw_bi, brw_isi, brw_mth, brw_ix, brw_sl, brw_rvs, brw_lc, brw_lrg, brw_var, brwV_o, brwV_p, resU_l, resU_r, slotU_s, ressU_nil, ressU_cons, opt2_s, got_some, got_if, decide_eq_true_eq, tstU_t, tstU_f, tstU_p, tstU_n, tstU_b, asIU_i, asBU_b, asSU_s, bu_add, bu_sub, bu_adds, bu_addt, bu_addl, bu_mod, bu_fdv, au_add, au_sub, cu_lt, cu_le, cu_gt, cu_ge, cu_eq, cu_ne, cu_in, cu_ni, equ_ii, equ_ss, biu_len, lenU_t, lenU_l, biu_int, biu_intb, biu_lists, biu_listt, biu_listl, biu_tupt, biu_tupl, biu_max, biu_min, biu_sets, biu_split, mu_app, mu_ext, mu_ins, ixu_t, ixu_l, slu_t, slu_l, srcu_t, srcu_l, srcu_s, rgu_1, rgu_2, zpu_t, zpu_l, wipeU_nil, wipeU_cons, obind_s, bindsU_nil, bindsU_cons, setsU_nil, isNU, Option.map_some, Option.bind_some, cnt_nil, cnt_cons, List.getElem?_cons_zero, List.getElem?_cons_succ, List.set_cons_zero, List.set_cons_succ, List.map_cons, List.map_nil, List.length_cons, List.length_nil, List.replicate_succ, List.replicate_zero, List.cons_append, List.nil_append, Bool.not_true, Bool.not_false, if_true, if_false, Nat.reduceAdd, Nat.reduceSub, Nat.reduceLT, Nat.reduceLeDiff, Int.reduceLT, Bool.false_eq_true, true_and, and_true, forall_const])
    have hs : signsU "abcdefghijklmnopqrstuvwxyz" = alpha.map fun c => U.str ⟨#[c]⟩ := by
      unfold signsU
      rw [show ("abcdefghijklmnopqrstuvwxyz" : Str).cps.toList = alpha from letters_cps]
    have hfl : fs.length < 17 := by omega
    rw [hs]
    refine lc_inv (fun i acc σ1 k2 => ∃ cs : List Nat, acc = (cs.map fun c => (⟨#[c]⟩ : Str)).map U.str ∧ cs.Sublist (alpha.take i) ∧ wipeU σ1 [5] = [some (.pen, false), some (.int (0 + (fs.length : Nat)), false), some (.str "abcdefghijklmnopqrstuvwxyz", false), some (.lst (fs.map U.str), true), s4, none] ∧ k2 ≤ k1 + i) ⟨[], rfl, by simp, rfl, by omega⟩ ?_ ?_
    · rintro i u acc σ1 k2 hu ⟨cs, rfl, hcs, hw, hk2⟩ KL hKL
      rw [List.getElem?_map] at hu
      obtain ⟨ch, hc, rfl⟩ := Option.map_eq_some_iff.mp hu
      have hi26 : i < 26 := (List.getElem?_eq_some_iff.mp hc).1
      rw [hw, bindU_var (by simp)]
      (try simp only [wc_nil, wc_one, wc_set, wc_ife, wc_exp, wc_retv, wr_non, wr_bl, wr_int, wr_str, wr_glb, wr_tup, wr_lst, wr_bin, wr_neg, wr_nt, wr_cmp, wr_isN, wr_nsN, wr_chn, wr_and, wr_or, wr_ife, wr_cal, wr_bi, wr_isi, wr_mth, wr_ix, wr_sl, wr_rvs, wr_lc, wr_lrg, wc_retN, wc_pas, wc_brk, wc_cnt, wc_wip, wc_for, wc_aug, wc_put, nxU_nx, nxU_rt, nxU_bk, nxU_ct, rtU_nx, rtU_rt, retV_s, e_var, varW_o, varW_p, e_non, e_bl, e_int, e_str, e_glb, e_tup, e_lst, e_bin, e_neg, e_nt, e_cmp, e_isN, e_nsN, e_chn, e_and, e_or, e_ife, e_cal, e_bi, e_isi, e_ix, e_sl, e_rvs, e_lrg, e_join, e_app, e_ins, e_pop, e_ext, mthV_o, mthG_o, extG_o, joinG_1, rvsG_l, enmG_1, setG_o, ea_nil, ea_cons, em_nil, em_cons, eo_nil, eo_cons, ei_rng, ei_enm, ei_zip, ei_cons, brw_non, brw_bl, brw_int, brw_str, brw_glb, brw_tup, brw_lst, brw_bin, brw_neg, brw_nt, brw_cmp, brw_isN, brw_nsN, brw_chn, brw_and, brw_or, brw_ife, brw_cal, brw_bi, brw_isi, brw_mth, brw_ix, brw_sl, brw_rvs, brw_lc, brw_lrg, brw_var, brwV_o, brwV_p, resU_l, resU_r, slotU_s, ressU_nil, ressU_cons, opt2_s, got_some, got_if, decide_eq_true_eq, tstU_t, tstU_f, tstU_p, tstU_n, tstU_b, asIU_i, asBU_b, asSU_s, bu_add, bu_sub, bu_adds, bu_addt, bu_addl, bu_mod, bu_fdv, au_add, au_sub, cu_lt, cu_le, cu_gt, cu_ge, cu_eq, cu_ne, cu_in, cu_ni, equ_ii, equ_ss, biu_len, lenU_t, lenU_l, biu_int, biu_intb, biu_lists, biu_listt, biu_listl, biu_tupt, biu_tupl, biu_max, biu_min, biu_sets, biu_split, mu_app, mu_ext, mu_ins, ixu_t, ixu_l, slu_t, slu_l, srcu_t, srcu_l, srcu_s, rgu_1, rgu_2, zpu_t, zpu_l, wipeU_nil, wipeU_cons, obind_s, bindsU_nil, bindsU_cons, setsU_nil, isNU, Option.map_some, Option.bind_some, cnt_nil, cnt_cons, List.getElem?_cons_zero, List.getElem?_cons_succ, List.set_cons_zero, List.set_cons_succ, List.map_cons, List.map_nil, List.length_cons, List.length_nil, List.replicate_succ, List.replicate_zero, List.cons_append, List.nil_append, Bool.not_true, Bool.not_false, if_true, if_false, Nat.reduceAdd, Nat.reduceSub, Nat.reduceLT, Nat.reduceLeDiff, Int.reduceLT, Bool.false_eq_true, true_and, and_true, forall_const])
      refine call_take ht (by omega) (by decide) (by decide) fun z z0 z1 => ?_
      (try simp only [wc_nil, wc_one, wc_set, wc_ife, wc_exp, wc_retv, wr_non, wr_bl, wr_int, wr_str, wr_glb, wr_tup, wr_lst, wr_bin, wr_neg, wr_nt, wr_cmp, wr_isN, wr_nsN, wr_chn, wr_and, wr_or, wr_ife, wr_cal, wr_bi, wr_isi, wr_mth, wr_ix, wr_sl, wr_rvs, wr_lc, wr_lrg, wc_retN, wc_pas, wc_brk, wc_cnt, wc_wip, wc_for, wc_aug, wc_put, nxU_nx, nxU_rt, nxU_bk, nxU_ct, rtU_nx, rtU_rt, retV_s, e_var, varW_o, varW_p, e_non, e_bl, e_int, e_str, e_glb, e_tup, e_lst, e_bin, e_neg, e_nt, e_cmp, e_isN, e_nsN, e_chn, e_and, e_or, e_ife, e_cal, e_bi, e_isi, e_ix, e_sl, e_rvs, e_lrg, e_join, e_app, e_ins, e_pop, e_ext, mthV_o, mthG_o, extG_o, joinG_1, rvsG_l, enmG_1, setG_o, ea_nil, ea_cons, em_nil, em_cons, eo_nil, eo_cons, ei_rng, ei_enm, ei_zip, ei_cons, brw_non, brw_bl, brw_int, brw_str, brw_glb, brw_tup, brw_lst, brw_bin, brw_neg, brw_nt, brw_cmp, brw_isN, brw_nsN, brw_chn, brw_and, brw_or, brw_ife, brw_cal, brw_bi, brw_isi, brw_mth, brw_ix, brw_sl, brw_rvs, brw_lc, brw_lrg, brw_var, brwV_o, brwV_p, resU_l, resU_r, slotU_s, ressU_nil, ressU_cons, opt2_s, got_some, got_if, decide_eq_true_eq, tstU_t, tstU_f, tstU_p, tstU_n, tstU_b, asIU_i, asBU_b, asSU_s, bu_add, bu_sub, bu_adds, bu_addt, bu_addl, bu_mod, bu_fdv, au_add, au_sub, cu_lt, cu_le, cu_gt, cu_ge, cu_eq, cu_ne, cu_in, cu_ni, equ_ii, equ_ss, biu_len, lenU_t, lenU_l, biu_int, biu_intb, biu_lists, biu_listt, biu_listl, biu_tupt, biu_tupl, biu_max, biu_min, biu_sets, biu_split, mu_app, mu_ext, mu_ins, ixu_t, ixu_l, slu_t, slu_l, srcu_t, srcu_l, srcu_s, rgu_1, rgu_2, zpu_t, zpu_l, wipeU_nil, wipeU_cons, obind_s, bindsU_nil, bindsU_cons, setsU_nil, isNU, Option.map_some, Option.bind_some, cnt_nil, cnt_cons, List.getElem?_cons_zero, List.getElem?_cons_succ, List.set_cons_zero, List.set_cons_succ, List.map_cons, List.map_nil, List.length_cons, List.length_nil, List.replicate_succ, List.replicate_zero, List.cons_append, List.nil_append, Bool.not_true, Bool.not_false, if_true, if_false, Nat.reduceAdd, Nat.reduceSub, Nat.reduceLT, Nat.reduceLeDiff, Int.reduceLT, Bool.false_eq_true, true_and, and_true, forall_const])
      split
      · refine hKL _ _ _ ⟨cs ++ [ch], by simp, ?_, by simp [wipeU], by omega⟩
        rw [List.take_succ, hc]
        exact hcs.append (List.Sublist.refl _)
      · refine hKL _ _ _ ⟨cs, by simp, ?_, by simp [wipeU], by omega⟩
        rw [List.take_succ]
        exact hcs.trans (List.sublist_append_left _ _)
    · rintro acc σ1 k2 ⟨cs, rfl, hcs, hw, hk2⟩
      have hcs2 : cs.Sublist alpha := hcs.trans (List.take_sublist _ _)
      have hk3 : k2 ≤ k1 + 26 := by rw [List.length_map] at hk2; exact hk2
      have e : mapO asSU ((cs.map fun c => (⟨#[c]⟩ : Str)).map U.str) = some (cs.map fun c => (⟨#[c]⟩ : Str)) := by
        rw [mapO_map (f := asSU) (g := U.str) (h := fun x => x) (fun _ => rfl), List.map_id']
      have hn : ((cs.map fun c => (⟨#[c]⟩ : Str)).map (·.length)).sum ≤ 26 := by
        have h1 : ((cs.map fun c => (⟨#[c]⟩ : Str)).map (·.length)).sum = cs.length := by
          clear e hw hcs hcs2
          induction cs with
          | nil => rfl
          | cons c cs ih => simp only [List.map_cons, List.sum_cons, ih, List.length_cons]; show 1 + _ = _; omega
        rw [h1]; exact hcs2.length_le
      rw [restU_wipe, hw]
      simp only [wc_nil, wc_one, wc_set, wc_ife, wc_exp, wc_retv, wr_non, wr_bl, wr_int, wr_str, wr_glb, wr_tup, wr_lst, wr_bin, wr_neg, wr_nt, wr_cmp, wr_isN, wr_nsN, wr_chn, wr_and, wr_or, wr_ife, wr_cal, wr_bi, wr_isi, wr_mth, wr_ix, wr_sl, wr_rvs, wr_lc, wr_lrg, wc_retN, wc_pas, wc_brk, wc_cnt, wc_wip, wc_for, wc_aug, wc_put, nxU_nx, nxU_rt, nxU_bk, nxU_ct, rtU_nx, rtU_rt, retV_s, e_var, varW_o, varW_p, e_non, e_bl, e_int, e_str, e_glb, e_tup, e_lst, e_bin, e_neg, e_nt, e_cmp, e_isN, e_nsN, e_chn, e_and, e_or, e_ife, e_cal, e_bi, e_isi, e_ix, e_sl, e_rvs, e_lrg, e_join, e_app, e_ins, e_pop, e_ext, mthV_o, mthG_o, extG_o, joinG_1, rvsG_l, enmG_1, setG_o, ea_nil, ea_cons, em_nil, em_cons, eo_nil, eo_cons, ei_rng, ei_enm, ei_zip, ei_cons, brw_non, brw_bl, brw_int, brw_str, brw_glb, brw_tup, brw_lst, brw_bin, brw_neg, brw_nt, brw_cmp, brw_isN, brw_nsN, brw_chn, brw_and, brw_or, brw_ife, brw_cal, brw_bi, brw_isi, brw_mth, brw_ix, brw_sl, brw_rvs, brw_lc, brw_lrg, brw_var, brwV_o, brwV_p, resU_l, resU_r, slotU_s, ressU_nil, ressU_cons, opt2_s, got_some, got_if, decide_eq_true_eq, tstU_t, tstU_f, tstU_p, tstU_n, tstU_b, asIU_i, asBU_b, asSU_s, bu_add, bu_sub, bu_adds, bu_addt, bu_addl, bu_mod, bu_fdv, au_add, au_sub, cu_lt, cu_le, cu_gt, cu_ge, cu_eq, cu_ne, cu_in, cu_ni, equ_ii, equ_ss, biu_len, lenU_t, lenU_l, biu_int, biu_intb, biu_lists, biu_listt, biu_listl, biu_tupt, biu_tupl, biu_max, biu_min, biu_sets, biu_split, mu_app, mu_ext, mu_ins, ixu_t, ixu_l, slu_t, slu_l, srcu_t, srcu_l, srcu_s, rgu_1, rgu_2, zpu_t, zpu_l, wipeU_nil, wipeU_cons, obind_s, bindsU_nil, bindsU_cons, setsU_nil, isNU, Option.map_some, Option.bind_some, cnt_nil, cnt_cons, List.getElem?_cons_zero, List.getElem?_cons_succ, List.set_cons_zero, List.set_cons_succ, List.map_cons, List.map_nil, List.length_cons, List.length_nil, List.replicate_succ, List.replicate_zero, List.cons_append, List.nil_append, Bool.not_true, Bool.not_false, if_true, if_false, Nat.reduceAdd, Nat.reduceSub, Nat.reduceLT, Nat.reduceLeDiff, Int.reduceLT, Bool.false_eq_true, true_and, and_true, forall_const, restU_nil, restU_cons, restV_p, restV_o, restV_n, joinu (u := .lst _) rfl e (by rw [show ("" : Str).length = 0 by decide]; omega), join_signs, List.length_map]
      refine ⟨by rw [sizeLine_eq]; decide, hK3 _ _ ?_⟩
      (try simp only [wc_nil, wc_one, wc_set, wc_ife, wc_exp, wc_retv, wr_non, wr_bl, wr_int, wr_str, wr_glb, wr_tup, wr_lst, wr_bin, wr_neg, wr_nt, wr_cmp, wr_isN, wr_nsN, wr_chn, wr_and, wr_or, wr_ife, wr_cal, wr_bi, wr_isi, wr_mth, wr_ix, wr_sl, wr_rvs, wr_lc, wr_lrg, wc_retN, wc_pas, wc_brk, wc_cnt, wc_wip, wc_for, wc_aug, wc_put, nxU_nx, nxU_rt, nxU_bk, nxU_ct, rtU_nx, rtU_rt, retV_s, e_var, varW_o, varW_p, e_non, e_bl, e_int, e_str, e_glb, e_tup, e_lst, e_bin, e_neg, e_nt, e_cmp, e_isN, e_nsN, e_chn, e_and, e_or, e_ife, e_cal, e_bi, e_isi, e_ix, e_sl, e_rvs, e_lrg, e_join, e_app, e_ins, e_pop, e_ext, mthV_o, mthG_o, extG_o, joinG_1, rvsG_l, enmG_1, setG_o, ea_nil, ea_cons, em_nil, em_cons, eo_nil, eo_cons, ei_rng, ei_enm, ei_zip, ei_cons, brw_non, brw_bl, brw_int, brw_str, brw_glb, brw_tup, brw_lst, brw_bin, brw_neg, brw_nt, brw_cmp, brw_isN, brw_nsN, brw_chn, brw_and, brw_or, brw_ife, brw_cal, brw_bi, brw_isi, brw_mth, brw_ix, brw_sl, brw_rvs, brw_lc, brw_lrg, brw_var, brwV_o, brwV_p, resU_l, resU_r, slotU_s, ressU_nil, ressU_cons, opt2_s, got_some, got_if, decide_eq_true_eq, tstU_t, tstU_f, tstU_p, tstU_n, tstU_b, asIU_i, asBU_b, asSU_s, bu_add, bu_sub, bu_adds, bu_addt, bu_addl, bu_mod, bu_fdv, au_add, au_sub, cu_lt, cu_le, cu_gt, cu_ge, cu_eq, cu_ne, cu_in, cu_ni, equ_ii, equ_ss, biu_len, lenU_t, lenU_l, biu_int, biu_intb, biu_lists, biu_listt, biu_listl, biu_tupt, biu_tupl, biu_max, biu_min, biu_sets, biu_split, mu_app, mu_ext, mu_ins, ixu_t, ixu_l, slu_t, slu_l, srcu_t, srcu_l, srcu_s, rgu_1, rgu_2, zpu_t, zpu_l, wipeU_nil, wipeU_cons, obind_s, bindsU_nil, bindsU_cons, setsU_nil, isNU, Option.map_some, Option.bind_some, cnt_nil, cnt_cons, List.getElem?_cons_zero, List.getElem?_cons_succ, List.set_cons_zero, List.set_cons_succ, List.map_cons, List.map_nil, List.length_cons, List.length_nil, List.replicate_succ, List.replicate_zero, List.cons_append, List.nil_append, Bool.not_true, Bool.not_false, if_true, if_false, Nat.reduceAdd, Nat.reduceSub, Nat.reduceLT, Nat.reduceLeDiff, Int.reduceLT, Bool.false_eq_true, true_and, and_true, forall_const])
      refine call_take ht (by omega) (by decide) (by decide) fun z z0 z1 => ?_
      obtain ⟨ch, hc, hcm⟩ := alpha_at z0 z1
      simp only [wc_nil, wc_one, wc_set, wc_ife, wc_exp, wc_retv, wr_non, wr_bl, wr_int, wr_str, wr_glb, wr_tup, wr_lst, wr_bin, wr_neg, wr_nt, wr_cmp, wr_isN, wr_nsN, wr_chn, wr_and, wr_or, wr_ife, wr_cal, wr_bi, wr_isi, wr_mth, wr_ix, wr_sl, wr_rvs, wr_lc, wr_lrg, wc_retN, wc_pas, wc_brk, wc_cnt, wc_wip, wc_for, wc_aug, wc_put, nxU_nx, nxU_rt, nxU_bk, nxU_ct, rtU_nx, rtU_rt, retV_s, e_var, varW_o, varW_p, e_non, e_bl, e_int, e_str, e_glb, e_tup, e_lst, e_bin, e_neg, e_nt, e_cmp, e_isN, e_nsN, e_chn, e_and, e_or, e_ife, e_cal, e_bi, e_isi, e_ix, e_sl, e_rvs, e_lrg, e_join, e_app, e_ins, e_pop, e_ext, mthV_o, mthG_o, extG_o, joinG_1, rvsG_l, enmG_1, setG_o, ea_nil, ea_cons, em_nil, em_cons, eo_nil, eo_cons, ei_rng, ei_enm, ei_zip, ei_cons, brw_non, brw_bl, brw_int, brw_str, brw_glb, brw_tup, brw_lst, brw_bin, brw_neg, brw_nt, brw_cmp, brw_isN, brw_nsN, brw_chn, brw_and, brw_or, brw_ife, brw_cal, brw_bi, brw_isi, brw_mth, brw_ix, brw_sl, brw_rvs, brw_lc, brw_lrg, brw_var, brwV_o, brwV_p, resU_l, resU_r, slotU_s, ressU_nil, ressU_cons, opt2_s, got_some, got_if, decide_eq_true_eq, tstU_t, tstU_f, tstU_p, tstU_n, tstU_b, asIU_i, asBU_b, asSU_s, bu_add, bu_sub, bu_adds, bu_addt, bu_addl, bu_mod, bu_fdv, au_add, au_sub, cu_lt, cu_le, cu_gt, cu_ge, cu_eq, cu_ne, cu_in, cu_ni, equ_ii, equ_ss, biu_len, lenU_t, lenU_l, biu_int, biu_intb, biu_lists, biu_listt, biu_listl, biu_tupt, biu_tupl, biu_max, biu_min, biu_sets, biu_split, mu_app, mu_ext, mu_ins, ixu_t, ixu_l, slu_t, slu_l, srcu_t, srcu_l, srcu_s, rgu_1, rgu_2, zpu_t, zpu_l, wipeU_nil, wipeU_cons, obind_s, bindsU_nil, bindsU_cons, setsU_nil, isNU, Option.map_some, Option.bind_some, cnt_nil, cnt_cons, List.getElem?_cons_zero, List.getElem?_cons_succ, List.set_cons_zero, List.set_cons_succ, List.map_cons, List.map_nil, List.length_cons, List.length_nil, List.replicate_succ, List.replicate_zero, List.cons_append, List.nil_append, Bool.not_true, Bool.not_false, if_true, if_false, Nat.reduceAdd, Nat.reduceSub, Nat.reduceLT, Nat.reduceLeDiff, Int.reduceLT, Bool.false_eq_true, true_and, and_true, forall_const, ixu_s]
      rw [show ("abcdefghijklmnopqrstuvwxyz" : Str).cps.toList = alpha from letters_cps, hc]
      (try simp only [wc_nil, wc_one, wc_set, wc_ife, wc_exp, wc_retv, wr_non, wr_bl, wr_int, wr_str, wr_glb, wr_tup, wr_lst, wr_bin, wr_neg, wr_nt, wr_cmp, wr_isN, wr_nsN, wr_chn, wr_and, wr_or, wr_ife, wr_cal, wr_bi, wr_isi, wr_mth, wr_ix, wr_sl, wr_rvs, wr_lc, wr_lrg, wc_retN, wc_pas, wc_brk, wc_cnt, wc_wip, wc_for, wc_aug, wc_put, nxU_nx, nxU_rt, nxU_bk, nxU_ct, rtU_nx, rtU_rt, retV_s, e_var, varW_o, varW_p, e_non, e_bl, e_int, e_str, e_glb, e_tup, e_lst, e_bin, e_neg, e_nt, e_cmp, e_isN, e_nsN, e_chn, e_and, e_or, e_ife, e_cal, e_bi, e_isi, e_ix, e_sl, e_rvs, e_lrg, e_join, e_app, e_ins, e_pop, e_ext, mthV_o, mthG_o, extG_o, joinG_1, rvsG_l, enmG_1, setG_o, ea_nil, ea_cons, em_nil, em_cons, eo_nil, eo_cons, ei_rng, ei_enm, ei_zip, ei_cons, brw_non, brw_bl, brw_int, brw_str, brw_glb, brw_tup, brw_lst, brw_bin, brw_neg, brw_nt, brw_cmp, brw_isN, brw_nsN, brw_chn, brw_and, brw_or, brw_ife, brw_cal, brw_bi, brw_isi, brw_mth, brw_ix, brw_sl, brw_rvs, brw_lc, brw_lrg, brw_var, brwV_o, brwV_p, resU_l, resU_r, slotU_s, ressU_nil, ressU_cons, opt2_s, got_some, got_if, decide_eq_true_eq, tstU_t, tstU_f, tstU_p, tstU_n, tstU_b, asIU_i, asBU_b, asSU_s, bu_add, bu_sub, bu_adds, bu_addt, bu_addl, bu_mod, bu_fdv, au_add, au_sub, cu_lt, cu_le, cu_gt, cu_ge, cu_eq, cu_ne, cu_in, cu_ni, equ_ii, equ_ss, biu_len, lenU_t, lenU_l, biu_int, biu_intb, biu_lists, biu_listt, biu_listl, biu_tupt, biu_tupl, biu_max, biu_min, biu_sets, biu_split, mu_app, mu_ext, mu_ins, ixu_t, ixu_l, slu_t, slu_l, srcu_t, srcu_l, srcu_s, rgu_1, rgu_2, zpu_t, zpu_l, wipeU_nil, wipeU_cons, obind_s, bindsU_nil, bindsU_cons, setsU_nil, isNU, Option.map_some, Option.bind_some, cnt_nil, cnt_cons, List.getElem?_cons_zero, List.getElem?_cons_succ, List.set_cons_zero, List.set_cons_succ, List.map_cons, List.map_nil, List.length_cons, List.length_nil, List.replicate_succ, List.replicate_zero, List.cons_append, List.nil_append, Bool.not_true, Bool.not_false, if_true, if_false, Nat.reduceAdd, Nat.reduceSub, Nat.reduceLT, Nat.reduceLeDiff, Int.reduceLT, Bool.false_eq_true, true_and, and_true, forall_const])
      refine ⟨by rw [sizeLine_eq]; decide, by rw [sizeLine_eq]; decide, ?_⟩
      refine call_one ho (by omega) rfl (by simp) (by simp) fun v hv => ?_
      obtain ⟨f, rfl, hf'⟩ : ∃ f, v = .str f ∧ FrameU f := by
        simp only [List.mem_cons, List.not_mem_nil, or_false] at hv
        rcases hv with rfl | rfl | rfl | rfl | rfl | rfl
        · exact ⟨_, rfl, .inl rfl⟩
        · exact ⟨_, rfl, .inr (by rw [tl_e]; exact List.nil_sublist _)⟩
        · exact ⟨_, rfl, .inr (by rw [show TL.tl ("abcdefghijklmnopqrstuvwxyz" : Str) = alpha from letters_cps]; exact List.Sublist.refl _)⟩
        · exact ⟨_, rfl, .inr hcs2⟩
        · exact ⟨_, rfl, .inr (one_sub hcm)⟩
        · exact ⟨_, rfl, .inr (by decide +kernel)⟩
      simp only [wc_nil, wc_one, wc_set, wc_ife, wc_exp, wc_retv, wr_non, wr_bl, wr_int, wr_str, wr_glb, wr_tup, wr_lst, wr_bin, wr_neg, wr_nt, wr_cmp, wr_isN, wr_nsN, wr_chn, wr_and, wr_or, wr_ife, wr_cal, wr_bi, wr_isi, wr_mth, wr_ix, wr_sl, wr_rvs, wr_lc, wr_lrg, wc_retN, wc_pas, wc_brk, wc_cnt, wc_wip, wc_for, wc_aug, wc_put, nxU_nx, nxU_rt, nxU_bk, nxU_ct, rtU_nx, rtU_rt, retV_s, e_var, varW_o, varW_p, e_non, e_bl, e_int, e_str, e_glb, e_tup, e_lst, e_bin, e_neg, e_nt, e_cmp, e_isN, e_nsN, e_chn, e_and, e_or, e_ife, e_cal, e_bi, e_isi, e_ix, e_sl, e_rvs, e_lrg, e_join, e_app, e_ins, e_pop, e_ext, mthV_o, mthG_o, extG_o, joinG_1, rvsG_l, enmG_1, setG_o, ea_nil, ea_cons, em_nil, em_cons, eo_nil, eo_cons, ei_rng, ei_enm, ei_zip, ei_cons, brw_non, brw_bl, brw_int, brw_str, brw_glb, brw_tup, brw_lst, brw_bin, brw_neg, brw_nt, brw_cmp, brw_isN, brw_nsN, brw_chn, brw_and, brw_or, brw_ife, brw_cal, brw_bi, brw_isi, brw_mth, brw_ix, brw_sl, brw_rvs, brw_lc, brw_lrg, brw_var, brwV_o, brwV_p, resU_l, resU_r, slotU_s, ressU_nil, ressU_cons, opt2_s, got_some, got_if, decide_eq_true_eq, tstU_t, tstU_f, tstU_p, tstU_n, tstU_b, asIU_i, asBU_b, asSU_s, bu_add, bu_sub, bu_adds, bu_addt, bu_addl, bu_mod, bu_fdv, au_add, au_sub, cu_lt, cu_le, cu_gt, cu_ge, cu_eq, cu_ne, cu_in, cu_ni, equ_ii, equ_ss, biu_len, lenU_t, lenU_l, biu_int, biu_intb, biu_lists, biu_listt, biu_listl, biu_tupt, biu_tupl, biu_max, biu_min, biu_sets, biu_split, mu_app, mu_ext, mu_ins, ixu_t, ixu_l, slu_t, slu_l, srcu_t, srcu_l, srcu_s, rgu_1, rgu_2, zpu_t, zpu_l, wipeU_nil, wipeU_cons, obind_s, bindsU_nil, bindsU_cons, setsU_nil, isNU, Option.map_some, Option.bind_some, cnt_nil, cnt_cons, List.getElem?_cons_zero, List.getElem?_cons_succ, List.set_cons_zero, List.set_cons_succ, List.map_cons, List.map_nil, List.length_cons, List.length_nil, List.replicate_succ, List.replicate_zero, List.cons_append, List.nil_append, Bool.not_true, Bool.not_false, if_true, if_false, Nat.reduceAdd, Nat.reduceSub, Nat.reduceLT, Nat.reduceLeDiff, Int.reduceLT, Bool.false_eq_true, true_and, and_true, forall_const, List.length_map]
      refine ⟨by rw [sizeLine_eq]; omega, kn _ _ ⟨_, _, fs ++ [f], by rw [List.map_append]; rfl, by simp, fun g hg => ?_, by omega⟩⟩
      rcases List.mem_append.mp hg with hg | hg
      · exact hf g hg
      · rw [List.mem_singleton.mp hg]; exact hf'
  · rintro σ1 k1 ⟨s1, s4, fs, rfl, hl, hf, hk1⟩
    rw [rangeU_len] at hl
    (try simp only [wc_nil, wc_one, wc_set, wc_ife, wc_exp, wc_retv, wr_non, wr_bl, wr_int, wr_str, wr_glb, wr_tup, wr_lst, wr_bin, wr_neg, wr_nt, wr_cmp, wr_isN, wr_nsN, wr_chn, wr_and, wr_or, wr_ife, wr_cal, wr_bi, wr_isi, wr_mth, wr_ix, wr_sl, wr_rvs, wr_lc, wr_lrg, wc_retN, wc_pas, wc_brk, wc_cnt, wc_wip, wc_for, wc_aug, wc_put, nxU_nx, nxU_rt, nxU_bk, nxU_ct, rtU_nx, rtU_rt, retV_s, e_var, varW_o, varW_p, e_non, e_bl, e_int, e_str, e_glb, e_tup, e_lst, e_bin, e_neg, e_nt, e_cmp, e_isN, e_nsN, e_chn, e_and, e_or, e_ife, e_cal, e_bi, e_isi, e_ix, e_sl, e_rvs, e_lrg, e_join, e_app, e_ins, e_pop, e_ext, mthV_o, mthG_o, extG_o, joinG_1, rvsG_l, enmG_1, setG_o, ea_nil, ea_cons, em_nil, em_cons, eo_nil, eo_cons, ei_rng, ei_enm, ei_zip, ei_cons, brw_non, brw_bl, brw_int, brw_str, brw_glb, brw_tup, brw_lst, brw_bin, brw_neg, brw_nt, brw_cmp, brw_isN, brw_nsN, brw_chn, brw_and, brw_or, brw_ife, brw_cal, brw_bi, brw_isi, brw_mth, brw_ix, brw_sl, brw_rvs, brw_lc, brw_lrg, brw_var, brwV_o, brwV_p, resU_l, resU_r, slotU_s, ressU_nil, ressU_cons, opt2_s, got_some, got_if, decide_eq_true_eq, tstU_t, tstU_f, tstU_p, tstU_n, tstU_b, asIU_i, asBU_b, asSU_s, bu_add, bu_sub, bu_adds, bu_addt, bu_addl, bu_mod, bu_fdv, au_add, au_sub, cu_lt, cu_le, cu_gt, cu_ge, cu_eq, cu_ne, cu_in, cu_ni, equ_ii, equ_ss, biu_len, lenU_t, lenU_l, biu_int, biu_intb, biu_lists, biu_listt, biu_listl, biu_tupt, biu_tupl, biu_max, biu_min, biu_sets, biu_split, mu_app, mu_ext, mu_ins, ixu_t, ixu_l, slu_t, slu_l, srcu_t, srcu_l, srcu_s, rgu_1, rgu_2, zpu_t, zpu_l, wipeU_nil, wipeU_cons, obind_s, bindsU_nil, bindsU_cons, setsU_nil, isNU, Option.map_some, Option.bind_some, cnt_nil, cnt_cons, List.getElem?_cons_zero, List.getElem?_cons_succ, List.set_cons_zero, List.set_cons_succ, List.map_cons, List.map_nil, List.length_cons, List.length_nil, List.replicate_succ, List.replicate_zero, List.cons_append, List.nil_append, Bool.not_true, Bool.not_false, if_true, if_false, Nat.reduceAdd, Nat.reduceSub, Nat.reduceLT, Nat.reduceLeDiff, Int.reduceLT, Bool.false_eq_true, true_and, and_true, forall_const])
    refine hK2 _ _ ?_
    (try simp only [wc_nil, wc_one, wc_set, wc_ife, wc_exp, wc_retv, wr_non, wr_bl, wr_int, wr_str, wr_glb, wr_tup, wr_lst, wr_bin, wr_neg, wr_nt, wr_cmp, wr_isN, wr_nsN, wr_chn, wr_and, wr_or, wr_ife, wr_cal, wr_bi, wr_isi, wr_mth, wr_ix, wr_sl, wr_rvs, wr_lc, wr_lrg, wc_retN, wc_pas, wc_brk, wc_cnt, wc_wip, wc_for, wc_aug, wc_put, nxU_nx, nxU_rt, nxU_bk, nxU_ct, rtU_nx, rtU_rt, retV_s, e_var, varW_o, varW_p, e_non, e_bl, e_int, e_str, e_glb, e_tup, e_lst, e_bin, e_neg, e_nt, e_cmp, e_isN, e_nsN, e_chn, e_and, e_or, e_ife, e_cal, e_bi, e_isi, e_ix, e_sl, e_rvs, e_lrg, e_join, e_app, e_ins, e_pop, e_ext, mthV_o, mthG_o, extG_o, joinG_1, rvsG_l, enmG_1, setG_o, ea_nil, ea_cons, em_nil, em_cons, eo_nil, eo_cons, ei_rng, ei_enm, ei_zip, ei_cons, brw_non, brw_bl, brw_int, brw_str, brw_glb, brw_tup, brw_lst, brw_bin, brw_neg, brw_nt, brw_cmp, brw_isN, brw_nsN, brw_chn, brw_and, brw_or, brw_ife, brw_cal, brw_bi, brw_isi, brw_mth, brw_ix, brw_sl, brw_rvs, brw_lc, brw_lrg, brw_var, brwV_o, brwV_p, resU_l, resU_r, slotU_s, ressU_nil, ressU_cons, opt2_s, got_some, got_if, decide_eq_true_eq, tstU_t, tstU_f, tstU_p, tstU_n, tstU_b, asIU_i, asBU_b, asSU_s, bu_add, bu_sub, bu_adds, bu_addt, bu_addl, bu_mod, bu_fdv, au_add, au_sub, cu_lt, cu_le, cu_gt, cu_ge, cu_eq, cu_ne, cu_in, cu_ni, equ_ii, equ_ss, biu_len, lenU_t, lenU_l, biu_int, biu_intb, biu_lists, biu_listt, biu_listl, biu_tupt, biu_tupl, biu_max, biu_min, biu_sets, biu_split, mu_app, mu_ext, mu_ins, ixu_t, ixu_l, slu_t, slu_l, srcu_t, srcu_l, srcu_s, rgu_1, rgu_2, zpu_t, zpu_l, wipeU_nil, wipeU_cons, obind_s, bindsU_nil, bindsU_cons, setsU_nil, isNU, Option.map_some, Option.bind_some, cnt_nil, cnt_cons, List.getElem?_cons_zero, List.getElem?_cons_succ, List.set_cons_zero, List.set_cons_succ, List.map_cons, List.map_nil, List.length_cons, List.length_nil, List.replicate_succ, List.replicate_zero, List.cons_append, List.nil_append, Bool.not_true, Bool.not_false, if_true, if_false, Nat.reduceAdd, Nat.reduceSub, Nat.reduceLT, Nat.reduceLeDiff, Int.reduceLT, Bool.false_eq_true, true_and, and_true, forall_const])
    exact q fs k1 (by omega) hf (by rw [rangeU_len] at hk1; omega)
theorem small_strs : ∀ l : List Str, smallAll (l.map PyData.str) = true
  | [] => rfl
  | x :: l => by simp only [List.map_cons, smallAll, smallP, small_strs l]; rfl
theorem law50_ok {c d e f : Nat} (hc : DrawTapeOk Φ p c) (hd : SameOk Φ d 3) (he : WriteOk Φ p e) (hf : ReadOk Φ p f) : wpC (CallOk Φ p) G W (B_law50 c d e f) Ex [none, some (.pen, false), none, none, none, none] 0 (rtU fun u fr k => u = .bl true) := by
  unfold B_law50
  refine wc_step fun K hK => ?_
  (try simp only [wc_nil, wc_one, wc_set, wc_ife, wc_exp, wc_retv, wr_non, wr_bl, wr_int, wr_str, wr_glb, wr_tup, wr_lst, wr_bin, wr_neg, wr_nt, wr_cmp, wr_isN, wr_nsN, wr_chn, wr_and, wr_or, wr_ife, wr_cal, wr_bi, wr_isi, wr_mth, wr_ix, wr_sl, wr_rvs, wr_lc, wr_lrg, wc_retN, wc_pas, wc_brk, wc_cnt, wc_wip, wc_for, wc_aug, wc_put, nxU_nx, nxU_rt, nxU_bk, nxU_ct, rtU_nx, rtU_rt, retV_s, e_var, varW_o, varW_p, e_non, e_bl, e_int, e_str, e_glb, e_tup, e_lst, e_bin, e_neg, e_nt, e_cmp, e_isN, e_nsN, e_chn, e_and, e_or, e_ife, e_cal, e_bi, e_isi, e_ix, e_sl, e_rvs, e_lrg, e_join, e_app, e_ins, e_pop, e_ext, mthV_o, mthG_o, extG_o, joinG_1, rvsG_l, enmG_1, setG_o, ea_nil, ea_cons, em_nil, em_cons, eo_nil, eo_cons, ei_rng, ei_enm, ei_zip, ei_cons, brw_non, brw_bl, brw_int, brw_str, brw_glb, brw_tup, brw_lst, brw_bin, brw_neg, brw_nt, brw_cmp, brw_isN, brw_nsN, brw_chn, brw_and, brw_or, brw_ife, brw_cal, brw_bi, brw_isi, brw_mth, brw_ix, brw_sl, brw_rvs, brw_lc, brw_lrg, brw_var, brwV_o, brwV_p, resU_l, resU_r, slotU_s, ressU_nil, ressU_cons, opt2_s, got_some, got_if, decide_eq_true_eq, tstU_t, tstU_f, tstU_p, tstU_n, tstU_b, asIU_i, asBU_b, asSU_s, bu_add, bu_sub, bu_adds, bu_addt, bu_addl, bu_mod, bu_fdv, au_add, au_sub, cu_lt, cu_le, cu_gt, cu_ge, cu_eq, cu_ne, cu_in, cu_ni, equ_ii, equ_ss, biu_len, lenU_t, lenU_l, biu_int, biu_intb, biu_lists, biu_listt, biu_listl, biu_tupt, biu_tupl, biu_max, biu_min, biu_sets, biu_split, mu_app, mu_ext, mu_ins, ixu_t, ixu_l, slu_t, slu_l, srcu_t, srcu_l, srcu_s, rgu_1, rgu_2, zpu_t, zpu_l, wipeU_nil, wipeU_cons, obind_s, bindsU_nil, bindsU_cons, setsU_nil, isNU, Option.map_some, Option.bind_some, cnt_nil, cnt_cons, List.getElem?_cons_zero, List.getElem?_cons_succ, List.set_cons_zero, List.set_cons_succ, List.map_cons, List.map_nil, List.length_cons, List.length_nil, List.replicate_succ, List.replicate_zero, List.cons_append, List.nil_append, Bool.not_true, Bool.not_false, if_true, if_false, Nat.reduceAdd, Nat.reduceSub, Nat.reduceLT, Nat.reduceLeDiff, Int.reduceLT, Bool.false_eq_true, true_and, and_true, forall_const])
  refine ⟨by decide +kernel, ?_⟩
  refine for_inv (fun i σ1 k1 => ∃ s2 s3 s4 s5 : Slot, σ1 = [none, some (.pen, false), s2, s3, s4, s5] ∧ k1 ≤ 600 * i) ⟨_, _, _, _, rfl, by omega⟩ ?_ ?_
  · rintro i u σ1 k1 hu ⟨s2, s3, s4, s5, rfl, hk1⟩ KK kn kc kb kr
    obtain ⟨hi, rfl⟩ := rangeU_get hu
    have hi8 : i < 8 := by simpa using hi
    rw [bindU_var (by simp)]
    (try simp only [wc_nil, wc_one, wc_set, wc_ife, wc_exp, wc_retv, wr_non, wr_bl, wr_int, wr_str, wr_glb, wr_tup, wr_lst, wr_bin, wr_neg, wr_nt, wr_cmp, wr_isN, wr_nsN, wr_chn, wr_and, wr_or, wr_ife, wr_cal, wr_bi, wr_isi, wr_mth, wr_ix, wr_sl, wr_rvs, wr_lc, wr_lrg, wc_retN, wc_pas, wc_brk, wc_cnt, wc_wip, wc_for, wc_aug, wc_put, nxU_nx, nxU_rt, nxU_bk, nxU_ct, rtU_nx, rtU_rt, retV_s, e_var, varW_o, varW_p, e_non, e_bl, e_int, e_str, e_glb, e_tup, e_lst, e_bin, e_neg, e_nt, e_cmp, e_isN, e_nsN, e_chn, e_and, e_or, e_ife, e_cal, e_bi, e_isi, e_ix, e_sl, e_rvs, e_lrg, e_join, e_app, e_ins, e_pop, e_ext, mthV_o, mthG_o, extG_o, joinG_1, rvsG_l, enmG_1, setG_o, ea_nil, ea_cons, em_nil, em_cons, eo_nil, eo_cons, ei_rng, ei_enm, ei_zip, ei_cons, brw_non, brw_bl, brw_int, brw_str, brw_glb, brw_tup, brw_lst, brw_bin, brw_neg, brw_nt, brw_cmp, brw_isN, brw_nsN, brw_chn, brw_and, brw_or, brw_ife, brw_cal, brw_bi, brw_isi, brw_mth, brw_ix, brw_sl, brw_rvs, brw_lc, brw_lrg, brw_var, brwV_o, brwV_p, resU_l, resU_r, slotU_s, ressU_nil, ressU_cons, opt2_s, got_some, got_if, decide_eq_true_eq, tstU_t, tstU_f, tstU_p, tstU_n, tstU_b, asIU_i, asBU_b, asSU_s, bu_add, bu_sub, bu_adds, bu_addt, bu_addl, bu_mod, bu_fdv, au_add, au_sub, cu_lt, cu_le, cu_gt, cu_ge, cu_eq, cu_ne, cu_in, cu_ni, equ_ii, equ_ss, biu_len, lenU_t, lenU_l, biu_int, biu_intb, biu_lists, biu_listt, biu_listl, biu_tupt, biu_tupl, biu_max, biu_min, biu_sets, biu_split, mu_app, mu_ext, mu_ins, ixu_t, ixu_l, slu_t, slu_l, srcu_t, srcu_l, srcu_s, rgu_1, rgu_2, zpu_t, zpu_l, wipeU_nil, wipeU_cons, obind_s, bindsU_nil, bindsU_cons, setsU_nil, isNU, Option.map_some, Option.bind_some, cnt_nil, cnt_cons, List.getElem?_cons_zero, List.getElem?_cons_succ, List.set_cons_zero, List.set_cons_succ, List.map_cons, List.map_nil, List.length_cons, List.length_nil, List.replicate_succ, List.replicate_zero, List.cons_append, List.nil_append, Bool.not_true, Bool.not_false, if_true, if_false, Nat.reduceAdd, Nat.reduceSub, Nat.reduceLT, Nat.reduceLeDiff, Int.reduceLT, Bool.false_eq_true, true_and, and_true, forall_const])
    refine wc_step fun K3 hK3 => ?_
    (try simp only [wc_nil, wc_one, wc_set, wc_ife, wc_exp, wc_retv, wr_non, wr_bl, wr_int, wr_str, wr_glb, wr_tup, wr_lst, wr_bin, wr_neg, wr_nt, wr_cmp, wr_isN, wr_nsN, wr_chn, wr_and, wr_or, wr_ife, wr_cal, wr_bi, wr_isi, wr_mth, wr_ix, wr_sl, wr_rvs, wr_lc, wr_lrg, wc_retN, wc_pas, wc_brk, wc_cnt, wc_wip, wc_for, wc_aug, wc_put, nxU_nx, nxU_rt, nxU_bk, nxU_ct, rtU_nx, rtU_rt, retV_s, e_var, varW_o, varW_p, e_non, e_bl, e_int, e_str, e_glb, e_tup, e_lst, e_bin, e_neg, e_nt, e_cmp, e_isN, e_nsN, e_chn, e_and, e_or, e_ife, e_cal, e_bi, e_isi, e_ix, e_sl, e_rvs, e_lrg, e_join, e_app, e_ins, e_pop, e_ext, mthV_o, mthG_o, extG_o, joinG_1, rvsG_l, enmG_1, setG_o, ea_nil, ea_cons, em_nil, em_cons, eo_nil, eo_cons, ei_rng, ei_enm, ei_zip, ei_cons, brw_non, brw_bl, brw_int, brw_str, brw_glb, brw_tup, brw_lst, brw_bin, brw_neg, brw_nt, brw_cmp, brw_isN, brw_nsN, brw_chn, brw_and, brw_or, brw_ife, brw_cal, brw_bi, brw_isi, brw_mth, brw_ix, brw_sl, brw_rvs, brw_lc, brw_lrg, brw_var, brwV_o, brwV_p, resU_l, resU_r, slotU_s, ressU_nil, ressU_cons, opt2_s, got_some, got_if, decide_eq_true_eq, tstU_t, tstU_f, tstU_p, tstU_n, tstU_b, asIU_i, asBU_b, asSU_s, bu_add, bu_sub, bu_adds, bu_addt, bu_addl, bu_mod, bu_fdv, au_add, au_sub, cu_lt, cu_le, cu_gt, cu_ge, cu_eq, cu_ne, cu_in, cu_ni, equ_ii, equ_ss, biu_len, lenU_t, lenU_l, biu_int, biu_intb, biu_lists, biu_listt, biu_listl, biu_tupt, biu_tupl, biu_max, biu_min, biu_sets, biu_split, mu_app, mu_ext, mu_ins, ixu_t, ixu_l, slu_t, slu_l, srcu_t, srcu_l, srcu_s, rgu_1, rgu_2, zpu_t, zpu_l, wipeU_nil, wipeU_cons, obind_s, bindsU_nil, bindsU_cons, setsU_nil, isNU, Option.map_some, Option.bind_some, cnt_nil, cnt_cons, List.getElem?_cons_zero, List.getElem?_cons_succ, List.set_cons_zero, List.set_cons_succ, List.map_cons, List.map_nil, List.length_cons, List.length_nil, List.replicate_succ, List.replicate_zero, List.cons_append, List.nil_append, Bool.not_true, Bool.not_false, if_true, if_false, Nat.reduceAdd, Nat.reduceSub, Nat.reduceLT, Nat.reduceLeDiff, Int.reduceLT, Bool.false_eq_true, true_and, and_true, forall_const])
    refine hc _ _ _ (by omega) fun fs k2 hl hfs hk2 => ?_
    refine hK3 _ _ ?_
    refine wc_step fun K4 hK4 => ?_
    (try simp only [wc_nil, wc_one, wc_set, wc_ife, wc_exp, wc_retv, wr_non, wr_bl, wr_int, wr_str, wr_glb, wr_tup, wr_lst, wr_bin, wr_neg, wr_nt, wr_cmp, wr_isN, wr_nsN, wr_chn, wr_and, wr_or, wr_ife, wr_cal, wr_bi, wr_isi, wr_mth, wr_ix, wr_sl, wr_rvs, wr_lc, wr_lrg, wc_retN, wc_pas, wc_brk, wc_cnt, wc_wip, wc_for, wc_aug, wc_put, nxU_nx, nxU_rt, nxU_bk, nxU_ct, rtU_nx, rtU_rt, retV_s, e_var, varW_o, varW_p, e_non, e_bl, e_int, e_str, e_glb, e_tup, e_lst, e_bin, e_neg, e_nt, e_cmp, e_isN, e_nsN, e_chn, e_and, e_or, e_ife, e_cal, e_bi, e_isi, e_ix, e_sl, e_rvs, e_lrg, e_join, e_app, e_ins, e_pop, e_ext, mthV_o, mthG_o, extG_o, joinG_1, rvsG_l, enmG_1, setG_o, ea_nil, ea_cons, em_nil, em_cons, eo_nil, eo_cons, ei_rng, ei_enm, ei_zip, ei_cons, brw_non, brw_bl, brw_int, brw_str, brw_glb, brw_tup, brw_lst, brw_bin, brw_neg, brw_nt, brw_cmp, brw_isN, brw_nsN, brw_chn, brw_and, brw_or, brw_ife, brw_cal, brw_bi, brw_isi, brw_mth, brw_ix, brw_sl, brw_rvs, brw_lc, brw_lrg, brw_var, brwV_o, brwV_p, resU_l, resU_r, slotU_s, ressU_nil, ressU_cons, opt2_s, got_some, got_if, decide_eq_true_eq, tstU_t, tstU_f, tstU_p, tstU_n, tstU_b, asIU_i, asBU_b, asSU_s, bu_add, bu_sub, bu_adds, bu_addt, bu_addl, bu_mod, bu_fdv, au_add, au_sub, cu_lt, cu_le, cu_gt, cu_ge, cu_eq, cu_ne, cu_in, cu_ni, equ_ii, equ_ss, biu_len, lenU_t, lenU_l, biu_int, biu_intb, biu_lists, biu_listt, biu_listl, biu_tupt, biu_tupl, biu_max, biu_min, biu_sets, biu_split, mu_app, mu_ext, mu_ins, ixu_t, ixu_l, slu_t, slu_l, srcu_t, srcu_l, srcu_s, rgu_1, rgu_2, zpu_t, zpu_l, wipeU_nil, wipeU_cons, obind_s, bindsU_nil, bindsU_cons, setsU_nil, isNU, Option.map_some, Option.bind_some, cnt_nil, cnt_cons, List.getElem?_cons_zero, List.getElem?_cons_succ, List.set_cons_zero, List.set_cons_succ, List.map_cons, List.map_nil, List.length_cons, List.length_nil, List.replicate_succ, List.replicate_zero, List.cons_append, List.nil_append, Bool.not_true, Bool.not_false, if_true, if_false, Nat.reduceAdd, Nat.reduceSub, Nat.reduceLT, Nat.reduceLeDiff, Int.reduceLT, Bool.false_eq_true, true_and, and_true, forall_const])
    refine hK4 _ _ ?_
    refine wc_step fun K5 hK5 => ?_
    (try simp only [wc_nil, wc_one, wc_set, wc_ife, wc_exp, wc_retv, wr_non, wr_bl, wr_int, wr_str, wr_glb, wr_tup, wr_lst, wr_bin, wr_neg, wr_nt, wr_cmp, wr_isN, wr_nsN, wr_chn, wr_and, wr_or, wr_ife, wr_cal, wr_bi, wr_isi, wr_mth, wr_ix, wr_sl, wr_rvs, wr_lc, wr_lrg, wc_retN, wc_pas, wc_brk, wc_cnt, wc_wip, wc_for, wc_aug, wc_put, nxU_nx, nxU_rt, nxU_bk, nxU_ct, rtU_nx, rtU_rt, retV_s, e_var, varW_o, varW_p, e_non, e_bl, e_int, e_str, e_glb, e_tup, e_lst, e_bin, e_neg, e_nt, e_cmp, e_isN, e_nsN, e_chn, e_and, e_or, e_ife, e_cal, e_bi, e_isi, e_ix, e_sl, e_rvs, e_lrg, e_join, e_app, e_ins, e_pop, e_ext, mthV_o, mthG_o, extG_o, joinG_1, rvsG_l, enmG_1, setG_o, ea_nil, ea_cons, em_nil, em_cons, eo_nil, eo_cons, ei_rng, ei_enm, ei_zip, ei_cons, brw_non, brw_bl, brw_int, brw_str, brw_glb, brw_tup, brw_lst, brw_bin, brw_neg, brw_nt, brw_cmp, brw_isN, brw_nsN, brw_chn, brw_and, brw_or, brw_ife, brw_cal, brw_bi, brw_isi, brw_mth, brw_ix, brw_sl, brw_rvs, brw_lc, brw_lrg, brw_var, brwV_o, brwV_p, resU_l, resU_r, slotU_s, ressU_nil, ressU_cons, opt2_s, got_some, got_if, decide_eq_true_eq, tstU_t, tstU_f, tstU_p, tstU_n, tstU_b, asIU_i, asBU_b, asSU_s, bu_add, bu_sub, bu_adds, bu_addt, bu_addl, bu_mod, bu_fdv, au_add, au_sub, cu_lt, cu_le, cu_gt, cu_ge, cu_eq, cu_ne, cu_in, cu_ni, equ_ii, equ_ss, biu_len, lenU_t, lenU_l, biu_int, biu_intb, biu_lists, biu_listt, biu_listl, biu_tupt, biu_tupl, biu_max, biu_min, biu_sets, biu_split, mu_app, mu_ext, mu_ins, ixu_t, ixu_l, slu_t, slu_l, srcu_t, srcu_l, srcu_s, rgu_1, rgu_2, zpu_t, zpu_l, wipeU_nil, wipeU_cons, obind_s, bindsU_nil, bindsU_cons, setsU_nil, isNU, Option.map_some, Option.bind_some, cnt_nil, cnt_cons, List.getElem?_cons_zero, List.getElem?_cons_succ, List.set_cons_zero, List.set_cons_succ, List.map_cons, List.map_nil, List.length_cons, List.length_nil, List.replicate_succ, List.replicate_zero, List.cons_append, List.nil_append, Bool.not_true, Bool.not_false, if_true, if_false, Nat.reduceAdd, Nat.reduceSub, Nat.reduceLT, Nat.reduceLeDiff, Int.reduceLT, Bool.false_eq_true, true_and, and_true, forall_const])
    refine for_inv (fun j σ1 k3 => ∃ s5 : Slot, σ1 = [none, some (.pen, false), some (.int (0 + (i : Nat)), false), some (.tup (fs.map U.str), false), some (.str (wr (fs.take j)), false), s5] ∧ k3 = k2) ⟨_, by rw [List.take_zero, wr_nil], rfl⟩ ?_ ?_
    · rintro j u σ2 k3 hu ⟨s5, rfl, rfl⟩ KM mn mc mb mr
      rw [List.getElem?_map] at hu
      obtain ⟨g, hg, rfl⟩ := Option.map_eq_some_iff.mp hu
      have hgf := (hfs g (List.mem_of_getElem? hg)).len
      have hwl := wr_len (fs := fs.take j) fun g hg => hfs g (List.mem_of_mem_take hg)
      have hwl2 : (fs.take j).length ≤ 16 := by rw [List.length_take]; omega
      rw [bindU_var (by simp)]
      simp only [wc_nil, wc_one, wc_set, wc_ife, wc_exp, wc_retv, wr_non, wr_bl, wr_int, wr_str, wr_glb, wr_tup, wr_lst, wr_bin, wr_neg, wr_nt, wr_cmp, wr_isN, wr_nsN, wr_chn, wr_and, wr_or, wr_ife, wr_cal, wr_bi, wr_isi, wr_mth, wr_ix, wr_sl, wr_rvs, wr_lc, wr_lrg, wc_retN, wc_pas, wc_brk, wc_cnt, wc_wip, wc_for, wc_aug, wc_put, nxU_nx, nxU_rt, nxU_bk, nxU_ct, rtU_nx, rtU_rt, retV_s, e_var, varW_o, varW_p, e_non, e_bl, e_int, e_str, e_glb, e_tup, e_lst, e_bin, e_neg, e_nt, e_cmp, e_isN, e_nsN, e_chn, e_and, e_or, e_ife, e_cal, e_bi, e_isi, e_ix, e_sl, e_rvs, e_lrg, e_join, e_app, e_ins, e_pop, e_ext, mthV_o, mthG_o, extG_o, joinG_1, rvsG_l, enmG_1, setG_o, ea_nil, ea_cons, em_nil, em_cons, eo_nil, eo_cons, ei_rng, ei_enm, ei_zip, ei_cons, brw_non, brw_bl, brw_int, brw_str, brw_glb, brw_tup, brw_lst, brw_bin, brw_neg, brw_nt, brw_cmp, brw_isN, brw_nsN, brw_chn, brw_and, brw_or, brw_ife, brw_cal, brw_bi, brw_isi, brw_mth, brw_ix, brw_sl, brw_rvs, brw_lc, brw_lrg, brw_var, brwV_o, brwV_p, resU_l, resU_r, slotU_s, ressU_nil, ressU_cons, opt2_s, got_some, got_if, decide_eq_true_eq, tstU_t, tstU_f, tstU_p, tstU_n, tstU_b, asIU_i, asBU_b, asSU_s, bu_add, bu_sub, bu_adds, bu_addt, bu_addl, bu_mod, bu_fdv, au_add, au_sub, cu_lt, cu_le, cu_gt, cu_ge, cu_eq, cu_ne, cu_in, cu_ni, equ_ii, equ_ss, biu_len, lenU_t, lenU_l, biu_int, biu_intb, biu_lists, biu_listt, biu_listl, biu_tupt, biu_tupl, biu_max, biu_min, biu_sets, biu_split, mu_app, mu_ext, mu_ins, ixu_t, ixu_l, slu_t, slu_l, srcu_t, srcu_l, srcu_s, rgu_1, rgu_2, zpu_t, zpu_l, wipeU_nil, wipeU_cons, obind_s, bindsU_nil, bindsU_cons, setsU_nil, isNU, Option.map_some, Option.bind_some, cnt_nil, cnt_cons, List.getElem?_cons_zero, List.getElem?_cons_succ, List.set_cons_zero, List.set_cons_succ, List.map_cons, List.map_nil, List.length_cons, List.length_nil, List.replicate_succ, List.replicate_zero, List.cons_append, List.nil_append, Bool.not_true, Bool.not_false, if_true, if_false, Nat.reduceAdd, Nat.reduceSub, Nat.reduceLT, Nat.reduceLeDiff, Int.reduceLT, Bool.false_eq_true, true_and, and_true, forall_const, str_length_append, show ("[" : Str).length = 1 by decide, show ("]" : Str).length = 1 by decide, wr_snoc]
      refine ⟨by rw [sizeLine_eq]; omega, by rw [sizeLine_eq]; omega, by rw [sizeLine_eq]; omega, mn _ _ ⟨some (.str g, false), ?_, rfl⟩⟩
      rw [List.take_succ, hg]; rfl
    · rintro σ2 k3 ⟨s5, rfl, rfl⟩
      rw [List.length_map, List.take_length]
      (try simp only [wc_nil, wc_one, wc_set, wc_ife, wc_exp, wc_retv, wr_non, wr_bl, wr_int, wr_str, wr_glb, wr_tup, wr_lst, wr_bin, wr_neg, wr_nt, wr_cmp, wr_isN, wr_nsN, wr_chn, wr_and, wr_or, wr_ife, wr_cal, wr_bi, wr_isi, wr_mth, wr_ix, wr_sl, wr_rvs, wr_lc, wr_lrg, wc_retN, wc_pas, wc_brk, wc_cnt, wc_wip, wc_for, wc_aug, wc_put, nxU_nx, nxU_rt, nxU_bk, nxU_ct, rtU_nx, rtU_rt, retV_s, e_var, varW_o, varW_p, e_non, e_bl, e_int, e_str, e_glb, e_tup, e_lst, e_bin, e_neg, e_nt, e_cmp, e_isN, e_nsN, e_chn, e_and, e_or, e_ife, e_cal, e_bi, e_isi, e_ix, e_sl, e_rvs, e_lrg, e_join, e_app, e_ins, e_pop, e_ext, mthV_o, mthG_o, extG_o, joinG_1, rvsG_l, enmG_1, setG_o, ea_nil, ea_cons, em_nil, em_cons, eo_nil, eo_cons, ei_rng, ei_enm, ei_zip, ei_cons, brw_non, brw_bl, brw_int, brw_str, brw_glb, brw_tup, brw_lst, brw_bin, brw_neg, brw_nt, brw_cmp, brw_isN, brw_nsN, brw_chn, brw_and, brw_or, brw_ife, brw_cal, brw_bi, brw_isi, brw_mth, brw_ix, brw_sl, brw_rvs, brw_lc, brw_lrg, brw_var, brwV_o, brwV_p, resU_l, resU_r, slotU_s, ressU_nil, ressU_cons, opt2_s, got_some, got_if, decide_eq_true_eq, tstU_t, tstU_f, tstU_p, tstU_n, tstU_b, asIU_i, asBU_b, asSU_s, bu_add, bu_sub, bu_adds, bu_addt, bu_addl, bu_mod, bu_fdv, au_add, au_sub, cu_lt, cu_le, cu_gt, cu_ge, cu_eq, cu_ne, cu_in, cu_ni, equ_ii, equ_ss, biu_len, lenU_t, lenU_l, biu_int, biu_intb, biu_lists, biu_listt, biu_listl, biu_tupt, biu_tupl, biu_max, biu_min, biu_sets, biu_split, mu_app, mu_ext, mu_ins, ixu_t, ixu_l, slu_t, slu_l, srcu_t, srcu_l, srcu_s, rgu_1, rgu_2, zpu_t, zpu_l, wipeU_nil, wipeU_cons, obind_s, bindsU_nil, bindsU_cons, setsU_nil, isNU, Option.map_some, Option.bind_some, cnt_nil, cnt_cons, List.getElem?_cons_zero, List.getElem?_cons_succ, List.set_cons_zero, List.set_cons_succ, List.map_cons, List.map_nil, List.length_cons, List.length_nil, List.replicate_succ, List.replicate_zero, List.cons_append, List.nil_append, Bool.not_true, Bool.not_false, if_true, if_false, Nat.reduceAdd, Nat.reduceSub, Nat.reduceLT, Nat.reduceLeDiff, Int.reduceLT, Bool.false_eq_true, true_and, and_true, forall_const])
      refine hK5 _ _ ?_
      (try simp only [wc_nil, wc_one, wc_set, wc_ife, wc_exp, wc_retv, wr_non, wr_bl, wr_int, wr_str, wr_glb, wr_tup, wr_lst, wr_bin, wr_neg, wr_nt, wr_cmp, wr_isN, wr_nsN, wr_chn, wr_and, wr_or, wr_ife, wr_cal, wr_bi, wr_isi, wr_mth, wr_ix, wr_sl, wr_rvs, wr_lc, wr_lrg, wc_retN, wc_pas, wc_brk, wc_cnt, wc_wip, wc_for, wc_aug, wc_put, nxU_nx, nxU_rt, nxU_bk, nxU_ct, rtU_nx, rtU_rt, retV_s, e_var, varW_o, varW_p, e_non, e_bl, e_int, e_str, e_glb, e_tup, e_lst, e_bin, e_neg, e_nt, e_cmp, e_isN, e_nsN, e_chn, e_and, e_or, e_ife, e_cal, e_bi, e_isi, e_ix, e_sl, e_rvs, e_lrg, e_join, e_app, e_ins, e_pop, e_ext, mthV_o, mthG_o, extG_o, joinG_1, rvsG_l, enmG_1, setG_o, ea_nil, ea_cons, em_nil, em_cons, eo_nil, eo_cons, ei_rng, ei_enm, ei_zip, ei_cons, brw_non, brw_bl, brw_int, brw_str, brw_glb, brw_tup, brw_lst, brw_bin, brw_neg, brw_nt, brw_cmp, brw_isN, brw_nsN, brw_chn, brw_and, brw_or, brw_ife, brw_cal, brw_bi, brw_isi, brw_mth, brw_ix, brw_sl, brw_rvs, brw_lc, brw_lrg, brw_var, brwV_o, brwV_p, resU_l, resU_r, slotU_s, ressU_nil, ressU_cons, opt2_s, got_some, got_if, decide_eq_true_eq, tstU_t, tstU_f, tstU_p, tstU_n, tstU_b, asIU_i, asBU_b, asSU_s, bu_add, bu_sub, bu_adds, bu_addt, bu_addl, bu_mod, bu_fdv, au_add, au_sub, cu_lt, cu_le, cu_gt, cu_ge, cu_eq, cu_ne, cu_in, cu_ni, equ_ii, equ_ss, biu_len, lenU_t, lenU_l, biu_int, biu_intb, biu_lists, biu_listt, biu_listl, biu_tupt, biu_tupl, biu_max, biu_min, biu_sets, biu_split, mu_app, mu_ext, mu_ins, ixu_t, ixu_l, slu_t, slu_l, srcu_t, srcu_l, srcu_s, rgu_1, rgu_2, zpu_t, zpu_l, wipeU_nil, wipeU_cons, obind_s, bindsU_nil, bindsU_cons, setsU_nil, isNU, Option.map_some, Option.bind_some, cnt_nil, cnt_cons, List.getElem?_cons_zero, List.getElem?_cons_succ, List.set_cons_zero, List.set_cons_succ, List.map_cons, List.map_nil, List.length_cons, List.length_nil, List.replicate_succ, List.replicate_zero, List.cons_append, List.nil_append, Bool.not_true, Bool.not_false, if_true, if_false, Nat.reduceAdd, Nat.reduceSub, Nat.reduceLT, Nat.reduceLeDiff, Int.reduceLT, Bool.false_eq_true, true_and, and_true, forall_const])
      refine he _ _ _ _ hl hfs ?_
      (try simp only [wc_nil, wc_one, wc_set, wc_ife, wc_exp, wc_retv, wr_non, wr_bl, wr_int, wr_str, wr_glb, wr_tup, wr_lst, wr_bin, wr_neg, wr_nt, wr_cmp, wr_isN, wr_nsN, wr_chn, wr_and, wr_or, wr_ife, wr_cal, wr_bi, wr_isi, wr_mth, wr_ix, wr_sl, wr_rvs, wr_lc, wr_lrg, wc_retN, wc_pas, wc_brk, wc_cnt, wc_wip, wc_for, wc_aug, wc_put, nxU_nx, nxU_rt, nxU_bk, nxU_ct, rtU_nx, rtU_rt, retV_s, e_var, varW_o, varW_p, e_non, e_bl, e_int, e_str, e_glb, e_tup, e_lst, e_bin, e_neg, e_nt, e_cmp, e_isN, e_nsN, e_chn, e_and, e_or, e_ife, e_cal, e_bi, e_isi, e_ix, e_sl, e_rvs, e_lrg, e_join, e_app, e_ins, e_pop, e_ext, mthV_o, mthG_o, extG_o, joinG_1, rvsG_l, enmG_1, setG_o, ea_nil, ea_cons, em_nil, em_cons, eo_nil, eo_cons, ei_rng, ei_enm, ei_zip, ei_cons, brw_non, brw_bl, brw_int, brw_str, brw_glb, brw_tup, brw_lst, brw_bin, brw_neg, brw_nt, brw_cmp, brw_isN, brw_nsN, brw_chn, brw_and, brw_or, brw_ife, brw_cal, brw_bi, brw_isi, brw_mth, brw_ix, brw_sl, brw_rvs, brw_lc, brw_lrg, brw_var, brwV_o, brwV_p, resU_l, resU_r, slotU_s, ressU_nil, ressU_cons, opt2_s, got_some, got_if, decide_eq_true_eq, tstU_t, tstU_f, tstU_p, tstU_n, tstU_b, asIU_i, asBU_b, asSU_s, bu_add, bu_sub, bu_adds, bu_addt, bu_addl, bu_mod, bu_fdv, au_add, au_sub, cu_lt, cu_le, cu_gt, cu_ge, cu_eq, cu_ne, cu_in, cu_ni, equ_ii, equ_ss, biu_len, lenU_t, lenU_l, biu_int, biu_intb, biu_lists, biu_listt, biu_listl, biu_tupt, biu_tupl, biu_max, biu_min, biu_sets, biu_split, mu_app, mu_ext, mu_ins, ixu_t, ixu_l, slu_t, slu_l, srcu_t, srcu_l, srcu_s, rgu_1, rgu_2, zpu_t, zpu_l, wipeU_nil, wipeU_cons, obind_s, bindsU_nil, bindsU_cons, setsU_nil, isNU, Option.map_some, Option.bind_some, cnt_nil, cnt_cons, List.getElem?_cons_zero, List.getElem?_cons_succ, List.set_cons_zero, List.set_cons_succ, List.map_cons, List.map_nil, List.length_cons, List.length_nil, List.replicate_succ, List.replicate_zero, List.cons_append, List.nil_append, Bool.not_true, Bool.not_false, if_true, if_false, Nat.reduceAdd, Nat.reduceSub, Nat.reduceLT, Nat.reduceLeDiff, Int.reduceLT, Bool.false_eq_true, true_and, and_true, forall_const])
      refine hf _ _ _ _ hl hfs ?_
      (try simp only [wc_nil, wc_one, wc_set, wc_ife, wc_exp, wc_retv, wr_non, wr_bl, wr_int, wr_str, wr_glb, wr_tup, wr_lst, wr_bin, wr_neg, wr_nt, wr_cmp, wr_isN, wr_nsN, wr_chn, wr_and, wr_or, wr_ife, wr_cal, wr_bi, wr_isi, wr_mth, wr_ix, wr_sl, wr_rvs, wr_lc, wr_lrg, wc_retN, wc_pas, wc_brk, wc_cnt, wc_wip, wc_for, wc_aug, wc_put, nxU_nx, nxU_rt, nxU_bk, nxU_ct, rtU_nx, rtU_rt, retV_s, e_var, varW_o, varW_p, e_non, e_bl, e_int, e_str, e_glb, e_tup, e_lst, e_bin, e_neg, e_nt, e_cmp, e_isN, e_nsN, e_chn, e_and, e_or, e_ife, e_cal, e_bi, e_isi, e_ix, e_sl, e_rvs, e_lrg, e_join, e_app, e_ins, e_pop, e_ext, mthV_o, mthG_o, extG_o, joinG_1, rvsG_l, enmG_1, setG_o, ea_nil, ea_cons, em_nil, em_cons, eo_nil, eo_cons, ei_rng, ei_enm, ei_zip, ei_cons, brw_non, brw_bl, brw_int, brw_str, brw_glb, brw_tup, brw_lst, brw_bin, brw_neg, brw_nt, brw_cmp, brw_isN, brw_nsN, brw_chn, brw_and, brw_or, brw_ife, brw_cal, brw_bi, brw_isi, brw_mth, brw_ix, brw_sl, brw_rvs, brw_lc, brw_lrg, brw_var, brwV_o, brwV_p, resU_l, resU_r, slotU_s, ressU_nil, ressU_cons, opt2_s, got_some, got_if, decide_eq_true_eq, tstU_t, tstU_f, tstU_p, tstU_n, tstU_b, asIU_i, asBU_b, asSU_s, bu_add, bu_sub, bu_adds, bu_addt, bu_addl, bu_mod, bu_fdv, au_add, au_sub, cu_lt, cu_le, cu_gt, cu_ge, cu_eq, cu_ne, cu_in, cu_ni, equ_ii, equ_ss, biu_len, lenU_t, lenU_l, biu_int, biu_intb, biu_lists, biu_listt, biu_listl, biu_tupt, biu_tupl, biu_max, biu_min, biu_sets, biu_split, mu_app, mu_ext, mu_ins, ixu_t, ixu_l, slu_t, slu_l, srcu_t, srcu_l, srcu_s, rgu_1, rgu_2, zpu_t, zpu_l, wipeU_nil, wipeU_cons, obind_s, bindsU_nil, bindsU_cons, setsU_nil, isNU, Option.map_some, Option.bind_some, cnt_nil, cnt_cons, List.getElem?_cons_zero, List.getElem?_cons_succ, List.set_cons_zero, List.set_cons_succ, List.map_cons, List.map_nil, List.length_cons, List.length_nil, List.replicate_succ, List.replicate_zero, List.cons_append, List.nil_append, Bool.not_true, Bool.not_false, if_true, if_false, Nat.reduceAdd, Nat.reduceSub, Nat.reduceLT, Nat.reduceLeDiff, Int.reduceLT, Bool.false_eq_true, true_and, and_true, forall_const])
      have py : pyU 3 (.lst [.str (wr fs), .tup (fs.map U.str)]) = some (.list [.str (wr fs), .tuple (fs.map .str)]) := by
        simp only [pyU, mapO, pyU_strs, Option.map_some]
      refine ⟨by rw [sizeLine_eq]; omega, by rw [sizeLine_eq]; omega, ?_⟩
      refine call_same hd py py ?_ fun b hb => ?_
      · simp only [smallP, smallAll, small_strs, List.length_map, List.length_cons, List.length_nil, Bool.and_true, Bool.true_and, decide_eq_true_eq, Bool.and_eq_true]
        omega
      · have hbt : b = true := hb.mpr rfl
        subst hbt
        (try simp only [wc_nil, wc_one, wc_set, wc_ife, wc_exp, wc_retv, wr_non, wr_bl, wr_int, wr_str, wr_glb, wr_tup, wr_lst, wr_bin, wr_neg, wr_nt, wr_cmp, wr_isN, wr_nsN, wr_chn, wr_and, wr_or, wr_ife, wr_cal, wr_bi, wr_isi, wr_mth, wr_ix, wr_sl, wr_rvs, wr_lc, wr_lrg, wc_retN, wc_pas, wc_brk, wc_cnt, wc_wip, wc_for, wc_aug, wc_put, nxU_nx, nxU_rt, nxU_bk, nxU_ct, rtU_nx, rtU_rt, retV_s, e_var, varW_o, varW_p, e_non, e_bl, e_int, e_str, e_glb, e_tup, e_lst, e_bin, e_neg, e_nt, e_cmp, e_isN, e_nsN, e_chn, e_and, e_or, e_ife, e_cal, e_bi, e_isi, e_ix, e_sl, e_rvs, e_lrg, e_join, e_app, e_ins, e_pop, e_ext, mthV_o, mthG_o, extG_o, joinG_1, rvsG_l, enmG_1, setG_o, ea_nil, ea_cons, em_nil, em_cons, eo_nil, eo_cons, ei_rng, ei_enm, ei_zip, ei_cons, brw_non, brw_bl, brw_int, brw_str, brw_glb, brw_tup, brw_lst, brw_bin, brw_neg, brw_nt, brw_cmp, brw_isN, brw_nsN, brw_chn, brw_and, brw_or, brw_ife, brw_cal, brw_bi, brw_isi, brw_mth, brw_ix, brw_sl, brw_rvs, brw_lc, brw_lrg, brw_var, brwV_o, brwV_p, resU_l, resU_r, slotU_s, ressU_nil, ressU_cons, opt2_s, got_some, got_if, decide_eq_true_eq, tstU_t, tstU_f, tstU_p, tstU_n, tstU_b, asIU_i, asBU_b, asSU_s, bu_add, bu_sub, bu_adds, bu_addt, bu_addl, bu_mod, bu_fdv, au_add, au_sub, cu_lt, cu_le, cu_gt, cu_ge, cu_eq, cu_ne, cu_in, cu_ni, equ_ii, equ_ss, biu_len, lenU_t, lenU_l, biu_int, biu_intb, biu_lists, biu_listt, biu_listl, biu_tupt, biu_tupl, biu_max, biu_min, biu_sets, biu_split, mu_app, mu_ext, mu_ins, ixu_t, ixu_l, slu_t, slu_l, srcu_t, srcu_l, srcu_s, rgu_1, rgu_2, zpu_t, zpu_l, wipeU_nil, wipeU_cons, obind_s, bindsU_nil, bindsU_cons, setsU_nil, isNU, Option.map_some, Option.bind_some, cnt_nil, cnt_cons, List.getElem?_cons_zero, List.getElem?_cons_succ, List.set_cons_zero, List.set_cons_succ, List.map_cons, List.map_nil, List.length_cons, List.length_nil, List.replicate_succ, List.replicate_zero, List.cons_append, List.nil_append, Bool.not_true, Bool.not_false, if_true, if_false, Nat.reduceAdd, Nat.reduceSub, Nat.reduceLT, Nat.reduceLeDiff, Int.reduceLT, Bool.false_eq_true, true_and, and_true, forall_const])
        exact kn _ _ ⟨_, _, _, _, rfl, by omega⟩
  · rintro σ1 k1 ⟨s2, s3, s4, s5, rfl, hk1⟩
    (try simp only [wc_nil, wc_one, wc_set, wc_ife, wc_exp, wc_retv, wr_non, wr_bl, wr_int, wr_str, wr_glb, wr_tup, wr_lst, wr_bin, wr_neg, wr_nt, wr_cmp, wr_isN, wr_nsN, wr_chn, wr_and, wr_or, wr_ife, wr_cal, wr_bi, wr_isi, wr_mth, wr_ix, wr_sl, wr_rvs, wr_lc, wr_lrg, wc_retN, wc_pas, wc_brk, wc_cnt, wc_wip, wc_for, wc_aug, wc_put, nxU_nx, nxU_rt, nxU_bk, nxU_ct, rtU_nx, rtU_rt, retV_s, e_var, varW_o, varW_p, e_non, e_bl, e_int, e_str, e_glb, e_tup, e_lst, e_bin, e_neg, e_nt, e_cmp, e_isN, e_nsN, e_chn, e_and, e_or, e_ife, e_cal, e_bi, e_isi, e_ix, e_sl, e_rvs, e_lrg, e_join, e_app, e_ins, e_pop, e_ext, mthV_o, mthG_o, extG_o, joinG_1, rvsG_l, enmG_1, setG_o, ea_nil, ea_cons, em_nil, em_cons, eo_nil, eo_cons, ei_rng, ei_enm, ei_zip, ei_cons, brw_non, brw_bl, brw_int, brw_str, brw_glb, brw_tup, brw_lst, brw_bin, brw_neg, brw_nt, brw_cmp, brw_isN, brw_nsN, brw_chn, brw_and, brw_or, brw_ife, brw_cal, brw_bi, brw_isi, brw_mth, brw_ix, brw_sl, brw_rvs, brw_lc, brw_lrg, brw_var, brwV_o, brwV_p, resU_l, resU_r, slotU_s, ressU_nil, ressU_cons, opt2_s, got_some, got_if, decide_eq_true_eq, tstU_t, tstU_f, tstU_p, tstU_n, tstU_b, asIU_i, asBU_b, asSU_s, bu_add, bu_sub, bu_adds, bu_addt, bu_addl, bu_mod, bu_fdv, au_add, au_sub, cu_lt, cu_le, cu_gt, cu_ge, cu_eq, cu_ne, cu_in, cu_ni, equ_ii, equ_ss, biu_len, lenU_t, lenU_l, biu_int, biu_intb, biu_lists, biu_listt, biu_listl, biu_tupt, biu_tupl, biu_max, biu_min, biu_sets, biu_split, mu_app, mu_ext, mu_ins, ixu_t, ixu_l, slu_t, slu_l, srcu_t, srcu_l, srcu_s, rgu_1, rgu_2, zpu_t, zpu_l, wipeU_nil, wipeU_cons, obind_s, bindsU_nil, bindsU_cons, setsU_nil, isNU, Option.map_some, Option.bind_some, cnt_nil, cnt_cons, List.getElem?_cons_zero, List.getElem?_cons_succ, List.set_cons_zero, List.set_cons_succ, List.map_cons, List.map_nil, List.length_cons, List.length_nil, List.replicate_succ, List.replicate_zero, List.cons_append, List.nil_append, Bool.not_true, Bool.not_false, if_true, if_false, Nat.reduceAdd, Nat.reduceSub, Nat.reduceLT, Nat.reduceLeDiff, Int.reduceLT, Bool.false_eq_true, true_and, and_true, forall_const])
    refine hK _ _ ?_
    (try simp only [wc_nil, wc_one, wc_set, wc_ife, wc_exp, wc_retv, wr_non, wr_bl, wr_int, wr_str, wr_glb, wr_tup, wr_lst, wr_bin, wr_neg, wr_nt, wr_cmp, wr_isN, wr_nsN, wr_chn, wr_and, wr_or, wr_ife, wr_cal, wr_bi, wr_isi, wr_mth, wr_ix, wr_sl, wr_rvs, wr_lc, wr_lrg, wc_retN, wc_pas, wc_brk, wc_cnt, wc_wip, wc_for, wc_aug, wc_put, nxU_nx, nxU_rt, nxU_bk, nxU_ct, rtU_nx, rtU_rt, retV_s, e_var, varW_o, varW_p, e_non, e_bl, e_int, e_str, e_glb, e_tup, e_lst, e_bin, e_neg, e_nt, e_cmp, e_isN, e_nsN, e_chn, e_and, e_or, e_ife, e_cal, e_bi, e_isi, e_ix, e_sl, e_rvs, e_lrg, e_join, e_app, e_ins, e_pop, e_ext, mthV_o, mthG_o, extG_o, joinG_1, rvsG_l, enmG_1, setG_o, ea_nil, ea_cons, em_nil, em_cons, eo_nil, eo_cons, ei_rng, ei_enm, ei_zip, ei_cons, brw_non, brw_bl, brw_int, brw_str, brw_glb, brw_tup, brw_lst, brw_bin, brw_neg, brw_nt, brw_cmp, brw_isN, brw_nsN, brw_chn, brw_and, brw_or, brw_ife, brw_cal, brw_bi, brw_isi, brw_mth, brw_ix, brw_sl, brw_rvs, brw_lc, brw_lrg, brw_var, brwV_o, brwV_p, resU_l, resU_r, slotU_s, ressU_nil, ressU_cons, opt2_s, got_some, got_if, decide_eq_true_eq, tstU_t, tstU_f, tstU_p, tstU_n, tstU_b, asIU_i, asBU_b, asSU_s, bu_add, bu_sub, bu_adds, bu_addt, bu_addl, bu_mod, bu_fdv, au_add, au_sub, cu_lt, cu_le, cu_gt, cu_ge, cu_eq, cu_ne, cu_in, cu_ni, equ_ii, equ_ss, biu_len, lenU_t, lenU_l, biu_int, biu_intb, biu_lists, biu_listt, biu_listl, biu_tupt, biu_tupl, biu_max, biu_min, biu_sets, biu_split, mu_app, mu_ext, mu_ins, ixu_t, ixu_l, slu_t, slu_l, srcu_t, srcu_l, srcu_s, rgu_1, rgu_2, zpu_t, zpu_l, wipeU_nil, wipeU_cons, obind_s, bindsU_nil, bindsU_cons, setsU_nil, isNU, Option.map_some, Option.bind_some, cnt_nil, cnt_cons, List.getElem?_cons_zero, List.getElem?_cons_succ, List.set_cons_zero, List.set_cons_succ, List.map_cons, List.map_nil, List.length_cons, List.length_nil, List.replicate_succ, List.replicate_zero, List.cons_append, List.nil_append, Bool.not_true, Bool.not_false, if_true, if_false, Nat.reduceAdd, Nat.reduceSub, Nat.reduceLT, Nat.reduceLeDiff, Int.reduceLT, Bool.false_eq_true, true_and, and_true, forall_const])
    refine ⟨by rw [sizeLine_eq]; omega, ?_⟩
    refine he [] _ _ _ (by simp) (by simp) ?_
    simp only [wc_nil, wc_one, wc_set, wc_ife, wc_exp, wc_retv, wr_non, wr_bl, wr_int, wr_str, wr_glb, wr_tup, wr_lst, wr_bin, wr_neg, wr_nt, wr_cmp, wr_isN, wr_nsN, wr_chn, wr_and, wr_or, wr_ife, wr_cal, wr_bi, wr_isi, wr_mth, wr_ix, wr_sl, wr_rvs, wr_lc, wr_lrg, wc_retN, wc_pas, wc_brk, wc_cnt, wc_wip, wc_for, wc_aug, wc_put, nxU_nx, nxU_rt, nxU_bk, nxU_ct, rtU_nx, rtU_rt, retV_s, e_var, varW_o, varW_p, e_non, e_bl, e_int, e_str, e_glb, e_tup, e_lst, e_bin, e_neg, e_nt, e_cmp, e_isN, e_nsN, e_chn, e_and, e_or, e_ife, e_cal, e_bi, e_isi, e_ix, e_sl, e_rvs, e_lrg, e_join, e_app, e_ins, e_pop, e_ext, mthV_o, mthG_o, extG_o, joinG_1, rvsG_l, enmG_1, setG_o, ea_nil, ea_cons, em_nil, em_cons, eo_nil, eo_cons, ei_rng, ei_enm, ei_zip, ei_cons, brw_non, brw_bl, brw_int, brw_str, brw_glb, brw_tup, brw_lst, brw_bin, brw_neg, brw_nt, brw_cmp, brw_isN, brw_nsN, brw_chn, brw_and, brw_or, brw_ife, brw_cal, brw_bi, brw_isi, brw_mth, brw_ix, brw_sl, brw_rvs, brw_lc, brw_lrg, brw_var, brwV_o, brwV_p, resU_l, resU_r, slotU_s, ressU_nil, ressU_cons, opt2_s, got_some, got_if, decide_eq_true_eq, tstU_t, tstU_f, tstU_p, tstU_n, tstU_b, asIU_i, asBU_b, asSU_s, bu_add, bu_sub, bu_adds, bu_addt, bu_addl, bu_mod, bu_fdv, au_add, au_sub, cu_lt, cu_le, cu_gt, cu_ge, cu_eq, cu_ne, cu_in, cu_ni, equ_ii, equ_ss, biu_len, lenU_t, lenU_l, biu_int, biu_intb, biu_lists, biu_listt, biu_listl, biu_tupt, biu_tupl, biu_max, biu_min, biu_sets, biu_split, mu_app, mu_ext, mu_ins, ixu_t, ixu_l, slu_t, slu_l, srcu_t, srcu_l, srcu_s, rgu_1, rgu_2, zpu_t, zpu_l, wipeU_nil, wipeU_cons, obind_s, bindsU_nil, bindsU_cons, setsU_nil, isNU, Option.map_some, Option.bind_some, cnt_nil, cnt_cons, List.getElem?_cons_zero, List.getElem?_cons_succ, List.set_cons_zero, List.set_cons_succ, List.map_cons, List.map_nil, List.length_cons, List.length_nil, List.replicate_succ, List.replicate_zero, List.cons_append, List.nil_append, Bool.not_true, Bool.not_false, if_true, if_false, Nat.reduceAdd, Nat.reduceSub, Nat.reduceLT, Nat.reduceLeDiff, Int.reduceLT, Bool.false_eq_true, true_and, and_true, forall_const, wr_nil, decide_true]
    refine hf [] _ _ _ (by simp) (by simp) ?_
    (try simp only [wc_nil, wc_one, wc_set, wc_ife, wc_exp, wc_retv, wr_non, wr_bl, wr_int, wr_str, wr_glb, wr_tup, wr_lst, wr_bin, wr_neg, wr_nt, wr_cmp, wr_isN, wr_nsN, wr_chn, wr_and, wr_or, wr_ife, wr_cal, wr_bi, wr_isi, wr_mth, wr_ix, wr_sl, wr_rvs, wr_lc, wr_lrg, wc_retN, wc_pas, wc_brk, wc_cnt, wc_wip, wc_for, wc_aug, wc_put, nxU_nx, nxU_rt, nxU_bk, nxU_ct, rtU_nx, rtU_rt, retV_s, e_var, varW_o, varW_p, e_non, e_bl, e_int, e_str, e_glb, e_tup, e_lst, e_bin, e_neg, e_nt, e_cmp, e_isN, e_nsN, e_chn, e_and, e_or, e_ife, e_cal, e_bi, e_isi, e_ix, e_sl, e_rvs, e_lrg, e_join, e_app, e_ins, e_pop, e_ext, mthV_o, mthG_o, extG_o, joinG_1, rvsG_l, enmG_1, setG_o, ea_nil, ea_cons, em_nil, em_cons, eo_nil, eo_cons, ei_rng, ei_enm, ei_zip, ei_cons, brw_non, brw_bl, brw_int, brw_str, brw_glb, brw_tup, brw_lst, brw_bin, brw_neg, brw_nt, brw_cmp, brw_isN, brw_nsN, brw_chn, brw_and, brw_or, brw_ife, brw_cal, brw_bi, brw_isi, brw_mth, brw_ix, brw_sl, brw_rvs, brw_lc, brw_lrg, brw_var, brwV_o, brwV_p, resU_l, resU_r, slotU_s, ressU_nil, ressU_cons, opt2_s, got_some, got_if, decide_eq_true_eq, tstU_t, tstU_f, tstU_p, tstU_n, tstU_b, asIU_i, asBU_b, asSU_s, bu_add, bu_sub, bu_adds, bu_addt, bu_addl, bu_mod, bu_fdv, au_add, au_sub, cu_lt, cu_le, cu_gt, cu_ge, cu_eq, cu_ne, cu_in, cu_ni, equ_ii, equ_ss, biu_len, lenU_t, lenU_l, biu_int, biu_intb, biu_lists, biu_listt, biu_listl, biu_tupt, biu_tupl, biu_max, biu_min, biu_sets, biu_split, mu_app, mu_ext, mu_ins, ixu_t, ixu_l, slu_t, slu_l, srcu_t, srcu_l, srcu_s, rgu_1, rgu_2, zpu_t, zpu_l, wipeU_nil, wipeU_cons, obind_s, bindsU_nil, bindsU_cons, setsU_nil, isNU, Option.map_some, Option.bind_some, cnt_nil, cnt_cons, List.getElem?_cons_zero, List.getElem?_cons_succ, List.set_cons_zero, List.set_cons_succ, List.map_cons, List.map_nil, List.length_cons, List.length_nil, List.replicate_succ, List.replicate_zero, List.cons_append, List.nil_append, Bool.not_true, Bool.not_false, if_true, if_false, Nat.reduceAdd, Nat.reduceSub, Nat.reduceLT, Nat.reduceLeDiff, Int.reduceLT, Bool.false_eq_true, true_and, and_true, forall_const])
    refine ⟨by rw [sizeLine_eq]; omega, ?_⟩
    rw [show eqU (.tup []) (.tup []) = some true from by decide +kernel]
    (try simp only [wc_nil, wc_one, wc_set, wc_ife, wc_exp, wc_retv, wr_non, wr_bl, wr_int, wr_str, wr_glb, wr_tup, wr_lst, wr_bin, wr_neg, wr_nt, wr_cmp, wr_isN, wr_nsN, wr_chn, wr_and, wr_or, wr_ife, wr_cal, wr_bi, wr_isi, wr_mth, wr_ix, wr_sl, wr_rvs, wr_lc, wr_lrg, wc_retN, wc_pas, wc_brk, wc_cnt, wc_wip, wc_for, wc_aug, wc_put, nxU_nx, nxU_rt, nxU_bk, nxU_ct, rtU_nx, rtU_rt, retV_s, e_var, varW_o, varW_p, e_non, e_bl, e_int, e_str, e_glb, e_tup, e_lst, e_bin, e_neg, e_nt, e_cmp, e_isN, e_nsN, e_chn, e_and, e_or, e_ife, e_cal, e_bi, e_isi, e_ix, e_sl, e_rvs, e_lrg, e_join, e_app, e_ins, e_pop, e_ext, mthV_o, mthG_o, extG_o, joinG_1, rvsG_l, enmG_1, setG_o, ea_nil, ea_cons, em_nil, em_cons, eo_nil, eo_cons, ei_rng, ei_enm, ei_zip, ei_cons, brw_non, brw_bl, brw_int, brw_str, brw_glb, brw_tup, brw_lst, brw_bin, brw_neg, brw_nt, brw_cmp, brw_isN, brw_nsN, brw_chn, brw_and, brw_or, brw_ife, brw_cal, brw_bi, brw_isi, brw_mth, brw_ix, brw_sl, brw_rvs, brw_lc, brw_lrg, brw_var, brwV_o, brwV_p, resU_l, resU_r, slotU_s, ressU_nil, ressU_cons, opt2_s, got_some, got_if, decide_eq_true_eq, tstU_t, tstU_f, tstU_p, tstU_n, tstU_b, asIU_i, asBU_b, asSU_s, bu_add, bu_sub, bu_adds, bu_addt, bu_addl, bu_mod, bu_fdv, au_add, au_sub, cu_lt, cu_le, cu_gt, cu_ge, cu_eq, cu_ne, cu_in, cu_ni, equ_ii, equ_ss, biu_len, lenU_t, lenU_l, biu_int, biu_intb, biu_lists, biu_listt, biu_listl, biu_tupt, biu_tupl, biu_max, biu_min, biu_sets, biu_split, mu_app, mu_ext, mu_ins, ixu_t, ixu_l, slu_t, slu_l, srcu_t, srcu_l, srcu_s, rgu_1, rgu_2, zpu_t, zpu_l, wipeU_nil, wipeU_cons, obind_s, bindsU_nil, bindsU_cons, setsU_nil, isNU, Option.map_some, Option.bind_some, cnt_nil, cnt_cons, List.getElem?_cons_zero, List.getElem?_cons_succ, List.set_cons_zero, List.set_cons_succ, List.map_cons, List.map_nil, List.length_cons, List.length_nil, List.replicate_succ, List.replicate_zero, List.cons_append, List.nil_append, Bool.not_true, Bool.not_false, if_true, if_false, Nat.reduceAdd, Nat.reduceSub, Nat.reduceLT, Nat.reduceLeDiff, Int.reduceLT, Bool.false_eq_true, true_and, and_true, forall_const])
end
end RS

namespace Law
open PySem PySem.Spec L2 RS

def prog : PySem.Program := PySem.Challenge.pw_reelsplice_k50_tapes_written_and_read
def top (i : Nat) : Stmt := PySem.Challenge.pw_reelsplice_k50_tapes_written_and_read.main.body.getD i (.Pass ⟨0, 0, 0, 0⟩)
def tab : Tab := ⟨["are_letters", "is_frame", "is_tape", "write_tape", "read_tape", "_law_open", "_law_spread", "_law_take", "_law_same", "_law_one_of", "_law_draw_tape", "law"], ["LETTERS", "MOST_FRAMES"]⟩
def ps0 : List Str := ["value"]
def ns0 : List Str := ["value", "sign"]
abbrev st0 : Stmt := top 3   -- are_letters
def ps1 : List Str := ["value"]
def ns1 : List Str := ["value"]
abbrev st1 : Stmt := top 4   -- is_frame
def ps2 : List Str := ["value"]
def ns2 : List Str := ["value", "frame"]
abbrev st2 : Stmt := top 5   -- is_tape
def ps3 : List Str := ["tape"]
def ns3 : List Str := ["tape", "frame"]
abbrev st3 : Stmt := top 10   -- write_tape
def ps4 : List Str := ["text"]
def ns4 : List Str := ["text", "found", "part"]
abbrev st4 : Stmt := top 11   -- read_tape
def ps5 : List Str := ["script"]
def ns5 : List Str := ["script", "cells", "k", "cell"]
abbrev st5 : Stmt := top 13   -- _law_open
def ps6 : List Str := ["cell", "at"]
def ns6 : List Str := ["cell", "at", "primes", "one", "two", "three"]
abbrev st6 : Stmt := top 14   -- _law_spread
def ps7 : List Str := ["pen", "amount"]
def ns7 : List Str := ["pen", "amount", "found", "at", "cell"]
abbrev st7 : Stmt := top 15   -- _law_take
def ps8 : List Str := ["found", "due"]
def ns8 : List Str := ["found", "due", "one", "other"]
abbrev st8 : Stmt := top 16   -- _law_same
def ps9 : List Str := ["pen", "some"]
def ns9 : List Str := ["pen", "some"]
abbrev st9 : Stmt := top 17   -- _law_one_of
def ps10 : List Str := ["pen"]
def ns10 : List Str := ["pen", "again", "letters", "found", "some", "sign"]
abbrev st10 : Stmt := top 18   -- _law_draw_tape
def ps11 : List Str := ["script"]
def ns11 : List Str := ["script", "pen", "turn", "tape", "due", "frame"]
abbrev st11 : Stmt := top 19   -- law
def dfs : List Dfn := [⟨"are_letters", st0, ps0, ns0⟩, ⟨"is_frame", st1, ps1, ns1⟩, ⟨"is_tape", st2, ps2, ns2⟩, ⟨"write_tape", st3, ps3, ns3⟩, ⟨"read_tape", st4, ps4, ns4⟩, ⟨"_law_open", st5, ps5, ns5⟩, ⟨"_law_spread", st6, ps6, ns6⟩, ⟨"_law_take", st7, ps7, ns7⟩, ⟨"_law_same", st8, ps8, ns8⟩, ⟨"_law_one_of", st9, ps9, ns9⟩, ⟨"_law_draw_tape", st10, ps10, ns10⟩, ⟨"law", st11, ps11, ns11⟩]
/-- are_letters -/
def b0 : C :=
  (.cons (.ret (.and (.isi [.str] (.var 0)) (.bi .all (.cons (.lc [1] (.cmp .mem (.var 1) (.glb 0)) (.var 1) (.cons (.var 0) .nil) (.bl true)) .nil))))
  .nil)
def f0 : Fn := ⟨1, 2, b0⟩
/-- is_frame -/
def b1 : C :=
  (.cons (.ife (.and (.cmp .eq (.var 0) (.str "?")) (.isi [.str] (.var 0)))
      (.cons (.ret (.bl true))
      .nil)
      .nil)
  (.cons (.ret (.and (.cal 0 (.cons (.var 0) .nil)) (.cmp .eq (.bi .list (.cons (.var 0) .nil)) (.bi .sortedSet (.cons (.var 0) .nil)))))
  .nil))
def f1 : Fn := ⟨1, 1, b1⟩
/-- is_tape -/
def b2 : C :=
  (.cons (.ret (.and (.isi [.tuple] (.var 0)) (.and (.cmp .le (.bi .len (.cons (.var 0) .nil)) (.glb 1)) (.bi .all (.cons (.lc [1] (.cal 1 (.cons (.var 1) .nil)) (.var 1) (.cons (.var 0) .nil) (.bl true)) .nil)))))
  .nil)
def f2 : Fn := ⟨1, 2, b2⟩
/-- write_tape -/
def b3 : C :=
  (.cons (.ret (.mth .join (.str "") (.cons (.lc [1] (.bin .add (.bin .add (.str "[") (.var 1)) (.str "]")) (.var 1) (.cons (.var 0) .nil) (.bl true)) .nil)))
  .nil)
def f3 : Fn := ⟨1, 2, b3⟩
/-- read_tape -/
def b4 : C :=
  (.cons (.ife (.nt (.isi [.str] (.var 0)))
      (.cons (.exp .nil)
      .nil)
      .nil)
  (.cons (.asg (.var 1) (.bi .tuple (.cons (.lc [2] (.sl (.var 2) (.cons (.int 1) .nil) .nil) (.var 2) (.cons (.sl (.bi .split (.cons (.var 0) (.cons (.str "]") .nil))) .nil (.cons (.neg (.int 1)) .nil)) .nil) (.bl true)) .nil)))
  (.cons (.ife (.or (.nt (.cal 2 (.cons (.var 1) .nil))) (.cmp .ne (.cal 3 (.cons (.var 1) .nil)) (.var 0)))
      (.cons (.exp .nil)
      .nil)
      .nil)
  (.cons (.ret (.var 1))
  .nil))))
def f4 : Fn := ⟨1, 3, b4⟩
/-- _law_open -/
def b5 : C :=
  (.cons (.asg (.var 1) (.bi .list (.cons (.sl (.var 0) .nil (.cons (.int 12) .nil)) .nil)))
  (.cons (.for_ (.tup (.cons (.var 2) (.cons (.var 3) .nil))) (.enm (.cons (.sl (.var 0) (.cons (.int 12) .nil) (.cons (.int 63) .nil)) .nil))
      (.cons (.asg (.ix (.var 1) (.bin .mod (.bi .int (.cons (.var 2) .nil)) (.int 12))) (.bin .add (.ix (.var 1) (.bin .mod (.bi .int (.cons (.var 2) .nil)) (.int 12))) (.var 3)))
      .nil))
  (.cons (.ret (.lst (.cons (.var 1) (.cons (.int 0) (.cons (.int 0) .nil)))))
  .nil)))
def f5 : Fn := ⟨1, 4, b5⟩
/-- _law_spread -/
def b6 : C :=
  (.cons (.ife (.cmp .ge (.var 0) (.bin .pow (.int 10) (.int 18)))
      (.cons (.ret (.var 0))
      .nil)
      .nil)
  (.cons (.asg (.var 2) (.lst (.cons (.int 2147483629) (.cons (.int 2147483587) (.cons (.int 2147483579) (.cons (.int 2147483563) (.cons (.int 2147483549) (.cons (.int 2147483543) (.cons (.int 2147483497) (.cons (.int 2147483489) .nil))))))))))
  (.cons (.asg (.var 2) (.bin .add (.var 2) (.lst (.cons (.int 2147483477) (.cons (.int 2147483423) (.cons (.int 2147483399) (.cons (.int 2147483353) (.cons (.int 2147483323) .nil))))))))
  (.cons (.asg (.var 3) (.bin .add (.bin .add (.bin .mul (.bin .mod (.bi .int (.cons (.var 0) .nil)) (.int 1000000007)) (.bin .add (.bin .mul (.int 2) (.var 1)) (.int 69069))) (.bin .mul (.var 1) (.int 40503))) (.int 977)))
  (.cons (.asg (.var 3) (.bin .mod (.bi .int (.cons (.bin .pow (.var 3) (.int 3)) .nil)) (.ix (.var 2) (.bin .mod (.bi .int (.cons (.var 1) .nil)) (.int 13)))))
  (.cons (.asg (.var 4) (.bin .mod (.bi .int (.cons (.bin .pow (.bin .add (.bin .add (.bin .mul (.var 3) (.bin .add (.var 1) (.int 3))) (.bin .mod (.bi .int (.cons (.var 0) .nil)) (.int 65537))) (.int 5)) (.int 5)) .nil)) (.ix (.var 2) (.bin .mod (.bi .int (.cons (.bin .add (.var 1) (.int 5)) .nil)) (.int 13)))))
  (.cons (.asg (.var 5) (.bin .mod (.bi .int (.cons (.bin .pow (.bin .add (.bin .add (.var 4) (.bin .mod (.bi .int (.cons (.var 3) .nil)) (.int 1009))) (.var 1)) (.int 3)) .nil)) (.ix (.var 2) (.bin .mod (.bi .int (.cons (.bin .add (.var 1) (.int 7)) .nil)) (.int 13)))))
  (.cons (.ret (.bin .add (.bin .mul (.bin .add (.bin .mul (.var 3) (.int 2147483647)) (.var 4)) (.int 2147483647)) (.var 5)))
  .nil))))))))
def f6 : Fn := ⟨2, 6, b6⟩
/-- _law_take -/
def b7 : C :=
  (.cons (.ife (.cmp .lt (.ix (.var 0) (.int 2)) (.var 1))
      (.cons (.asg (.var 3) (.ix (.var 0) (.int 1)))
      (.cons (.asg (.var 4) (.int 0))
      (.cons (.ife (.cmp .lt (.var 3) (.bi .len (.cons (.ix (.var 0) (.int 0)) .nil)))
          (.cons (.asg (.var 4) (.ix (.ix (.var 0) (.int 0)) (.var 3)))
          .nil)
          (.cons (.ife (.cmp .gt (.bi .len (.cons (.ix (.var 0) (.int 0)) .nil)) (.int 0))
              (.cons (.asg (.var 4) (.bin .mod (.bi .int (.cons (.ix (.ix (.var 0) (.int 0)) (.bin .mod (.bi .int (.cons (.bin .add (.bin .mul (.var 3) (.int 5)) (.int 3)) .nil)) (.bi .len (.cons (.ix (.var 0) (.int 0)) .nil)))) .nil)) (.bin .add (.bin .pow (.int 10) (.int 17)) (.var 3))))
              .nil)
              .nil)
          .nil))
      (.cons (.asg (.ix (.var 0) (.int 1)) (.bin .add (.var 3) (.int 1)))
      (.cons (.asg (.ix (.var 0) (.int 2)) (.cal 6 (.cons (.var 4) (.cons (.var 3) .nil))))
      .nil)))))
      .nil)
  (.cons (.asg (.var 2) (.bin .mod (.bi .int (.cons (.ix (.var 0) (.int 2)) .nil)) (.var 1)))
  (.cons (.asg (.ix (.var 0) (.int 2)) (.bin .fdv (.ix (.var 0) (.int 2)) (.var 1)))
  (.cons (.ret (.var 2))
  .nil))))
def f7 : Fn := ⟨2, 5, b7⟩
/-- _law_same -/
def b8 : C :=
  (.cons (.ife (.or (.isN (.var 1)) (.isN (.var 0)))
      (.cons (.ret (.and (.isN (.var 1)) (.isN (.var 0))))
      .nil)
      .nil)
  (.cons (.ife (.or (.isi [.bool] (.var 1)) (.isi [.bool] (.var 0)))
      (.cons (.ret (.and (.isi [.bool] (.var 1)) (.and (.isi [.bool] (.var 0)) (.cmp .eq (.var 0) (.var 1)))))
      .nil)
      .nil)
  (.cons (.ife (.isi [.int, .str] (.var 1))
      (.cons (.ife (.cmp .ne (.isi [.int] (.var 0)) (.isi [.int] (.var 1)))
          (.cons (.ret (.bl false))
          .nil)
          .nil)
      (.cons (.ret (.and (.isi [.int, .str] (.var 0)) (.cmp .eq (.var 0) (.var 1))))
      .nil))
      .nil)
  (.cons (.ife (.or (.cmp .ne (.isi [.tuple] (.var 1)) (.isi [.tuple] (.var 0))) (.cmp .ne (.isi [.list] (.var 1)) (.isi [.list] (.var 0))))
      (.cons (.ret (.bl false))
      .nil)
      .nil)
  (.cons (.ife (.cmp .ne (.bi .len (.cons (.var 0) .nil)) (.bi .len (.cons (.var 1) .nil)))
      (.cons (.ret (.bl false))
      .nil)
      .nil)
  (.cons (.ret (.cmp .nmem (.bl false) (.lc [2, 3] (.cal 8 (.cons (.var 2) (.cons (.var 3) .nil))) (.tup (.cons (.var 2) (.cons (.var 3) .nil))) (.zip false (.cons (.var 0) (.cons (.var 1) .nil))) (.bl true))))
  .nil))))))
def f8 : Fn := ⟨2, 4, b8⟩
/-- _law_one_of -/
def b9 : C :=
  (.cons (.ret (.ix (.var 1) (.cal 7 (.cons (.var 0) (.cons (.bi .len (.cons (.var 1) .nil)) .nil)))))
  .nil)
def f9 : Fn := ⟨2, 2, b9⟩
/-- _law_draw_tape -/
def b10 : C :=
  (.cons (.asg (.tup (.cons (.var 2) (.cons (.var 3) .nil))) (.tup (.cons (.str "abcdefghijklmnopqrstuvwxyz") (.cons (.lst .nil) .nil))))
  (.cons (.for_ (.var 1) (.rng (.cons (.cal 7 (.cons (.var 0) (.cons (.int 17) .nil))) .nil))
      (.cons (.asg (.var 4) (.mth .join (.str "") (.cons (.lc [5] (.var 5) (.var 5) (.cons (.var 2) .nil) (.cmp .eq (.cal 7 (.cons (.var 0) (.cons (.int 3) .nil))) (.int 0))) .nil)))
      (.cons (.exp (.mth .append (.var 3) (.cons (.cal 9 (.cons (.var 0) (.cons (.lst (.cons (.str "?") (.cons (.str "") (.cons (.var 2) (.cons (.var 4) (.cons (.ix (.var 2) (.cal 7 (.cons (.var 0) (.cons (.int 26) .nil)))) (.cons (.str "az") .nil))))))) .nil))) .nil)))
      .nil)))
  (.cons (.ret (.bi .tuple (.cons (.var 3) .nil)))
  .nil)))
def f10 : Fn := ⟨1, 6, b10⟩
/-- law -/
def b11 : C :=
  (.cons (.asg (.var 1) (.cal 5 (.cons (.var 0) .nil)))
  (.cons (.for_ (.var 2) (.rng (.cons (.int 8) .nil))
      (.cons (.asg (.var 3) (.cal 10 (.cons (.var 1) .nil)))
      (.cons (.asg (.var 4) (.str ""))
      (.cons (.for_ (.var 5) (.cons (.var 3) .nil)
          (.cons (.asg (.var 4) (.bin .add (.bin .add (.bin .add (.var 4) (.str "[")) (.var 5)) (.str "]")))
          .nil))
      (.cons (.ife (.nt (.cal 8 (.cons (.lst (.cons (.cal 3 (.cons (.var 3) .nil)) (.cons (.cal 4 (.cons (.var 4) .nil)) .nil))) (.cons (.lst (.cons (.var 4) (.cons (.var 3) .nil))) .nil))))
          (.cons (.ret (.bl false))
          .nil)
          .nil)
      .nil)))))
  (.cons (.ret (.and (.cmp .eq (.cal 3 (.cons (.tup .nil) .nil)) (.str "")) (.cmp .eq (.cal 4 (.cons (.str "") .nil)) (.tup .nil))))
  .nil)))
def f11 : Fn := ⟨1, 6, b11⟩

def fs : List Fn := [f0, f1, f2, f3, f4, f5, f6, f7, f8, f9, f10, f11]
theorem cp : dfs.map (fun d => compF 400 tab d.N d.ps (defScope d.st) (defBody d.st)) = fs.map some := by decide +kernel
def G0 : Nat → D
  | 0 => .str "abcdefghijklmnopqrstuvwxyz"
  | 1 => .int 16
  | _ => .non
def GU : Nat → U
  | 0 => .str "abcdefghijklmnopqrstuvwxyz"
  | 1 => .int 16
  | _ => .non
abbrev W0 : Nat := 1000000
theorem hG : ∀ g S p av, Hld S p av (GU g) (G0 g) := fun g S p av => by
  match g with
  | 0 => exact Hld_str.mpr rfl
  | 1 => exact Hld_int.mpr rfl
  | g + 2 => exact Hld_non.mpr rfl
theorem spread (n : Nat) : SpreadOk (run fs G0 W0 (n + 1)) 6 := fun _ _ _ _ h0 h1 q => Ok_run (b := RS.B_law_spread) (np := 2) (nn := 6) rfl rfl (spread_ok h0 h1 q)
theorem take (n : Nat) : TakeOk (run fs G0 W0 (n + 2)) 7 := fun _ _ _ _ _ hp hk m0 m1 q => Ok_run (b := RS.B_law_take 6) (np := 2) (nn := 5) rfl rfl (take_ok (spread n) hp hk m0 m1 q)
theorem one (n : Nat) : OneOk (run fs G0 W0 (n + 3)) 9 := fun _ _ _ _ _ _ hp hk h1 h2 h3 h4 q => Ok_run (b := RS.B_law_one_of 7) (np := 2) (nn := 2) rfl rfl (one_ok (take n) hp hk h1 h2 h3 h4 q)
theorem open_ (n : Nat) : OpenOk (run fs G0 W0 (n + 1)) 5 := fun _ _ _ _ h1 h2 q => Ok_run (b := RS.B_law_open) (np := 1) (nn := 4) rfl rfl (open_ok h1 h2 q)
theorem same0 (n : Nat) : SameOk (run fs G0 W0 n) 8 0 := fun x y p r S Q h _ _ _ => by simp [pdat] at h
theorem sameS {n k : Nat} (h : SameOk (run fs G0 W0 n) 8 k) : SameOk (run fs G0 W0 (n + 1)) 8 (k + 1) := fun _ _ _ _ _ _ h1 h2 h3 q => Ok_run (b := RS.B_law_same 8) (np := 2) (nn := 4) rfl rfl (same_ok h h1 h2 h3 q)
theorem letters (n p : Nat) : LettersUOk (run fs G0 W0 (n + 1)) p 0 := fun _ _ _ _ h q => fn_ok (GU := GU) (b := RS.B_are_letters 0) (np := 1) (nn := 2) (fun g S av => hG g S p av) rfl rfl (are_letters_ok rfl h q)
theorem frame (n p : Nat) : FrameOk (run fs G0 W0 (n + 2)) p 1 := fun _ _ _ _ h q => fn_ok (GU := GU) (b := RS.B_is_frame 0) (np := 1) (nn := 1) (fun g S av => hG g S p av) rfl rfl (is_frame_ok (letters n p) h q)
theorem tape (n p : Nat) : TapeOk (run fs G0 W0 (n + 3)) p 2 := fun _ _ _ _ h1 h2 q => fn_ok (GU := GU) (b := RS.B_is_tape 1 1) (np := 1) (nn := 2) (fun g S av => hG g S p av) rfl rfl (is_tape_ok rfl (frame n p) h1 h2 q)
theorem write (n p : Nat) : WriteOk (run fs G0 W0 (n + 1)) p 3 := fun _ _ _ _ h1 h2 q => fn_ok (GU := GU) (b := RS.B_write_tape) (np := 1) (nn := 2) (fun g S av => hG g S p av) rfl rfl (write_tape_ok h1 h2 q)
theorem read (n p : Nat) : ReadOk (run fs G0 W0 (n + 4)) p 4 := fun _ _ _ _ h1 h2 q => fn_ok (GU := GU) (b := RS.B_read_tape 2 3) (np := 1) (nn := 3) (fun g S av => hG g S p av) rfl rfl (read_tape_ok (tape n p) (write (n + 2) p) h1 h2 q)
theorem drawTape (n p : Nat) : DrawTapeOk (run fs G0 W0 (n + 4)) p 10 := fun _ _ _ h q => fn_ok (GU := GU) (b := RS.B_law_draw_tape 7 9) (np := 1) (nn := 6) (fun g S av => hG g S p av) rfl rfl (draw_tape_ok (take (n + 1)) (one n) h q)
theorem law_runs : ∀ ns : List Int, ns.length ≤ 63 → ∃ S, run fs G0 1000000 100 11 [.ref 0] [.scr (ns.map D.int)] = .ok (.bl true) S := fun ns hn =>
  law_v (GU := GU) (b := RS.B_law50 10 8 3 4) (io := 5) (nn := 6) hG rfl (by decide) (open_ 98) hn fun p => law50_ok (drawTape 95 p) (sameS (sameS (sameS (same0 96)))) (write 98 p) (read 95 p)
/-- what the top has written -/
theorem top_mk {K : PySem.W.Frag} {h : Heap} {mg : Str → Option Value} (X : K.In h) (Gn : h.Ns mainGlobals mg)
    {a0 a1 a2 a3 a4 a5 a6 a7 a8 a9 a10 a11 : Addr} {od0 an0 od1 an1 od2 an2 od3 an3 od4 an4 od5 an5 od6 an6 od7 an7 od8 an8 od9 an9 od10 an10 od11 an11 : Option Addr} {sl0 sl1 sl2 sl3 sl4 sl5 sl6 sl7 sl8 sl9 sl10 sl11 : Array (Option Value)} {oc0 kV0 dc0 pm0 cd0 ct0 oc1 kV1 dc1 pm1 cd1 ct1 oc2 kV2 dc2 pm2 cd2 ct2 oc3 kV3 dc3 pm3 cd3 ct3 oc4 kV4 dc4 pm4 cd4 ct4 oc5 kV5 dc5 pm5 cd5 ct5 oc6 kV6 dc6 pm6 cd6 ct6 oc7 kV7 dc7 pm7 cd7 ct7 oc8 kV8 dc8 pm8 cd8 ct8 oc9 kV9 dc9 pm9 cd9 ct9 oc10 kV10 dc10 pm10 cd10 ct10 oc11 kV11 dc11 pm11 cd11 ct11 : Value}
    (n0 : PySem.W.nsIn K mainGlobals "are_letters" = some (some (.ref a0))) (l0 : K.lookup a0 = some ⟨oc0, od0, .func (PySem.W.fnOf "are_letters" "are_letters" (defArgs st0) (defBody st0) (defScope st0) .none kV0 dc0 pm0 an0 cd0 ct0), sl0⟩) (c0 : PySem.W.codeIn K cd0 "are_letters" = true) (k0 : PySem.W.keepIn K (.ref a0) = true)
    (n1 : PySem.W.nsIn K mainGlobals "is_frame" = some (some (.ref a1))) (l1 : K.lookup a1 = some ⟨oc1, od1, .func (PySem.W.fnOf "is_frame" "is_frame" (defArgs st1) (defBody st1) (defScope st1) .none kV1 dc1 pm1 an1 cd1 ct1), sl1⟩) (c1 : PySem.W.codeIn K cd1 "is_frame" = true) (k1 : PySem.W.keepIn K (.ref a1) = true)
    (n2 : PySem.W.nsIn K mainGlobals "is_tape" = some (some (.ref a2))) (l2 : K.lookup a2 = some ⟨oc2, od2, .func (PySem.W.fnOf "is_tape" "is_tape" (defArgs st2) (defBody st2) (defScope st2) .none kV2 dc2 pm2 an2 cd2 ct2), sl2⟩) (c2 : PySem.W.codeIn K cd2 "is_tape" = true) (k2 : PySem.W.keepIn K (.ref a2) = true)
    (n3 : PySem.W.nsIn K mainGlobals "write_tape" = some (some (.ref a3))) (l3 : K.lookup a3 = some ⟨oc3, od3, .func (PySem.W.fnOf "write_tape" "write_tape" (defArgs st3) (defBody st3) (defScope st3) .none kV3 dc3 pm3 an3 cd3 ct3), sl3⟩) (c3 : PySem.W.codeIn K cd3 "write_tape" = true) (k3 : PySem.W.keepIn K (.ref a3) = true)
    (n4 : PySem.W.nsIn K mainGlobals "read_tape" = some (some (.ref a4))) (l4 : K.lookup a4 = some ⟨oc4, od4, .func (PySem.W.fnOf "read_tape" "read_tape" (defArgs st4) (defBody st4) (defScope st4) .none kV4 dc4 pm4 an4 cd4 ct4), sl4⟩) (c4 : PySem.W.codeIn K cd4 "read_tape" = true) (k4 : PySem.W.keepIn K (.ref a4) = true)
    (n5 : PySem.W.nsIn K mainGlobals "_law_open" = some (some (.ref a5))) (l5 : K.lookup a5 = some ⟨oc5, od5, .func (PySem.W.fnOf "_law_open" "_law_open" (defArgs st5) (defBody st5) (defScope st5) .none kV5 dc5 pm5 an5 cd5 ct5), sl5⟩) (c5 : PySem.W.codeIn K cd5 "_law_open" = true) (k5 : PySem.W.keepIn K (.ref a5) = true)
    (n6 : PySem.W.nsIn K mainGlobals "_law_spread" = some (some (.ref a6))) (l6 : K.lookup a6 = some ⟨oc6, od6, .func (PySem.W.fnOf "_law_spread" "_law_spread" (defArgs st6) (defBody st6) (defScope st6) .none kV6 dc6 pm6 an6 cd6 ct6), sl6⟩) (c6 : PySem.W.codeIn K cd6 "_law_spread" = true) (k6 : PySem.W.keepIn K (.ref a6) = true)
    (n7 : PySem.W.nsIn K mainGlobals "_law_take" = some (some (.ref a7))) (l7 : K.lookup a7 = some ⟨oc7, od7, .func (PySem.W.fnOf "_law_take" "_law_take" (defArgs st7) (defBody st7) (defScope st7) .none kV7 dc7 pm7 an7 cd7 ct7), sl7⟩) (c7 : PySem.W.codeIn K cd7 "_law_take" = true) (k7 : PySem.W.keepIn K (.ref a7) = true)
    (n8 : PySem.W.nsIn K mainGlobals "_law_same" = some (some (.ref a8))) (l8 : K.lookup a8 = some ⟨oc8, od8, .func (PySem.W.fnOf "_law_same" "_law_same" (defArgs st8) (defBody st8) (defScope st8) .none kV8 dc8 pm8 an8 cd8 ct8), sl8⟩) (c8 : PySem.W.codeIn K cd8 "_law_same" = true) (k8 : PySem.W.keepIn K (.ref a8) = true)
    (n9 : PySem.W.nsIn K mainGlobals "_law_one_of" = some (some (.ref a9))) (l9 : K.lookup a9 = some ⟨oc9, od9, .func (PySem.W.fnOf "_law_one_of" "_law_one_of" (defArgs st9) (defBody st9) (defScope st9) .none kV9 dc9 pm9 an9 cd9 ct9), sl9⟩) (c9 : PySem.W.codeIn K cd9 "_law_one_of" = true) (k9 : PySem.W.keepIn K (.ref a9) = true)
    (n10 : PySem.W.nsIn K mainGlobals "_law_draw_tape" = some (some (.ref a10))) (l10 : K.lookup a10 = some ⟨oc10, od10, .func (PySem.W.fnOf "_law_draw_tape" "_law_draw_tape" (defArgs st10) (defBody st10) (defScope st10) .none kV10 dc10 pm10 an10 cd10 ct10), sl10⟩) (c10 : PySem.W.codeIn K cd10 "_law_draw_tape" = true) (k10 : PySem.W.keepIn K (.ref a10) = true)
    (n11 : PySem.W.nsIn K mainGlobals "law" = some (some (.ref a11))) (l11 : K.lookup a11 = some ⟨oc11, od11, .func (PySem.W.fnOf "law" "law" (defArgs st11) (defBody st11) (defScope st11) .none kV11 dc11 pm11 an11 cd11 ct11), sl11⟩) (c11 : PySem.W.codeIn K cd11 "law" = true) (k11 : PySem.W.keepIn K (.ref a11) = true)
    {tk0 tk1 : Tok} (g0 : PySem.W.nsIn K mainGlobals "LETTERS" = some (some (.str "abcdefghijklmnopqrstuvwxyz" tk0))) (g1 : PySem.W.nsIn K mainGlobals "MOST_FRAMES" = some (some (.int 16 tk1)))
    (b0 : PySem.W.nsIn K mainGlobals "len" = some none) (b1 : PySem.W.nsIn K mainGlobals "int" = some none) (b2 : PySem.W.nsIn K mainGlobals "list" = some none) (b3 : PySem.W.nsIn K mainGlobals "tuple" = some none) (b4 : PySem.W.nsIn K mainGlobals "sum" = some none) (b5 : PySem.W.nsIn K mainGlobals "all" = some none) (b6 : PySem.W.nsIn K mainGlobals "any" = some none) (b7 : PySem.W.nsIn K mainGlobals "max" = some none) (b8 : PySem.W.nsIn K mainGlobals "min" = some none) (b9 : PySem.W.nsIn K mainGlobals "range" = some none) (b10 : PySem.W.nsIn K mainGlobals "enumerate" = some none) (b11 : PySem.W.nsIn K mainGlobals "zip" = some none) (b12 : PySem.W.nsIn K mainGlobals "isinstance" = some none) (b13 : PySem.W.nsIn K mainGlobals "sorted" = some none) (b14 : PySem.W.nsIn K mainGlobals "set" = some none) (b15 : PySem.W.nsIn K mainGlobals "repr" = some none) (b16 : PySem.W.nsIn K mainGlobals "dict" = some none) (b17 : PySem.W.nsIn K mainGlobals "bool" = some none) (b18 : PySem.W.nsIn K mainGlobals "str" = some none) : Top K mg tab dfs fs G0 400 := by
  refine ⟨rfl, ?_, cp, fun x hx _ _ => PySem.W.mg_none_of X Gn ?_, fun g x h => ?_⟩
  case refine_3 =>
    match g, h with
    | 0, h => cases h; exact ⟨_, .str "abcdefghijklmnopqrstuvwxyz", PySem.W.mg_of X Gn g0, ⟨_, rfl⟩, fun m H => by first | exact Rep.str_.mpr rfl | exact Rep.int_.mpr rfl⟩
    | 1, h => cases h; exact ⟨_, .int 16, PySem.W.mg_of X Gn g1, ⟨_, rfl⟩, fun m H => by first | exact Rep.str_.mpr rfl | exact Rep.int_.mpr rfl⟩
    | g + 2, h => cases h
  rotate_left
  · simp only [bltNames, List.mem_cons, List.not_mem_nil, or_false] at hx
    rcases hx with rfl | rfl | rfl | rfl | rfl | rfl | rfl | rfl | rfl | rfl | rfl | rfl | rfl | rfl | rfl | rfl | rfl | rfl | rfl <;> assumption
  intro d hd
  simp only [dfs, List.mem_cons, List.not_mem_nil, or_false] at hd
  rcases hd with rfl | rfl | rfl | rfl | rfl | rfl | rfl | rfl | rfl | rfl | rfl | rfl
  · exact fnAt_mk X Gn (fun us hl => match us, hl with | [_], _ => rfl) n0 l0 c0 k0
  · exact fnAt_mk X Gn (fun us hl => match us, hl with | [_], _ => rfl) n1 l1 c1 k1
  · exact fnAt_mk X Gn (fun us hl => match us, hl with | [_], _ => rfl) n2 l2 c2 k2
  · exact fnAt_mk X Gn (fun us hl => match us, hl with | [_], _ => rfl) n3 l3 c3 k3
  · exact fnAt_mk X Gn (fun us hl => match us, hl with | [_], _ => rfl) n4 l4 c4 k4
  · exact fnAt_mk X Gn (fun us hl => match us, hl with | [_], _ => rfl) n5 l5 c5 k5
  · exact fnAt_mk X Gn (fun us hl => match us, hl with | [_, _], _ => rfl) n6 l6 c6 k6
  · exact fnAt_mk X Gn (fun us hl => match us, hl with | [_, _], _ => rfl) n7 l7 c7 k7
  · exact fnAt_mk X Gn (fun us hl => match us, hl with | [_, _], _ => rfl) n8 l8 c8 k8
  · exact fnAt_mk X Gn (fun us hl => match us, hl with | [_, _], _ => rfl) n9 l9 c9 k9
  · exact fnAt_mk X Gn (fun us hl => match us, hl with | [_], _ => rfl) n10 l10 c10 k10
  · exact fnAt_mk X Gn (fun us hl => match us, hl with | [_], _ => rfl) n11 l11 c11 k11
end Law
open PySem PySem.W PyProof.Rows in
set_option maxRecDepth 100000 in
set_option maxHeartbeats 0 in
theorem PySem.Challenge.cw_reelsplice_k50_tapes_written_and_read_holds : PySem.Challenge.rw_reelsplice_k50_tapes_written_and_read.Holds := by
  w_on; o_law; k_head; (case hw => w_witness2)
  k_fill
  refine RS.ends (l := PySem.Challenge.rw_reelsplice_k50_tapes_written_and_read) (n := 100) (f := 11) (W := 1000000) (T := Law.tab) (ds := Law.dfs) (fs := Law.fs) (fuel := 400) (G := Law.G0) (x := "script") rfl rfl ⟨rfl, by decide, by decide⟩ (fun w h Y => PySem.W.kIn_of Y) rfl rfl rfl ?F ?noL Law.law_runs
  case F =>
    intro w mg h KX Gn
    refine' Law.top_mk KX Gn ?n0 ?l0 ?c0 ?k0 ?n1 ?l1 ?c1 ?k1 ?n2 ?l2 ?c2 ?k2 ?n3 ?l3 ?c3 ?k3 ?n4 ?l4 ?c4 ?k4 ?n5 ?l5 ?c5 ?k5 ?n6 ?l6 ?c6 ?k6 ?n7 ?l7 ?c7 ?k7 ?n8 ?l8 ?c8 ?k8 ?n9 ?l9 ?c9 ?k9 ?n10 ?l10 ?c10 ?k10 ?n11 ?l11 ?c11 ?k11 ?cg0 ?cg1 ?b0 ?b1 ?b2 ?b3 ?b4 ?b5 ?b6 ?b7 ?b8 ?b9 ?b10 ?b11 ?b12 ?b13 ?b14 ?b15 ?b16 ?b17 ?b18
    (case n0 => k_is)
    (case l0 => k_is)
    (case c0 => k_is)
    (case k0 => k_is)
    (case n1 => k_is)
    (case l1 => k_is)
    (case c1 => k_is)
    (case k1 => k_is)
    (case n2 => k_is)
    (case l2 => k_is)
    (case c2 => k_is)
    (case k2 => k_is)
    (case n3 => k_is)
    (case l3 => k_is)
    (case c3 => k_is)
    (case k3 => k_is)
    (case n4 => k_is)
    (case l4 => k_is)
    (case c4 => k_is)
    (case k4 => k_is)
    (case n5 => k_is)
    (case l5 => k_is)
    (case c5 => k_is)
    (case k5 => k_is)
    (case n6 => k_is)
    (case l6 => k_is)
    (case c6 => k_is)
    (case k6 => k_is)
    (case n7 => k_is)
    (case l7 => k_is)
    (case c7 => k_is)
    (case k7 => k_is)
    (case n8 => k_is)
    (case l8 => k_is)
    (case c8 => k_is)
    (case k8 => k_is)
    (case n9 => k_is)
    (case l9 => k_is)
    (case c9 => k_is)
    (case k9 => k_is)
    (case n10 => k_is)
    (case l10 => k_is)
    (case c10 => k_is)
    (case k10 => k_is)
    (case n11 => k_is)
    (case l11 => k_is)
    (case c11 => k_is)
    (case k11 => k_is)
    (case cg0 => k_is)
    (case cg1 => k_is)
    (case b0 => k_is)
    (case b1 => k_is)
    (case b2 => k_is)
    (case b3 => k_is)
    (case b4 => k_is)
    (case b5 => k_is)
    (case b6 => k_is)
    (case b7 => k_is)
    (case b8 => k_is)
    (case b9 => k_is)
    (case b10 => k_is)
    (case b11 => k_is)
    (case b12 => k_is)
    (case b13 => k_is)
    (case b14 => k_is)
    (case b15 => k_is)
    (case b16 => k_is)
    (case b17 => k_is)
    (case b18 => k_is)
  case noL =>
    intro w
    rfl

