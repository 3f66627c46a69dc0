import PyProof.Rows.All
import Wide.All
import OpenK.AllK
import Wide.FinOn
import HandS.ForMost
import HandS.Comp
import HandS.Text
import HandS.Iter
import HandS.Dict
import HandS.Ends
import HandS.TupAny
import HandS.TupMul
import HandS.Conv
import HandS.Style
import HandS.IsInst
import HandS.More
import PyProof.ListStr
import HandS.Walk
import HandS.Zip
import KE.GoesMore
import KE.GoesEnum
import PySem.Challenge.RW_reelsplice_k48_shares_for_more_reels
set_option Elab.async false
set_option linter.all false
set_option maxRecDepth 100000
set_option maxHeartbeats 4000000
/-! K1: the small language of values, its meaning, and how it stands for what the layer tracks. -/
namespace RS
open PySem PySem.Spec L2

/-- a value: data by themselves, things that change by their number -/
inductive D where
  | non | bl (b : Bool) | int (i : Int) | str (s : Str) | tup (ds : List D) | ref (n : Nat)
deriving Inhabited
/-- a thing that changes; scr: the script, read alone; dlk: a dict while it is walked -/
inductive O where
  | lst (ds : List D) | scr (ds : List D) | dct (kvs : List (D × D)) | dlk (kvs : List (D × D))
  | ins (c : Nat) (fs : List (Str × D))
deriving Inhabited
abbrev Hs := List O
/-- what a run gives: a value, an error (its class, what it holds), or nothing that is told -/
inductive R (α : Type) where
  | ok (a : α) (S : Hs) | ex (c : Nat) (x : Option D) (S : Hs) | no
def R.bind {α β : Type} (r : R α) (f : α → Hs → R β) : R β := match r with
  | .ok a S => f a S
  | .ex c x S => .ex c x S
  | .no => .no
@[simp] theorem R.bind_ok {α β : Type} (a : α) (S : Hs) (f : α → Hs → R β) : (R.ok a S).bind f = f a S := rfl
@[simp] theorem R.bind_ex {α β : Type} (c x S) (f : α → Hs → R β) : (R.ex c x S : R α).bind f = .ex c x S := rfl
@[simp] theorem R.bind_no {α β : Type} (f : α → Hs → R β) : (R.no : R α).bind f = .no := rfl

theorem R.bind_assoc {α β γ : Type} (r : R α) (f : α → Hs → R β) (g : β → Hs → R γ) : (r.bind f).bind g = r.bind fun a S => (f a S).bind g := by cases r <;> rfl

inductive Bop | add | sub | mul | fdv | mod | pow
deriving DecidableEq
inductive Cop | lt | le | gt | ge | eq | ne | mem | nmem
deriving DecidableEq
inductive Bi | len | int | list | tuple | sum | all | any | min | max | sorted | sortedSet | lenSet | repr | dict
deriving DecidableEq
inductive Ty | int | bool | str | tuple | list | dict | cls (n : Nat)
deriving DecidableEq
inductive Mt | append | insert | pop | extend | join | split | get | items | values | index | find | count | clear | setdefault | update | upper
deriving DecidableEq
/-- expressions, lists of them (nil, cons), targets, walks -/
inductive E where
  | var (i : Nat) | non | bl (b : Bool) | int (i : Int) | str (s : Str) | glb (g : Nat)
  | nil | cons (a b : E) | tup (es : E) | lst (es : E) | dic (es : E)
  | bin (o : Bop) (a b : E) | neg (a : E) | nt (a : E)
  | cmp (o : Cop) (a b : E) | isN (a : E) | nsN (a : E) | chn (o p : Cop) (a b c : E)
  | and (a b : E) | or (a b : E) | ife (c a b : E)
  | cal (f : Nat) (es : E) | bi (f : Bi) (es : E) | isi (ts : List Ty) (a : E) | mth (m : Mt) (o es : E)
  | ix (a i : E) | sl (a lo hi : E) | rvs (a : E)
  | lc (vs : List Nat) (e tg it c : E) | dc (vs : List Nat) (k v tg it c : E)
  | lrg (es : E) | rng (es : E) | enm (es : E) | zip (st : Bool) (es : E)
deriving Inhabited, DecidableEq
def cnt : E → Nat
  | .cons _ b => cnt b + 1
  | _ => 0
/-- statements, blocks of them (nil, cons) -/
inductive C where
  | nil | cons (a b : C) | asg (tg e : E) | aug (i : Nat) (o : Bop) (e : E) | exp (e : E) | ret (e : E) | retN | pas
  | ife (c : E) (a b : C) | for_ (tg it : E) (b : C) | whl (c : E) (b : C) | brk | cnt
deriving Inhabited, DecidableEq
abbrev Rho := List (Option D)
inductive Fl where
  | nx (ρ : Rho) | rt (d : D) | bk (ρ : Rho) | ct (ρ : Rho)

/-! ### what things are -/
def lim (n : Nat) {α : Type} (r : R α) : R α := if n ≤ sizeLine then r else .no
def newO (o : O) (S : Hs) : R D := .ok (.ref S.length) (S ++ [o])
def asI : D → Option Int
  | .int i => some i
  | _ => none
/-- a list's or tuple's items -/
def seqOf (S : Hs) : D → Option (List D)
  | .tup ds => some ds
  | .ref n => match S[n]? with
    | some (.lst ds) => some ds
    | some (.scr ds) => some ds
    | _ => none
  | _ => none
def mapO {α β : Type} (f : α → Option β) : List α → Option (List β)
  | [] => some []
  | a :: as => match f a, mapO f as with
    | some b, some bs => some (b :: bs)
    | _, _ => none
/-- the data that a value is, lists within it laid open, n deep -/
def pdat (S : Hs) : Nat → D → Option PyData
  | 0, _ => none
  | _ + 1, .non => some .none
  | _ + 1, .bl b => some (.bool b)
  | _ + 1, .int i => some (.int i)
  | _ + 1, .str s => some (.str s)
  | n + 1, .tup ds => (mapO (pdat S n) ds).map .tuple
  | n + 1, .ref a => match S[a]? with
    | some (.lst ds) => (mapO (pdat S n) ds).map .list
    | some (.scr ds) => (mapO (pdat S n) ds).map .list
    | _ => none

mutual
def D.beq : D → D → Bool
  | .non, .non => true
  | .bl a, .bl b => a == b
  | .int a, .int b => decide (a = b)
  | .str a, .str b => decide (a = b)
  | .tup a, .tup b => D.beqs a b
  | .ref a, .ref b => decide (a = b)
  | _, _ => false
def D.beqs : List D → List D → Bool
  | [], [] => true
  | a :: as, b :: bs => D.beq a b && D.beqs as bs
  | _, _ => false
end
mutual
theorem D.beq_self : ∀ a : D, D.beq a a = true
  | .non => by simp [D.beq]
  | .bl b => by simp [D.beq]
  | .int i => by simp [D.beq]
  | .str x => by simp [D.beq]
  | .tup ds => by simp only [D.beq]; exact D.beqs_self ds
  | .ref n => by simp [D.beq]
theorem D.beqs_self : ∀ a : List D, D.beqs a a = true
  | [] => by simp [D.beqs]
  | a :: as => by simp only [D.beqs]; rw [D.beq_self a, D.beqs_self as]; rfl
end
mutual
theorem D.of_beq : ∀ a b : D, D.beq a b = true → a = b
  | .non, b, h => by cases b <;> simp [D.beq] at h <;> rfl
  | .bl x, b, h => by cases b <;> simp [D.beq] at h; rw [h]
  | .int x, b, h => by cases b <;> simp [D.beq] at h; rw [h]
  | .str x, b, h => by cases b <;> simp [D.beq] at h; rw [h]
  | .tup x, b, h => by
    cases b with
    | tup y => simp only [D.beq] at h; rw [D.of_beqs x y h]
    | _ => simp [D.beq] at h
  | .ref x, b, h => by cases b <;> simp [D.beq] at h; rw [h]
theorem D.of_beqs : ∀ a b : List D, D.beqs a b = true → a = b
  | [], [], _ => rfl
  | [], _ :: _, h => by simp [D.beqs] at h
  | _ :: _, [], h => by simp [D.beqs] at h
  | a :: as, b :: bs, h => by
    simp only [D.beqs, Bool.and_eq_true] at h
    rw [D.of_beq a b h.1, D.of_beqs as bs h.2]
end
instance : DecidableEq D := fun a b => if h : D.beq a b = true then .isTrue (D.of_beq a b h) else .isFalse fun e => h (e ▸ D.beq_self a)

/-! ### walks -/
/-- what is walked: the items, and the lists that must stay as they are meanwhile -/
structure Src where
  gs : List (Nat × List D)
  its : List D
def heldAt (S : Hs) (g : Nat × List D) : Bool := match S[g.1]? with
  | some (.lst ds) => decide (ds = g.2)
  | some (.scr ds) => decide (ds = g.2)
  | _ => false
def held (S : Hs) (gs : List (Nat × List D)) : Bool := gs.all (heldAt S)
def signs (x : Str) : List D := x.cps.toList.map fun c => .str ⟨#[c]⟩
def srcOf (S : Hs) : D → Option Src
  | .tup ds => some ⟨[], ds⟩
  | .str x => some ⟨[], signs x⟩
  | .ref n => match S[n]? with
    | some (.lst ds) => some ⟨[(n, ds)], ds⟩
    | some (.scr ds) => some ⟨[(n, ds)], ds⟩
    | _ => none
  | _ => none
def numbered : Nat → List D → List D
  | _, [] => []
  | i, d :: ds => .tup [.int i, d] :: numbered (i + 1) ds
def pairsUp : List D → List D → List D
  | x :: xs, y :: ys => .tup [x, y] :: pairsUp xs ys
  | _, _ => []
def rangeD (lo : Int) (n : Nat) : List D := (List.range n).map fun (i : Nat) => .int (lo + i)
def rangeC (lo c : Int) (n : Nat) : List D := (List.range n).map fun (i : Nat) => .int (lo + i * c)
def big62 (i : Int) : Bool := decide (-(2 ^ 62) ≤ i) && decide (i < 2 ^ 62)
/-! ### operators -/
def mulOk (i j : Int) : Bool := (decide (-(2 ^ 64) < i) && decide (i < 2 ^ 64)) || (decide (-(2 ^ 64) < j) && decide (j < 2 ^ 64))
def rep {α : Type} (n : Nat) (xs : List α) : List α := (List.replicate n xs).flatten
def binD (S : Hs) : Bop → D → D → R D
  | .add, .int i, .int j => .ok (.int (i + j)) S
  | .add, .str x, .str y => lim (x.length + y.length) (.ok (.str (x ++ y)) S)
  | .add, .tup xs, .tup ys => lim (xs.length + ys.length) (.ok (.tup (xs ++ ys)) S)
  | .add, .ref a, .ref b => match S[a]?, S[b]? with
    | some (.lst xs), some (.lst ys) => lim (xs.length + ys.length) (newO (.lst (xs ++ ys)) S)
    | _, _ => .no
  | .sub, .int i, .int j => .ok (.int (i - j)) S
  | .mul, .int i, .int j => if mulOk i j then .ok (.int (i * j)) S else .no
  | .mul, .tup xs, .int k => if xs ≠ [] ∧ 2 ≤ k ∧ k ≤ 1000 ∧ xs.length ≤ 1000 then .ok (.tup (rep k.toNat xs)) S else .no
  | .mul, .ref a, .int k => match S[a]? with
    | some (.lst xs) => if -(2 ^ 63) ≤ k ∧ k < 2 ^ 63 ∧ xs.length * k.toNat ≤ sizeLine then newO (.lst (rep k.toNat xs)) S else .no
    | _ => .no
  | .fdv, .int i, .int j => if j ≠ 0 ∧ j.natAbs < 1073741824 then .ok (.int (i.fdiv j)) S else .no
  | .mod, .int i, .int j => if j ≠ 0 then .ok (.int (i.fmod j)) S else .no
  | .pow, .int i, .int j => if 0 ≤ j ∧ j ≤ 1000000 ∧ i.natAbs < 2 ^ 64 then .ok (.int (i ^ j.toNat)) S else .no
  | _, _, _ => .no
/-- x op= y -/
def augD (S : Hs) : Bop → D → D → R D
  | .add, .int i, .int j => .ok (.int (i + j)) S
  | .sub, .int i, .int j => .ok (.int (i - j)) S
  | _, _, _ => .no
def shp (S : Hs) (d : D) : Option PyData := match pdat S 66 d with
  | some p => if SeqAt.shaped p = true then some p else none
  | none => none
def flatD : D → Bool
  | .tup _ => false
  | .ref _ => false
  | _ => true
def eqF : D → D → Bool
  | .non, .non => true
  | .bl a, .bl b => a == b
  | .int a, .int b => a == b
  | .bl a, .int b => (if a then 1 else 0) == b
  | .int a, .bl b => a == (if b then 1 else 0)
  | .str a, .str b => a == b
  | _, _ => false
/-- x == y -/
def eqD (S : Hs) : D → D → Option Bool
  | .int i, .int j => some (decide (i = j))
  | .str x, .str y => some (decide (x = y))
  | x, y => match shp S x, shp S y with
    | some p, some q => some (PyData.eqv p q)
    | _, _ => none
def memD (S : Hs) (neg : Bool) (x : D) : D → R D
  | .str z => match x with
    | .str y => .ok (.bl (neg != !(Builtin.Str.occurrences z y 0 z.length 1).isEmpty)) S
    | _ => .no
  | y => match seqOf S y with
    | some ds => if flatD x && ds.all flatD then .ok (.bl (neg != ds.any fun z => eqF z x)) S else .no
    | none => .no
def cmpD (S : Hs) : Cop → D → D → R D
  | .lt, .int i, .int j => .ok (.bl (decide (i < j))) S
  | .le, .int i, .int j => .ok (.bl (decide (i ≤ j))) S
  | .gt, .int i, .int j => .ok (.bl (decide (j < i))) S
  | .ge, .int i, .int j => .ok (.bl (decide (j ≤ i))) S
  | .eq, x, y => match eqD S x y with
    | some b => .ok (.bl b) S
    | none => .no
  | .ne, x, y => match eqD S x y with
    | some b => .ok (.bl (!b)) S
    | none => .no
  | .mem, x, y => memD S false x y
  | .nmem, x, y => memD S true x y
  | _, _, _ => .no

/-! ### built-in functions, methods, subscripts -/
def tyIs (S : Hs) (d : D) : Ty → Option Bool
  | .int => some (match d with | .int _ => true | .bl _ => true | _ => false)
  | .bool => some (match d with | .bl _ => true | _ => false)
  | .str => some (match d with | .str _ => true | _ => false)
  | .tuple => some (match d with | .tup _ => true | _ => false)
  | .list => match d with
    | .ref n => match S[n]? with
      | some (.lst _) => some true
      | some (.scr _) => some true
      | some _ => some false
      | none => none
    | _ => some false
  | .dict => match d with
    | .ref n => match S[n]? with
      | some (.dct _) => some true
      | some (.dlk _) => some true
      | some _ => some false
      | none => none
    | _ => some false
  | .cls c => match d with
    | .ref n => match S[n]? with
      | some (.ins c' _) => some (decide (c = c'))
      | some _ => some false
      | none => none
    | _ => some false
def tysAre (S : Hs) (d : D) : List Ty → Option Bool
  | [] => some false
  | t :: ts => match tyIs S d t, tysAre S d ts with
    | some a, some b => some (a || b)
    | _, _ => none
def intsOf : List D → Option (List Int) := mapO asI
def asB : D → Option Bool
  | .bl b => some b
  | _ => none
def boolsOf : List D → Option (List Bool) := mapO asB
def asS : D → Option Str
  | .str x => some x
  | _ => none
def strsOf : List D → Option (List Str) := mapO asS
def maxL : List Int → Option Int
  | [] => none
  | x :: xs => some (xs.foldl (fun a b => if b > a then b else a) x)
def minL : List Int → Option Int
  | [] => none
  | x :: xs => some (xs.foldl (fun a b => if b < a then b else a) x)
def lenOf (S : Hs) : D → Option Nat
  | .str x => if x.length ≤ sizeLine then some x.length else none
  | d => (seqOf S d).map List.length
def biF (S : Hs) : Bi → List D → R D
  | .len, [d] => match lenOf S d with
    | some n => .ok (.int n) S
    | none => .no
  | .int, [.int i] => .ok (.int i) S
  | .int, [.bl b] => .ok (.int (if b then 1 else 0)) S
  | .list, [.str x] => lim x.length (newO (.lst (signs x)) S)
  | .list, [d] => match seqOf S d with
    | some ds => newO (.lst ds) S
    | none => .no
  | .tuple, [d] => match seqOf S d with
    | some ds => .ok (.tup ds) S
    | none => .no
  | .sum, [.ref a] => match (seqOf S (.ref a)).bind intsOf with
    | some ns => .ok (.int ns.sum) S
    | none => .no
  | .all, [.ref a] => match (seqOf S (.ref a)).bind boolsOf with
    | some bs => .ok (.bl (bs.all id)) S
    | none => .no
  | .any, [.ref a] => match (seqOf S (.ref a)).bind boolsOf with
    | some bs => .ok (.bl (bs.any id)) S
    | none => .no
  | .max, [.ref a] => match ((seqOf S (.ref a)).bind intsOf).bind maxL with
    | some n => .ok (.int n) S
    | none => .no
  | .min, [.ref a] => match ((seqOf S (.ref a)).bind intsOf).bind minL with
    | some n => .ok (.int n) S
    | none => .no
  | .max, [.int i, .int j] => .ok (.int (if j > i then j else i)) S
  | .min, [.int i, .int j] => .ok (.int (if j < i then j else i)) S
  | _, _ => .no
def lstAt (S : Hs) (n : Nat) : Option (List D) := match S[n]? with
  | some (.lst ds) => some ds
  | _ => none
def mtF (S : Hs) : Mt → D → List D → R D
  | .append, .ref a, [x] => match lstAt S a with
    | some xs => if xs.length < sizeLine then .ok .non (S.set a (.lst (xs ++ [x]))) else .no
    | none => .no
  | .extend, .ref a, [.ref b] => match lstAt S a, lstAt S b with
    | some xs, some ys => lim (xs.length + ys.length) (.ok .non (S.set a (.lst (xs ++ ys))))
    | _, _ => .no
  | .insert, .ref a, [.int i, x] => match lstAt S a with
    | some xs => if xs.length < sizeLine ∧ 0 ≤ i ∧ i < 2 ^ 63 then .ok .non (S.set a (.lst (xs.take i.toNat ++ [x] ++ xs.drop i.toNat))) else .no
    | none => .no
  | .pop, .ref a, [] => match lstAt S a with
    | some xs => match xs[xs.length - 1]? with
      | some y => .ok y (S.set a (.lst xs.dropLast))
      | none => .no
    | none => .no
  | .pop, .ref a, [.int i] => if -(2 ^ 63) ≤ i ∧ i < 2 ^ 63 then match lstAt S a with
    | some xs => match ixN xs.length i with
      | some k => match xs[k]? with
        | some y => .ok y (S.set a (.lst (xs.eraseIdx k)))
        | none => .no
      | none => .no
    | none => .no
    else .no
  | .join, .str x, [d] => match (seqOf S d).bind strsOf with
    | some ys => if (ys.map (·.length)).sum + ys.length * x.length ≤ 16777216 then .ok (.str (Txt.join x ys)) S else .no
    | none => .no
  | _, _, _ => .no

/-- the kind that a method wants -/
def mtK (S : Hs) : Mt → D → Bool
  | .join, .str _ => true
  | .append, .ref n => (lstAt S n).isSome
  | .insert, .ref n => (lstAt S n).isSome
  | .extend, .ref n => (lstAt S n).isSome
  | .pop, .ref n => (lstAt S n).isSome
  | _, _ => false
def ixS (S : Hs) (d : D) (i : Int) : R D := match seqOf S d with
  | some ds => match atI ds i with
    | some x => .ok x S
    | none => .no
  | none => .no
def ixD (S : Hs) : D → D → R D
  | .str x, .int i => if x.length ≤ sizeLine then match atI x.cps.toList i with
      | some c => .ok (.str ⟨#[c]⟩) S
      | none => .no
    else .no
  | d, .int i => ixS S d i
  | _, _ => .no
def cutD {α : Type} (xs : List α) (lo hi : Option Int) : List α := (xs.drop (HT.sIx xs.length 0 lo)).take (HT.sIx xs.length xs.length hi - HT.sIx xs.length 0 lo)
def slD (S : Hs) (d : D) (lo hi : Option Int) : R D := match d with
  | .str x => if x.length ≤ sizeLine then .ok (.str ⟨(cutD x.cps.toList lo hi).toArray⟩) S else .no
  | .tup ds => .ok (.tup (cutD ds lo hi)) S
  | d => match seqOf S d with
    | some ds => newO (.lst (cutD ds lo hi)) S
    | none => .no
def rvD (S : Hs) (d : D) : R D := match d with
  | .ref n => match seqOf S (.ref n) with
    | some ds => newO (.lst ds.reverse) S
    | none => .no
  | _ => .no
/-- by the truth that a value is -/
def tst {α : Type} (x : D) (a b : R α) : R α := match x with
  | .bl true => a
  | .bl false => b
  | _ => .no
@[simp] theorem tst_t {α : Type} (a b : R α) : tst (.bl true) a b = a := rfl
@[simp] theorem tst_f {α : Type} (a b : R α) : tst (.bl false) a b = b := rfl
theorem tst_bl {α : Type} (c : Bool) (a b : R α) : tst (.bl c) a b = if c = true then a else b := by cases c <;> rfl
def isN : D → Bool
  | .non => true
  | _ => false
def setIx (S : Hs) : D → D → D → R Unit
  | .ref a, .int k, d => match lstAt S a with
    | some xs => match ixN xs.length k with
      | some j => .ok () (S.set a (.lst (xs.set j d)))
      | none => .no
    | none => .no
  | _, _, _ => .no
def wipeR (ρ : Rho) : List Nat → Rho
  | [] => ρ
  | v :: vs => (wipeR ρ vs).set v none
def lcGo (gs : List (Nat × List D)) (turn : D → Hs → R (Option D)) : List D → Hs → R (List D)
  | [], S => if held S gs then .ok [] S else .no
  | d :: ds, S => if held S gs then (turn d S).bind fun o S1 => (lcGo gs turn ds S1).bind fun r S2 => .ok (match o with | some x => x :: r | none => r) S2 else .no
/-- range(..) -/
def rgD (S : Hs) : List D → R Src
  | [.int j] => if big62 j then .ok ⟨[], rangeD 0 j.toNat⟩ S else .no
  | [.int i, .int j] => if big62 i && big62 j then .ok ⟨[], rangeD i (j - i).toNat⟩ S else .no
  | [.int i, .int j, .int c] => if big62 i && big62 j && decide (c = -1) then .ok ⟨[], rangeC i (-1) (i - j).toNat⟩ S else .no
  | _ => .no
/-- list(range(..)) -/
def lrD (S : Hs) : List D → R D
  | [.int j] => if big62 j = true ∧ j.toNat ≤ 2 ^ 24 then newO (.lst (rangeD 0 j.toNat)) S else .no
  | [.int i, .int j] => if big62 i = true ∧ big62 j = true ∧ (j - i).toNat ≤ 2 ^ 24 then newO (.lst (rangeD i (j - i).toNat)) S else .no
  | _ => .no
/-- enumerate(..) -/
def enD (S : Hs) : List D → R Src
  | [x] => match srcOf S x with
    | some s => .ok ⟨s.gs, numbered 0 s.its⟩ S
    | none => .no
  | _ => .no
def ofO {α : Type} (S : Hs) : Option α → R α
  | some a => .ok a S
  | none => .no
def zpD_ (st : Bool) (x y : Src) : Option Src := if st && x.its.length != y.its.length then none else some ⟨x.gs ++ y.gs, pairsUp x.its y.its⟩
/-- zip(..) -/
def zpD (st : Bool) (S : Hs) : List D → R Src
  | [.tup xs, .tup ys] => ofO S (zpD_ st ⟨[], xs⟩ ⟨[], ys⟩)
  | [.ref a, .ref b] => match srcOf S (.ref a), srcOf S (.ref b) with
    | some s, some t => ofO S (zpD_ st s t)
    | _, _ => .no
  | _ => .no

section
variable (Φ : Nat → List D → Hs → R D) (G : Nat → D)
mutual
def den : E → Rho → Hs → R D
  | .var i, ρ, S => match ρ[i]? with
    | some (some d) => .ok d S
    | _ => .no
  | .non, _, S => .ok .non S
  | .bl b, _, S => .ok (.bl b) S
  | .int i, _, S => .ok (.int i) S
  | .str x, _, S => .ok (.str x) S
  | .glb g, _, S => .ok (G g) S
  | .tup es, ρ, S => (denL es ρ S).bind fun ds S1 => lim ds.length (.ok (.tup ds) S1)
  | .lst es, ρ, S => (denL es ρ S).bind fun ds S1 => lim ds.length (newO (.lst ds) S1)
  | .bin o a b, ρ, S => (den a ρ S).bind fun x S1 => (den b ρ S1).bind fun y S2 => binD S2 o x y
  | .neg a, ρ, S => (den a ρ S).bind fun x S1 => match x with
    | .int i => .ok (.int (-i)) S1
    | _ => .no
  | .nt a, ρ, S => (den a ρ S).bind fun x S1 => match x with
    | .bl b => .ok (.bl (!b)) S1
    | _ => .no
  | .cmp o a b, ρ, S => (den a ρ S).bind fun x S1 => (den b ρ S1).bind fun y S2 => cmpD S2 o x y
  | .isN a, ρ, S => (den a ρ S).bind fun x S1 => .ok (.bl (isN x)) S1
  | .nsN a, ρ, S => (den a ρ S).bind fun x S1 => .ok (.bl (!isN x)) S1
  | .chn o p a b c, ρ, S => (den a ρ S).bind fun x S1 => (den b ρ S1).bind fun y S2 => (cmpD S2 o x y).bind fun k S3 => tst k ((den c ρ S3).bind fun z S4 => cmpD S4 p y z) (.ok (.bl false) S3)
  | .and a b, ρ, S => (den a ρ S).bind fun x S1 => tst x (den b ρ S1) (.ok (.bl false) S1)
  | .or a b, ρ, S => (den a ρ S).bind fun x S1 => tst x (.ok (.bl true) S1) (den b ρ S1)
  | .ife c a b, ρ, S => (den c ρ S).bind fun x S1 => tst x (den a ρ S1) (den b ρ S1)
  | .cal f es, ρ, S => (denL es ρ S).bind fun ds S1 => Φ f ds S1
  | .bi f es, ρ, S => (denL es ρ S).bind fun ds S1 => biF S1 f ds
  | .isi ts a, ρ, S => (den a ρ S).bind fun x S1 => match tysAre S1 x ts with
    | some b => .ok (.bl b) S1
    | none => .no
  | .mth m o es, ρ, S => (den o ρ S).bind fun x S1 => if mtK S1 m x = true then (denL es ρ S1).bind fun ds S2 => mtF S2 m x ds else .no
  | .ix a i, ρ, S => (den a ρ S).bind fun x S1 => (den i ρ S1).bind fun y S2 => ixD S2 x y
  | .sl a lo hi, ρ, S => (den a ρ S).bind fun x S1 => (denO lo ρ S1).bind fun l S2 => (denO hi ρ S2).bind fun h S3 => slD S3 x l h
  | .rvs a, ρ, S => (den a ρ S).bind fun x S1 => rvD S1 x
  | .lrg es, ρ, S => (denL es ρ S).bind fun ds S1 => lrD S1 ds
  | .lc vs e tg it c, ρ, S => (denI it ρ S).bind fun src S1 => (lcGo src.gs (fun d S' => (denG tg d (wipeR ρ vs) S').bind fun ρ' S2 => (den c ρ' S2).bind fun k S3 => tst k ((den e ρ' S3).bind fun x S4 => .ok (some x) S4) (.ok none S3)) src.its S1).bind fun r S2 => lim src.its.length (newO (.lst r) S2)
  | _, _, _ => .no
/-- arguments, displayed items -/
def denL : E → Rho → Hs → R (List D)
  | .nil, _, S => .ok [] S
  | .cons a b, ρ, S => (den a ρ S).bind fun x S1 => (denL b ρ S1).bind fun xs S2 => .ok (x :: xs) S2
  | _, _, _ => .no
/-- a slice's end: left out (nil), or an int -/
def denO : E → Rho → Hs → R (Option Int)
  | .nil, _, S => .ok none S
  | .cons a _, ρ, S => (den a ρ S).bind fun x S1 => match x with
    | .int i => .ok (some i) S1
    | _ => .no
  | _, _, _ => .no
/-- what is walked -/
def denI : E → Rho → Hs → R Src
  | .rng es, ρ, S => (denL es ρ S).bind fun ds S1 => rgD S1 ds
  | .enm es, ρ, S => (denL es ρ S).bind fun ds S1 => enD S1 ds
  | .zip st es, ρ, S => (denL es ρ S).bind fun ds S1 => zpD st S1 ds
  | .cons a _, ρ, S => (den a ρ S).bind fun x S1 => ofO S1 (srcOf S1 x)
  | _, _, _ => .no
/-- a target takes a value -/
def denG : E → D → Rho → Hs → R Rho
  | .var i, d, ρ, S => if i < ρ.length then .ok (ρ.set i (some d)) S else .no
  | .tup es, d, ρ, S => match d with
    | .tup ds => if ds.length = cnt es then denGs es ds ρ S else .no
    | _ => .no
  | .ix a i, d, ρ, S => (den a ρ S).bind fun x S1 => (den i ρ S1).bind fun y S2 => (setIx S2 x y d).bind fun _ S3 => .ok ρ S3
  | _, _, _, _ => .no
def denGs : E → List D → Rho → Hs → R Rho
  | .nil, [], ρ, S => .ok ρ S
  | .cons a b, d :: ds, ρ, S => (denG a d ρ S).bind fun ρ1 S1 => denGs b ds ρ1 S1
  | _, _, _, _ => .no
end
end
def forGo (gs : List (Nat × List D)) (turn : D → Rho → Hs → R Fl) : List D → Rho → Hs → R Fl
  | [], ρ, S => if held S gs then .ok (.nx ρ) S else .no
  | d :: ds, ρ, S => if held S gs then (turn d ρ S).bind fun f S1 => match f with
      | .nx ρ1 => forGo gs turn ds ρ1 S1
      | .ct ρ1 => forGo gs turn ds ρ1 S1
      | .bk ρ1 => .ok (.nx ρ1) S1
      | .rt x => .ok (.rt x) S1
    else .no
def whlGo (cond : Rho → Hs → R D) (turn : Rho → Hs → R Fl) : Nat → Rho → Hs → R Fl
  | 0, _, _ => .no
  | n + 1, ρ, S => (cond ρ S).bind fun k S1 => tst k ((turn ρ S1).bind fun f S2 => match f with
      | .nx ρ1 => whlGo cond turn n ρ1 S2
      | .ct ρ1 => whlGo cond turn n ρ1 S2
      | .bk ρ1 => .ok (.nx ρ1) S2
      | .rt x => .ok (.rt x) S2) (.ok (.nx ρ) S1)
section
variable (Φ : Nat → List D → Hs → R D) (G : Nat → D) (W : Nat)
/-- statements -/
def exec : C → Rho → Hs → R Fl
  | .nil, ρ, S => .ok (.nx ρ) S
  | .cons a b, ρ, S => (exec a ρ S).bind fun f S1 => match f with
    | .nx ρ1 => exec b ρ1 S1
    | f => .ok f S1
  | .asg tg e, ρ, S => (den Φ G e ρ S).bind fun d S1 => (denG Φ G tg d ρ S1).bind fun ρ1 S2 => .ok (.nx ρ1) S2
  | .aug i o e, ρ, S => match ρ[i]? with
    | some (some x) => (den Φ G e ρ S).bind fun y S1 => (augD S1 o x y).bind fun z S2 => .ok (.nx (ρ.set i (some z))) S2
    | _ => .no
  | .exp e, ρ, S => (den Φ G e ρ S).bind fun _ S1 => .ok (.nx ρ) S1
  | .ret e, ρ, S => (den Φ G e ρ S).bind fun d S1 => .ok (.rt d) S1
  | .retN, _, S => .ok (.rt .non) S
  | .pas, ρ, S => .ok (.nx ρ) S
  | .ife c a b, ρ, S => (den Φ G c ρ S).bind fun x S1 => tst x (exec a ρ S1) (exec b ρ S1)
  | .for_ tg it b, ρ, S => (denI Φ G it ρ S).bind fun src S1 => forGo src.gs (fun d ρ' S' => (denG Φ G tg d ρ' S').bind fun ρ1 S2 => exec b ρ1 S2) src.its ρ S1
  | .whl c b, ρ, S => whlGo (den Φ G c) (exec b) W ρ S
  | .brk, ρ, S => .ok (.bk ρ) S
  | .cnt, ρ, S => .ok (.ct ρ) S
end
/-- a def: how many parameters, how many names, the body -/
structure Fn where
  np : Nat
  nn : Nat
  body : C
deriving DecidableEq
def runF (Φ : Nat → List D → Hs → R D) (G : Nat → D) (W : Nat) (f : Fn) (ds : List D) (S : Hs) : R D :=
  if ds.length = f.np then (exec Φ G W f.body (ds.map some ++ List.replicate (f.nn - ds.length) none) S).bind fun r S1 => match r with
    | .nx _ => .ok .non S1
    | .rt d => .ok d S1
    | _ => .no
  else .no
/-- the defs of a text, n calls deep -/
def run (fs : List Fn) (G : Nat → D) (W : Nat) : Nat → Nat → List D → Hs → R D
  | 0, _, _, _ => .no
  | n + 1, i, ds, S => match fs[i]? with
    | some f => runF (run fs G W n) G W f ds S
    | none => .no
end RS

namespace RS
open PySem PySem.Spec L2

/-! ### how values stand for what the layer tracks -/
def KTup (K : PySem.W.Frag) (a : Addr) (xs : List V) : Prop :=
  ∃ (o : Obj) (its : Array Value) (n : Nat), K.lookup a = some o ∧ o.cls = .type "tuple" ∧ o.data = .seq its n ∧ its.size ≤ sizeLine ∧ Vals xs its.toList
def TupAt (K : PySem.W.Frag) (H : Hp) (a : Addr) (xs : List V) : Prop := H a = some (.tup xs) ∨ KTup K a xs
theorem TupAt.sq {K : PySem.W.Frag} {H : Hp} {a : Addr} {xs : List V} (h : TupAt K H a xs) : SqT K H a xs := h.elim (fun e => .inl (.inl e)) .inr
mutual
def Rep (K : PySem.W.Frag) (m : List Addr) (H : Hp) : D → V → Prop
  | .non, v => v = .non
  | .bl b, v => v = .bl b
  | .int i, v => v = .int i
  | .str x, v => v = .str x
  | .tup ds, v => ∃ a xs, v = .ref a ∧ TupAt K H a xs ∧ Reps K m H ds xs
  | .ref n, v => ∃ a, m[n]? = some a ∧ v = .ref a
def Reps (K : PySem.W.Frag) (m : List Addr) (H : Hp) : List D → List V → Prop
  | [], xs => xs = []
  | d :: ds, xs => ∃ x r, xs = x :: r ∧ Rep K m H d x ∧ Reps K m H ds r
end
/-- the heap grows: what is numbered keeps its number, what is not numbered stays -/
structure Ext (m m' : List Addr) (H H' : Hp) : Prop where
  pre : ∃ ms, m' = m ++ ms ∧ ∀ a ∈ ms, H a = none
  fr : ∀ a o, a ∉ m → H a = some o → H' a = some o
  tup : ∀ a xs, H a = some (.tup xs) → H' a = some (.tup xs)
  al : ∀ a, H' a = none → H a = none
theorem Ext.refl (m : List Addr) (H : Hp) : Ext m m H H := ⟨⟨[], by simp, fun _ h => by cases h⟩, fun _ _ _ e => e, fun _ _ e => e, fun _ e => e⟩
theorem Ext.ix {m m' : List Addr} {H H' : Hp} (e : Ext m m' H H') {n : Nat} {a : Addr} (h : m[n]? = some a) : m'[n]? = some a := by
  obtain ⟨ms, rfl, _⟩ := e.pre
  rw [List.getElem?_append_left (List.getElem?_eq_some_iff.mp h).1]
  exact h
theorem Ext.trans {m m1 m2 : List Addr} {H H1 H2 : Hp} (a : Ext m m1 H H1) (b : Ext m1 m2 H1 H2) : Ext m m2 H H2 := by
  obtain ⟨ms, rfl, h1⟩ := a.pre
  obtain ⟨ns, rfl, h2⟩ := b.pre
  refine ⟨⟨ms ++ ns, by simp, fun c hc => ?_⟩, fun c o hc e => ?_, fun c xs e => b.tup c xs (a.tup c xs e), fun c e => a.al c (b.al c e)⟩
  · rcases List.mem_append.mp hc with hc | hc
    · exact h1 c hc
    · exact a.al c (h2 c hc)
  · refine b.fr c o (fun hm => ?_) (a.fr c o hc e)
    rcases List.mem_append.mp hm with hm | hm
    · exact hc hm
    · rw [h1 c hm] at e; cases e
theorem TupAt.ext {K : PySem.W.Frag} {m m' : List Addr} {H H' : Hp} {a : Addr} {xs : List V} (e : Ext m m' H H') (h : TupAt K H a xs) : TupAt K H' a xs := h.elim (fun q => .inl (e.tup _ _ q)) .inr
/-- what a value leans on: the numbers, the tuples -/
structure Ext0 (m m' : List Addr) (H H' : Hp) : Prop where
  ix : ∀ {n : Nat} {a : Addr}, m[n]? = some a → m'[n]? = some a
  tup : ∀ a xs, H a = some (.tup xs) → H' a = some (.tup xs)
theorem Ext.e0 {m m' : List Addr} {H H' : Hp} (e : Ext m m' H H') : Ext0 m m' H H' := ⟨e.ix, e.tup⟩
mutual
theorem Rep.ext0 {K : PySem.W.Frag} {m m' : List Addr} {H H' : Hp} (e : Ext0 m m' H H') : ∀ (d : D) {v : V}, Rep K m H d v → Rep K m' H' d v
  | .non, v, h => by simp only [Rep] at h ⊢; exact h
  | .bl b, v, h => by simp only [Rep] at h ⊢; exact h
  | .int i, v, h => by simp only [Rep] at h ⊢; exact h
  | .str x, v, h => by simp only [Rep] at h ⊢; exact h
  | .tup ds, v, h => by
    simp only [Rep] at h ⊢
    obtain ⟨a, xs, rfl, t, r⟩ := h
    exact ⟨a, xs, rfl, t.elim (fun q => .inl (e.tup _ _ q)) .inr, Reps.ext0 e ds r⟩
  | .ref n, v, h => by
    simp only [Rep] at h ⊢
    obtain ⟨a, q, rfl⟩ := h
    exact ⟨a, e.ix q, rfl⟩
theorem Reps.ext0 {K : PySem.W.Frag} {m m' : List Addr} {H H' : Hp} (e : Ext0 m m' H H') : ∀ (ds : List D) {vs : List V}, Reps K m H ds vs → Reps K m' H' ds vs
  | [], vs, h => by simp only [Reps] at h ⊢; exact h
  | d :: ds, vs, h => by
    simp only [Reps] at h ⊢
    obtain ⟨x, r, rfl, h1, h2⟩ := h
    exact ⟨x, r, rfl, Rep.ext0 e d h1, Reps.ext0 e ds h2⟩
end
theorem Rep.ext {K : PySem.W.Frag} {m m' : List Addr} {H H' : Hp} (e : Ext m m' H H') (d : D) {v : V} (h : Rep K m H d v) : Rep K m' H' d v := Rep.ext0 e.e0 d h
theorem Reps.ext {K : PySem.W.Frag} {m m' : List Addr} {H H' : Hp} (e : Ext m m' H H') (ds : List D) {vs : List V} (h : Reps K m H ds vs) : Reps K m' H' ds vs := Reps.ext0 e.e0 ds h
section
variable {K : PySem.W.Frag} {m m' : List Addr} {H H' : Hp}
theorem Rep.non_ {v : V} : Rep K m H .non v ↔ v = .non := by simp only [Rep]
theorem Rep.bl_ {b : Bool} {v : V} : Rep K m H (.bl b) v ↔ v = .bl b := by simp only [Rep]
theorem Rep.int_ {i : Int} {v : V} : Rep K m H (.int i) v ↔ v = .int i := by simp only [Rep]
theorem Rep.str_ {x : Str} {v : V} : Rep K m H (.str x) v ↔ v = .str x := by simp only [Rep]
theorem Rep.tup_ {ds : List D} {v : V} : Rep K m H (.tup ds) v ↔ ∃ a xs, v = .ref a ∧ TupAt K H a xs ∧ Reps K m H ds xs := by simp only [Rep]
theorem Rep.ref_ {n : Nat} {v : V} : Rep K m H (.ref n) v ↔ ∃ a, m[n]? = some a ∧ v = .ref a := by simp only [Rep]
theorem Reps.nil_ {xs : List V} : Reps K m H [] xs ↔ xs = [] := by simp only [Reps]
theorem Reps.cons_ {d : D} {ds : List D} {xs : List V} : Reps K m H (d :: ds) xs ↔ ∃ x r, xs = x :: r ∧ Rep K m H d x ∧ Reps K m H ds r := by simp only [Reps]
theorem Reps.len : ∀ {ds : List D} {xs : List V}, Reps K m H ds xs → ds.length = xs.length
  | [], _, h => by rw [Reps.nil_] at h; rw [h]; rfl
  | d :: ds, _, h => by
    rw [Reps.cons_] at h
    obtain ⟨x, r, rfl, _, h2⟩ := h
    simp [Reps.len h2]
theorem Reps.get : ∀ {ds : List D} {xs : List V} {i : Nat} {d : D}, Reps K m H ds xs → ds[i]? = some d → ∃ x, xs[i]? = some x ∧ Rep K m H d x
  | [], _, i, _, _, e => by simp at e
  | d :: ds, _, i, d', h, e => by
    rw [Reps.cons_] at h
    obtain ⟨x, r, rfl, h1, h2⟩ := h
    cases i with
    | zero => simp at e; subst e; exact ⟨x, by simp, h1⟩
    | succ i =>
      obtain ⟨y, q1, q2⟩ := Reps.get (i := i) h2 (by simpa using e)
      exact ⟨y, by simpa using q1, q2⟩
theorem Reps.append : ∀ {ds es : List D} {xs ys : List V}, Reps K m H ds xs → Reps K m H es ys → Reps K m H (ds ++ es) (xs ++ ys)
  | [], _, _, _, h, h' => by rw [Reps.nil_] at h; subst h; simpa using h'
  | d :: ds, es, _, ys, h, h' => by
    rw [Reps.cons_] at h
    obtain ⟨x, r, rfl, h1, h2⟩ := h
    show Reps K m H (d :: (ds ++ es)) (x :: (r ++ ys))
    rw [Reps.cons_]
    exact ⟨x, _, rfl, h1, Reps.append h2 h'⟩
theorem Reps.one {d : D} {x : V} (h : Rep K m H d x) : Reps K m H [d] [x] := by
  rw [Reps.cons_]
  exact ⟨x, [], rfl, h, by rw [Reps.nil_]⟩
theorem Reps.drop : ∀ (n : Nat) {ds : List D} {xs : List V}, Reps K m H ds xs → Reps K m H (ds.drop n) (xs.drop n)
  | 0, _, _, h => by simpa using h
  | n + 1, [], _, h => by rw [Reps.nil_] at h; subst h; simp [Reps.nil_]
  | n + 1, d :: ds, _, h => by
    rw [Reps.cons_] at h
    obtain ⟨x, r, rfl, h1, h2⟩ := h
    simpa using Reps.drop n h2
theorem Reps.take : ∀ (n : Nat) {ds : List D} {xs : List V}, Reps K m H ds xs → Reps K m H (ds.take n) (xs.take n)
  | 0, _, _, h => by simp [Reps.nil_]
  | n + 1, [], _, h => by rw [Reps.nil_] at h; subst h; simp [Reps.nil_]
  | n + 1, d :: ds, _, h => by
    rw [Reps.cons_] at h
    obtain ⟨x, r, rfl, h1, h2⟩ := h
    simp only [List.take_succ_cons]
    rw [Reps.cons_]
    exact ⟨x, _, rfl, h1, Reps.take n h2⟩
theorem Reps.set {d : D} {x : V} (hd : Rep K m H d x) : ∀ (i : Nat) {ds : List D} {xs : List V}, Reps K m H ds xs → Reps K m H (ds.set i d) (xs.set i x)
  | _, [], _, h => by rw [Reps.nil_] at h; subst h; simp [Reps.nil_]
  | 0, e :: ds, _, h => by
    rw [Reps.cons_] at h
    obtain ⟨y, r, rfl, h1, h2⟩ := h
    simp only [List.set_cons_zero]
    rw [Reps.cons_]
    exact ⟨x, _, rfl, hd, h2⟩
  | i + 1, e :: ds, _, h => by
    rw [Reps.cons_] at h
    obtain ⟨y, r, rfl, h1, h2⟩ := h
    simp only [List.set_cons_succ]
    rw [Reps.cons_]
    exact ⟨y, _, rfl, h1, Reps.set hd i h2⟩
theorem Reps.erase : ∀ (i : Nat) {ds : List D} {xs : List V}, Reps K m H ds xs → Reps K m H (ds.eraseIdx i) (xs.eraseIdx i)
  | _, [], _, h => by rw [Reps.nil_] at h; subst h; simp [Reps.nil_]
  | 0, e :: ds, _, h => by
    rw [Reps.cons_] at h
    obtain ⟨y, r, rfl, h1, h2⟩ := h
    simpa using h2
  | i + 1, e :: ds, _, h => by
    rw [Reps.cons_] at h
    obtain ⟨y, r, rfl, h1, h2⟩ := h
    simp only [List.eraseIdx_cons_succ]
    rw [Reps.cons_]
    exact ⟨y, _, rfl, h1, Reps.erase i h2⟩
theorem Reps.reverse : ∀ {ds : List D} {xs : List V}, Reps K m H ds xs → Reps K m H ds.reverse xs.reverse
  | [], _, h => by rw [Reps.nil_] at h; subst h; simp [Reps.nil_]
  | d :: ds, _, h => by
    rw [Reps.cons_] at h
    obtain ⟨x, r, rfl, h1, h2⟩ := h
    simp only [List.reverse_cons]
    exact Reps.append (Reps.reverse h2) (Reps.one h1)
theorem Reps.dropLast {ds : List D} {xs : List V} (h : Reps K m H ds xs) : Reps K m H ds.dropLast xs.dropLast := by
  rw [List.dropLast_eq_take, List.dropLast_eq_take, h.len]
  exact Reps.take _ h
theorem Reps.rep : ∀ (n : Nat) {ds : List D} {xs : List V}, Reps K m H ds xs → Reps K m H (rep n ds) (RS.rep n xs)
  | 0, _, _, h => by simp [RS.rep, Reps.nil_]
  | n + 1, ds, xs, h => by
    have ih := Reps.rep n h
    simp only [RS.rep, List.replicate_succ, List.flatten_cons] at ih ⊢
    exact Reps.append h ih
end

/-! ### how things stand -/
def RepO (K : PySem.W.Frag) (m : List Addr) (H : Hp) : O → Addr → Prop
  | .lst ds, a => ∃ xs, H a = some (.lst xs) ∧ Reps K m H ds xs
  | .scr ds, a => ∃ o xs, H a = some (.frz o (.lst xs)) ∧ Reps K m H ds xs
  | .dct _, _ => False
  | .dlk _, _ => False
  | .ins _ _, _ => False
structure RepS (K : PySem.W.Frag) (m : List Addr) (H : Hp) (S : Hs) : Prop where
  len : m.length = S.length
  inj : m.Nodup
  obj : ∀ (n : Nat) (o : O) (a : Addr), S[n]? = some o → m[n]? = some a → RepO K m H o a
section
variable {K : PySem.W.Frag} {m m' : List Addr} {H H' : Hp} {S : Hs}
theorem RepO.ext0 {o : O} {a : Addr} (e : Ext0 m m' H H') (ha : H' a = H a) (h : RepO K m H o a) : RepO K m' H' o a := by
  cases o with
  | lst ds =>
    obtain ⟨xs, h1, h2⟩ := h
    exact ⟨xs, ha.trans h1, Reps.ext0 e ds h2⟩
  | scr ds =>
    obtain ⟨o, xs, h1, h2⟩ := h
    exact ⟨o, xs, ha.trans h1, Reps.ext0 e ds h2⟩
  | dct _ => exact h.elim
  | dlk _ => exact h.elim
  | ins _ _ => exact h.elim
theorem RepO.ext {o : O} {a : Addr} (e : Ext m m' H H') (ha : H' a = H a) (h : RepO K m H o a) : RepO K m' H' o a := RepO.ext0 e.e0 ha h
theorem RepO.some {o : O} {a : Addr} (h : RepO K m H o a) : ∃ u, H a = some u ∧ ∀ xs, u ≠ .tup xs := by
  cases o with
  | lst ds => obtain ⟨xs, h1, _⟩ := h; exact ⟨_, h1, fun _ z => nomatch z⟩
  | scr ds => obtain ⟨o, xs, h1, _⟩ := h; exact ⟨_, h1, fun _ z => nomatch z⟩
  | dct _ => exact h.elim
  | dlk _ => exact h.elim
  | ins _ _ => exact h.elim
theorem RepS.mem (rs : RepS K m H S) {a : Addr} (h : a ∈ m) : ∃ u, H a = some u ∧ ∀ xs, u ≠ .tup xs := by
  obtain ⟨n, hn, e⟩ := List.mem_iff_getElem.mp h
  have h1 : m[n]? = some a := by rw [List.getElem?_eq_getElem hn, e]
  have h2 : n < S.length := by rw [← rs.len]; exact hn
  exact (rs.obj n _ a (List.getElem?_eq_getElem h2) h1).some
theorem RepS.free (rs : RepS K m H S) {p : Addr} (h : H p = none) : p ∉ m := fun hm => by
  obtain ⟨u, e, _⟩ := rs.mem hm
  rw [h] at e; cases e
/-- a new thing that is not numbered -/
theorem Ext.tupNew (rs : RepS K m H S) {p : Addr} {o : HO} (h : H p = none) : Ext m m H (upd H p o) := by
  refine ⟨⟨[], by simp, fun _ h => by cases h⟩, fun a u _ e => ?_, fun a xs e => ?_, fun a e => ?_⟩
  · rw [upd_ne (ne_of_none e h)]; exact e
  · rw [upd_ne (ne_of_none e h)]; exact e
  · by_cases q : a = p
    · rw [q, h]
    · rw [upd_ne q] at e; exact e
theorem RepS.tupNew (rs : RepS K m H S) {p : Addr} {o : HO} (h : H p = none) : RepS K m (upd H p o) S := by
  refine ⟨rs.len, rs.inj, fun n u a e1 e2 => ?_⟩
  refine (rs.obj n u a e1 e2).ext (Ext.tupNew rs h) (upd_ne fun q => ?_)
  exact rs.free h (q ▸ List.mem_of_getElem? e2)
/-- a new thing, numbered -/
theorem Ext.new (rs : RepS K m H S) {p : Addr} {o : HO} (h : H p = none) : Ext m (m ++ [p]) H (upd H p o) := by
  have e := Ext.tupNew (o := o) rs h
  exact ⟨⟨[p], rfl, fun a ha => by simp at ha; rw [ha]; exact h⟩, e.fr, e.tup, e.al⟩
theorem RepS.new (rs : RepS K m H S) {p : Addr} {u : O} {o : HO} (h : H p = none) (hr : RepO K (m ++ [p]) (upd H p o) u p) : RepS K (m ++ [p]) (upd H p o) (S ++ [u]) := by
  refine ⟨by simp [rs.len], ?_, fun n v a e1 e2 => ?_⟩
  · rw [List.nodup_append]
    exact ⟨rs.inj, by simp, fun a ha b hb => by simp at hb; rw [hb]; exact fun q => rs.free h (q ▸ ha)⟩
  · by_cases hn : n < S.length
    · rw [List.getElem?_append_left hn] at e1
      rw [List.getElem?_append_left (by rw [rs.len]; exact hn)] at e2
      exact (rs.obj n v a e1 e2).ext (Ext.new rs h) (upd_ne fun q => rs.free h (q ▸ List.mem_of_getElem? e2))
    · have hn2 : n = S.length := by
        have := (List.getElem?_eq_some_iff.mp e1).1
        simp at this
        omega
      subst hn2
      rw [List.getElem?_append_right (Nat.le_refl _)] at e1
      rw [List.getElem?_append_right (by rw [rs.len]; exact Nat.le_refl _)] at e2
      simp [rs.len] at e1 e2
      rw [← e1, ← e2]
      exact hr
theorem RepS.newList (rs : RepS K m H S) {p : Addr} {ds : List D} {xs : List V} (h : H p = none) (hr : Reps K m H ds xs) : RepS K (m ++ [p]) (upd H p (.lst xs)) (S ++ [.lst ds]) :=
  rs.new h ⟨xs, upd_same, Reps.ext (Ext.new rs h) ds hr⟩
/-- a numbered thing changes -/
theorem Ext.set (rs : RepS K m H S) {n : Nat} {a : Addr} {o : HO} (h : m[n]? = some a) : Ext m m H (upd H a o) := by
  have hm := List.mem_of_getElem? h
  obtain ⟨u, e, nt⟩ := rs.mem hm
  refine ⟨⟨[], by simp, fun _ h => by cases h⟩, fun b v hb e' => ?_, fun b xs e' => ?_, fun b e' => ?_⟩
  · rw [upd_ne fun q => hb (by rw [q]; exact hm)]; exact e'
  · rw [upd_ne fun q => by rw [q, e] at e'; exact nt xs (Option.some.inj e')]; exact e'
  · by_cases q : b = a
    · rw [q, upd_same] at e'; cases e'
    · rw [upd_ne q] at e'; exact e'
theorem RepS.set (rs : RepS K m H S) {n : Nat} {a : Addr} {u : O} {o : HO} (h : m[n]? = some a) (hr : RepO K m (upd H a o) u a) : RepS K m (upd H a o) (S.set n u) := by
  refine ⟨by simp [rs.len], rs.inj, fun k v b e1 e2 => ?_⟩
  by_cases hk : k = n
  · subst hk
    have hl : k < S.length := by rw [← rs.len]; exact (List.getElem?_eq_some_iff.mp h).1
    rw [List.getElem?_set_self hl] at e1
    rw [h] at e2
    rw [← Option.some.inj e1, ← Option.some.inj e2]
    exact hr
  · rw [List.getElem?_set_ne (Ne.symm hk)] at e1
    refine (rs.obj k v b e1 e2).ext (Ext.set rs h) (upd_ne fun q => hk ?_)
    subst q
    obtain ⟨l1, q1⟩ := List.getElem?_eq_some_iff.mp e2
    obtain ⟨l2, q2⟩ := List.getElem?_eq_some_iff.mp h
    exact (List.getElem_inj rs.inj).mp (q1.trans q2.symm)
theorem RepS.setList (rs : RepS K m H S) {n : Nat} {a : Addr} {ds : List D} {xs : List V} (h : m[n]? = some a) (hr : Reps K m H ds xs) : RepS K m (upd H a (.lst xs)) (S.set n (.lst ds)) :=
  rs.set h ⟨xs, upd_same, Reps.ext (Ext.set rs h) ds hr⟩
end

/-! ### slots -/
def EnvR (K : PySem.W.Frag) (m : List Addr) (H : Hp) (ρ : Rho) (σ : St) : Prop :=
  ρ.length = σ.length ∧ ∀ (i : Nat) (d : D), ρ[i]? = some (some d) → ∃ v, σ[i]? = some (some v) ∧ Rep K m H d v
section
variable {K : PySem.W.Frag} {m m' : List Addr} {H H' : Hp} {ρ : Rho} {σ : St}
theorem EnvR.ext (e : Ext m m' H H') (h : EnvR K m H ρ σ) : EnvR K m' H' ρ σ := ⟨h.1, fun i d q => by
  obtain ⟨v, h1, h2⟩ := h.2 i d q
  exact ⟨v, h1, Rep.ext e d h2⟩⟩
theorem EnvR.ext0 (e : Ext0 m m' H H') (h : EnvR K m H ρ σ) : EnvR K m' H' ρ σ := ⟨h.1, fun i d q => by
  obtain ⟨v, h1, h2⟩ := h.2 i d q
  exact ⟨v, h1, Rep.ext0 e d h2⟩⟩
theorem EnvR.set {i : Nat} {d : D} {v : V} (h : EnvR K m H ρ σ) (r : Rep K m H d v) : EnvR K m H (ρ.set i (some d)) (σ.set i (some v)) := by
  refine ⟨by simp [h.1], fun j e q => ?_⟩
  by_cases hj : j = i
  · subst hj
    have hl : j < ρ.length := by
      have := (List.getElem?_eq_some_iff.mp q).1
      simpa using this
    rw [List.getElem?_set_self hl] at q
    rw [← Option.some.inj (Option.some.inj q)]
    exact ⟨v, by rw [List.getElem?_set_self (by rw [← h.1]; exact hl)], r⟩
  · rw [List.getElem?_set_ne (Ne.symm hj)] at q
    rw [List.getElem?_set_ne (Ne.symm hj)]
    exact h.2 j e q
theorem EnvR.wipe (h : EnvR K m H ρ σ) : ∀ vs : List Nat, EnvR K m H (wipeR ρ vs) (L2.wipe σ vs)
  | [] => h
  | v :: vs => by
    have ih := EnvR.wipe h vs
    refine ⟨by simp [wipeR, L2.wipe, ih.1], fun j e q => ?_⟩
    simp only [wipeR] at q
    simp only [L2.wipe]
    by_cases hj : v = j
    · subst hj
      by_cases hl : v < (wipeR ρ vs).length
      · rw [List.getElem?_set_self hl] at q; cases q
      · rw [List.getElem?_eq_none (by simpa using hl)] at q; cases q
    · rw [List.getElem?_set_ne hj] at q
      rw [List.getElem?_set_ne hj]
      exact ih.2 j e q
end

/-! ### what is wanted behind a run -/
def Post {α β : Type} (K : PySem.W.Frag) (m : List Addr) (H : Hp) (rel : List Addr → Hp → α → β → Prop) (r : R α) (Q : β → Hp → Prop) : Prop := match r with
  | .ok a S => ∀ b m' H', Ext m m' H H' → RepS K m' H' S → rel m' H' a b → Q b H'
  | _ => False
/-- a reading by the meaning -/
def tG {α β : Type} (K : PySem.W.Frag) (rel : List Addr → Hp → α → β → Prop) (f : Rho → Hs → R α) (σ : St) (H : Hp) (Q : β → Hp → Prop) : Prop :=
  ∃ ρ S m, EnvR K m H ρ σ ∧ RepS K m H S ∧ Post K m H rel (f ρ S) Q
abbrev tD (K : PySem.W.Frag) (f : Rho → Hs → R D) : TE := tG K (Rep K) f
abbrev tDL (K : PySem.W.Frag) (f : Rho → Hs → R (List D)) : TA := tG K (Reps K) f
/-- a test: the value is a truth -/
def PostT (K : PySem.W.Frag) (m : List Addr) (H : Hp) (r : R D) (Q : Bool → Hp → Prop) : Prop := match r with
  | .ok d S => ∃ b, d = .bl b ∧ ∀ m' H', Ext m m' H H' → RepS K m' H' S → Q b H'
  | _ => False
def tDT (K : PySem.W.Frag) (f : Rho → Hs → R D) : TT := fun σ H Q => ∃ ρ S m, EnvR K m H ρ σ ∧ RepS K m H S ∧ PostT K m H (f ρ S) Q
section
variable {K : PySem.W.Frag} {m m' : List Addr} {H H' : Hp} {ρ : Rho} {σ : St} {S : Hs} {α β γ δ : Type}
theorem Post.ext {rel : List Addr → Hp → α → β → Prop} {r : R α} {Q : β → Hp → Prop} (e : Ext m m' H H') (h : Post K m H rel r Q) : Post K m' H' rel r Q := by
  cases r with
  | ok a S => exact fun b m2 H2 e2 rs rl => h b m2 H2 (e.trans e2) rs rl
  | ex => exact h
  | no => exact h
theorem Post.bind {rel : List Addr → Hp → α → β → Prop} {relF : List Addr → Hp → γ → δ → Prop} {r : R γ} {g : γ → Hs → R α} {Q : β → Hp → Prop} (h : Post K m H rel (r.bind g) Q) {Q' : δ → Hp → Prop}
    (k : ∀ m1 H1 S1 a b, Ext m m1 H H1 → RepS K m1 H1 S1 → relF m1 H1 a b → Post K m1 H1 rel (g a S1) Q → Q' b H1) : Post K m H relF r Q' := by
  cases r with
  | ok a S => exact fun b m1 H1 e1 rs1 rl => k m1 H1 S a b e1 rs1 rl (Post.ext e1 h)
  | ex => exact h
  | no => exact h
/-- .. what is wanted is said of an earlier place -/
theorem Post.bindB {m0 : List Addr} {H0 : Hp} {rel : List Addr → Hp → α → β → Prop} {relF : List Addr → Hp → γ → δ → Prop} {r : R γ} {g : γ → Hs → R α} {Q : β → Hp → Prop} (h : Post K m0 H0 rel (r.bind g) Q) {Q' : δ → Hp → Prop}
    (k : ∀ m1 H1 S1 a b, Ext m m1 H H1 → RepS K m1 H1 S1 → relF m1 H1 a b → Post K m0 H0 rel (g a S1) Q → Q' b H1) : Post K m H relF r Q' := by
  cases r with
  | ok a S => exact fun b m1 H1 e1 rs1 rl => k m1 H1 S a b e1 rs1 rl h
  | ex => exact h
  | no => exact h
/-- THE STEP: a part is run, the rest is told -/
theorem tG_step {rel : List Addr → Hp → α → β → Prop} {relF : List Addr → Hp → γ → δ → Prop} {f : Rho → Hs → R γ} {g : γ → Hs → R α} {Q : β → Hp → Prop} {Q' : δ → Hp → Prop} (env : EnvR K m H ρ σ) (rs : RepS K m H S)
    (h : Post K m H rel ((f ρ S).bind g) Q)
    (k : ∀ m1 H1 S1 a b, Ext m m1 H H1 → EnvR K m1 H1 ρ σ → RepS K m1 H1 S1 → relF m1 H1 a b → Post K m1 H1 rel (g a S1) Q → Q' b H1) : tG K relF f σ H Q' :=
  ⟨ρ, S, m, env, rs, h.bind fun m1 H1 S1 a b e rs1 rl p => k m1 H1 S1 a b e (env.ext e) rs1 rl p⟩
end
/-- a test is run, the rest is told by its answer -/
theorem tT_step {K : PySem.W.Frag} {m : List Addr} {H : Hp} {ρ : Rho} {σ : St} {S : Hs} {α β : Type} {rel : List Addr → Hp → α → β → Prop} {f : Rho → Hs → R D} {A B : Hs → R α} {Q : β → Hp → Prop} {Q' : Bool → Hp → Prop} (env : EnvR K m H ρ σ) (rs : RepS K m H S)
    (h : Post K m H rel ((f ρ S).bind fun x S1 => tst x (A S1) (B S1)) Q)
    (k : ∀ m1 H1 S1 b, Ext m m1 H H1 → EnvR K m1 H1 ρ σ → RepS K m1 H1 S1 → Post K m1 H1 rel (if b = true then A S1 else B S1) Q → Q' b H1) : tDT K f σ H Q' := by
  refine ⟨ρ, S, m, env, rs, ?_⟩
  cases e : f ρ S with
  | ok d S1 =>
    rw [e] at h
    simp only [R.bind_ok] at h
    cases d with
    | bl b =>
      rw [tst_bl] at h
      exact ⟨b, rfl, fun m1 H1 e1 rs1 => k m1 H1 S1 b e1 (env.ext e1) rs1 (Post.ext e1 h)⟩
    | _ => exact h.elim
  | ex => rw [e] at h; exact h
  | no => rw [e] at h; exact h
theorem tT_stepB {K : PySem.W.Frag} {m m0 : List Addr} {H H0 : Hp} {ρ : Rho} {σ : St} {S : Hs} {α β : Type} {rel : List Addr → Hp → α → β → Prop} {f : Rho → Hs → R D} {A B : Hs → R α} {Q : β → Hp → Prop} {Q' : Bool → Hp → Prop} (env : EnvR K m H ρ σ) (rs : RepS K m H S)
    (h : Post K m0 H0 rel ((f ρ S).bind fun x S1 => tst x (A S1) (B S1)) Q)
    (k : ∀ m1 H1 S1 b, Ext m m1 H H1 → EnvR K m1 H1 ρ σ → RepS K m1 H1 S1 → Post K m0 H0 rel (if b = true then A S1 else B S1) Q → Q' b H1) : tDT K f σ H Q' := by
  refine ⟨ρ, S, m, env, rs, ?_⟩
  cases e : f ρ S with
  | ok d S1 =>
    rw [e] at h
    simp only [R.bind_ok] at h
    cases d with
    | bl b =>
      rw [tst_bl] at h
      exact ⟨b, rfl, fun m1 H1 e1 rs1 => k m1 H1 S1 b e1 (env.ext e1) rs1 h⟩
    | _ => exact h.elim
  | ex => rw [e] at h; exact h
  | no => rw [e] at h; exact h
/-- a test for itself -/
theorem PostT.bind {K : PySem.W.Frag} {m : List Addr} {H : Hp} {γ δ : Type} {relF : List Addr → Hp → γ → δ → Prop} {r : R γ} {g : γ → Hs → R D} {Q : Bool → Hp → Prop} (h : PostT K m H (r.bind g) Q) {Q' : δ → Hp → Prop}
    (k : ∀ m1 H1 S1 a b, Ext m m1 H H1 → RepS K m1 H1 S1 → relF m1 H1 a b → PostT K m1 H1 (g a S1) Q → Q' b H1) : Post K m H relF r Q' := by
  cases r with
  | ok a S =>
    intro b m1 H1 e1 rs1 rl
    refine k m1 H1 S a b e1 rs1 rl ?_
    simp only [R.bind_ok] at h
    revert h
    cases g a S with
    | ok d S2 => exact fun ⟨b, e, q⟩ => ⟨b, e, fun m2 H2 e2 rs2 => q m2 H2 (e1.trans e2) rs2⟩
    | ex => exact fun h => h
    | no => exact fun h => h
  | ex => exact h
  | no => exact h
theorem tT_stepT {K : PySem.W.Frag} {m : List Addr} {H : Hp} {ρ : Rho} {σ : St} {S : Hs} {f : Rho → Hs → R D} {A B : Hs → R D} {Q : Bool → Hp → Prop} {Q' : Bool → Hp → Prop} (env : EnvR K m H ρ σ) (rs : RepS K m H S)
    (h : PostT K m H ((f ρ S).bind fun x S1 => tst x (A S1) (B S1)) Q)
    (k : ∀ m1 H1 S1 b, Ext m m1 H H1 → EnvR K m1 H1 ρ σ → RepS K m1 H1 S1 → PostT K m1 H1 (if b = true then A S1 else B S1) Q → Q' b H1) : tDT K f σ H Q' := by
  refine ⟨ρ, S, m, env, rs, ?_⟩
  cases e : f ρ S with
  | ok d S1 =>
    rw [e] at h
    simp only [R.bind_ok] at h
    cases d with
    | bl b =>
      rw [tst_bl] at h
      refine ⟨b, rfl, fun m1 H1 e1 rs1 => k m1 H1 S1 b e1 (env.ext e1) rs1 ?_⟩
      revert h
      generalize (if b = true then A S1 else B S1) = r
      cases r with
      | ok d S2 => exact fun ⟨b, e, q⟩ => ⟨b, e, fun m2 H2 e2 rs2 => q m2 H2 (e1.trans e2) rs2⟩
      | ex => exact fun h => h
      | no => exact fun h => h
    | _ => exact h.elim
  | ex => rw [e] at h; exact h
  | no => rw [e] at h; exact h
theorem PE.mono {X : Cx} {e : Expr} {t u : TE} (h : PE X e t) (hh : ∀ σ H Q, u σ H Q → t σ H Q) : PE X e u := ⟨fun pins s σ H Q I q => h.run pins s σ H Q I (hh σ H Q q)⟩
theorem PT.mono {X : Cx} {e : Expr} {t u : TT} (h : PT X e t) (hh : ∀ σ H Q, u σ H Q → t σ H Q) : PT X e u := ⟨fun pins s σ H Q I q => h.run pins s σ H Q I (hh σ H Q q)⟩
theorem PW.mono {X : Cx} {e : Expr} {t u : TT} (h : PW X e t) (hh : ∀ σ H Q, u σ H Q → t σ H Q) : PW X e u := ⟨fun wh pins s σ H Q I q => h.run wh pins s σ H Q I (hh σ H Q q)⟩
theorem PA.mono {X : Cx} {e : List Expr} {t u : TA} (h : PA X e t) (hh : ∀ σ H Q, u σ H Q → t σ H Q) : PA X e u := ⟨fun pos pins s σ H Q I q => h.run pos pins s σ H Q I (hh σ H Q q)⟩
theorem PS.mono {X : Cx} {e : Stmt} {t u : TS} (h : PS X e t) (hh : ∀ D σ H, u D σ H → t D σ H) : PS X e u := ⟨fun pins s σ H D I q => h.run pins s σ H D I (hh D σ H q)⟩
theorem PSs.mono {X : Cx} {e : List Stmt} {t u : TS} (h : PSs X e t) (hh : ∀ D σ H, u D σ H → t D σ H) : PSs X e u := ⟨fun pins s σ H D I q => h.run pins s σ H D I (hh D σ H q)⟩
theorem PG.mono {X : Cx} {e : Expr} {t u : TG} (h : PG X e t) (hh : ∀ v σ H Q, u v σ H Q → t v σ H Q) : PG X e u := ⟨fun pins s σ H v uu Q I r q => h.run pins s σ H v uu Q I r (hh v σ H Q q)⟩
theorem PI.mono {X : Cx} {tg e : Expr} {t u : TI} (h : PI X tg e t) (hh : ∀ σ H Q, u σ H Q → t σ H Q) : PI X tg e u := ⟨fun pins s σ H Q I q => h.run pins s σ H Q I (hh σ H Q q)⟩
end RS

namespace RS
open PySem PySem.Spec L2
section
variable {K : PySem.W.Frag} {m m' : List Addr} {H H' : Hp} {S : Hs}
theorem Post.ok {α β : Type} {rel : List Addr → Hp → α → β → Prop} {a : α} {Q : β → Hp → Prop} (h : Post K m H rel (.ok a S) Q) {b : β} (e : Ext m m' H H') (rs : RepS K m' H' S) (r : rel m' H' a b) : Q b H' := h b m' H' e rs r
theorem Post.ok0 {α β : Type} {rel : List Addr → Hp → α → β → Prop} {a : α} {Q : β → Hp → Prop} (h : Post K m H rel (.ok a S) Q) {b : β} (rs : RepS K m H S) (r : rel m H a b) : Q b H := h b m H (Ext.refl m H) rs r
theorem Post.lim {α β : Type} {rel : List Addr → Hp → α → β → Prop} {n : Nat} {r : R α} {Q : β → Hp → Prop} (h : Post K m H rel (lim n r) Q) : n ≤ sizeLine ∧ Post K m H rel r Q := by
  unfold RS.lim at h
  by_cases e : n ≤ sizeLine
  · rw [if_pos e] at h; exact ⟨e, h⟩
  · rw [if_neg e] at h; exact h.elim
theorem Post.ite {α β : Type} {rel : List Addr → Hp → α → β → Prop} {c : Prop} [Decidable c] {r : R α} {Q : β → Hp → Prop} (h : Post K m H rel (if c then r else .no) Q) : c ∧ Post K m H rel r Q := by
  by_cases e : c
  · rw [if_pos e] at h; exact ⟨e, h⟩
  · rw [if_neg e] at h; exact h.elim
/-- a list is there -/
theorem RepS.lst (rs : RepS K m H S) {n : Nat} {ds : List D} (h : S[n]? = some (.lst ds)) : ∃ a xs, m[n]? = some a ∧ H a = some (.lst xs) ∧ Reps K m H ds xs := by
  have hn : n < m.length := by rw [rs.len]; exact (List.getElem?_eq_some_iff.mp h).1
  obtain ⟨xs, h1, h2⟩ := rs.obj n _ m[n] h (List.getElem?_eq_getElem hn)
  exact ⟨_, xs, List.getElem?_eq_getElem hn, h1, h2⟩
theorem lstAt_some {n : Nat} {ds : List D} (h : lstAt S n = some ds) : S[n]? = some (.lst ds) := by
  unfold lstAt at h
  split at h
  · cases h; assumption
  · cases h
/-- a list or a tuple, to be read -/
theorem seq_rep (rs : RepS K m H S) {d : D} {v : V} {ds : List D} (r : Rep K m H d v) (h : seqOf S d = some ds) : ∃ a xs, v = .ref a ∧ (SqL K H a xs ∨ SqT K H a xs) ∧ Reps K m H ds xs := by
  cases d with
  | tup es =>
    rw [Rep.tup_] at r
    obtain ⟨a, xs, rfl, t, r⟩ := r
    cases h
    exact ⟨a, xs, rfl, .inr t.sq, r⟩
  | ref n =>
    rw [Rep.ref_] at r
    obtain ⟨a, e, rfl⟩ := r
    simp only [seqOf] at h
    split at h
    · rename_i es hs
      cases h
      obtain ⟨xs, h1, h2⟩ := rs.obj n _ a hs e
      exact ⟨a, xs, rfl, .inl (SqL.of h1), h2⟩
    · rename_i es hs
      cases h
      obtain ⟨o, xs, h1, h2⟩ := rs.obj n _ a hs e
      exact ⟨a, xs, rfl, .inl (.inl (.inr ⟨o, h1⟩)), h2⟩
    · cases h
  | _ => simp [seqOf] at h
theorem seqL_rep (rs : RepS K m H S) {n : Nat} {v : V} {ds : List D} (r : Rep K m H (.ref n) v) (h : seqOf S (.ref n) = some ds) : ∃ a xs, v = .ref a ∧ SqL K H a xs ∧ Reps K m H ds xs := by
  rw [Rep.ref_] at r
  obtain ⟨a, e, rfl⟩ := r
  simp only [seqOf] at h
  split at h
  · rename_i es hs
    cases h
    obtain ⟨xs, h1, h2⟩ := rs.obj n _ a hs e
    exact ⟨a, xs, rfl, SqL.of h1, h2⟩
  · rename_i es hs
    cases h
    obtain ⟨o, xs, h1, h2⟩ := rs.obj n _ a hs e
    exact ⟨a, xs, rfl, .inl (.inr ⟨o, h1⟩), h2⟩
  · cases h
/-- a new tuple -/
theorem Post.tupNew {ds : List D} {xs : List V} {Q : VK} (h : Post K m H (Rep K) (.ok (.tup ds) S) Q) (rs : RepS K m H S) (r : Reps K m H ds xs) {p : Addr} (hp : H p = none) : Q (.ref p) (upd H p (.tup xs)) := by
  have e := Ext.tupNew (o := HO.tup xs) rs hp
  refine h.ok e (rs.tupNew hp) ?_
  rw [Rep.tup_]
  exact ⟨p, xs, rfl, .inl upd_same, Reps.ext e ds r⟩
theorem Post.lstNew {ds : List D} {xs : List V} {Q : VK} (h : Post K m H (Rep K) (newO (.lst ds) S) Q) (rs : RepS K m H S) (r : Reps K m H ds xs) {p : Addr} (hp : H p = none) : Q (.ref p) (upd H p (.lst xs)) := by
  refine h.ok (Ext.new rs hp) (rs.newList hp r) ?_
  rw [Rep.ref_]
  exact ⟨p, by rw [← rs.len, List.getElem?_append_right (Nat.le_refl _)]; simp, rfl⟩
theorem Post.lstSet {α β : Type} {rel : List Addr → Hp → α → β → Prop} {a : α} {b : β} {Q : β → Hp → Prop} {n : Nat} {p : Addr} {ds : List D} {xs : List V} (h : Post K m H rel (.ok a (S.set n (.lst ds))) Q) (rs : RepS K m H S) (hn : m[n]? = some p) (r : Reps K m H ds xs) (q : rel m (upd H p (.lst xs)) a b) : Q b (upd H p (.lst xs)) :=
  h.ok (Ext.set rs hn) (rs.setList hn r) q

/-! ### operators -/
def rBin (K : PySem.W.Frag) (o : Bop) : R2 := fun x y H Q => ∃ m S a b, RepS K m H S ∧ Rep K m H a x ∧ Rep K m H b y ∧ Post K m H (Rep K) (binD S o a b) Q
def Bop.py : Bop → Operator
  | .add => .Add | .sub => .Sub | .mul => .Mult | .fdv => .FloorDiv | .mod => .Mod | .pow => .Pow
theorem str_length_append (x y : Str) : (x ++ y).length = x.length + y.length := by
  show (x.cps ++ y.cps).size = _
  rw [Array.size_append]; rfl
end
section
variable {X : Cx}
theorem op_bin (o : Bop) : OpR X (binaryOp o.py) (rBin X.K o) := by
  intro pins s σ H x y v u Q I rx ry h
  obtain ⟨m, S, a, b, rs, ra, rb, post⟩ := h
  cases o with
  | add =>
    cases a <;> cases b <;> first | exact post.elim | skip
    · rw [Rep.int_] at ra rb
      exact op_add pins s σ H x y v u Q I rx ry ⟨_, _, ra, rb, post.ok0 rs (Rep.int_.mpr rfl)⟩
    · rw [Rep.str_] at ra rb
      obtain ⟨hz, post⟩ := post.lim
      exact op_add_str pins s σ H x y v u Q I rx ry ⟨_, _, ra, rb, hz, post.ok0 rs (Rep.str_.mpr rfl)⟩
    · rw [Rep.tup_] at ra rb
      obtain ⟨pa, xs, rfl, ta, qa⟩ := ra
      obtain ⟨pb, ys, rfl, tb, qb⟩ := rb
      obtain ⟨hz, post⟩ := post.lim
      rw [qa.len, qb.len] at hz
      have full := qa.append qb
      refine op_catA pins s σ H _ _ v u Q I rx ry ⟨pa, pb, xs, ys, rfl, rfl, ta.sq, tb.sq, hz, fun e => ?_, fun _ e => ?_, fun _ _ p hp => post.tupNew rs full hp⟩
      · subst e
        exact post.ok0 rs (Rep.tup_.mpr ⟨pb, ys, rfl, tb, full⟩)
      · subst e
        exact post.ok0 rs (Rep.tup_.mpr ⟨pa, xs, rfl, ta, by simpa using full⟩)
    · rename_i na nb
      rw [Rep.ref_] at ra rb
      obtain ⟨pa, ea, rfl⟩ := ra
      obtain ⟨pb, eb, rfl⟩ := rb
      simp only [binD] at post
      split at post
      · rename_i xs ys h1 h2
        obtain ⟨_, vs, q1, ha, qa⟩ := rs.lst h1
        obtain ⟨_, ws, q2, hb, qb⟩ := rs.lst h2
        rw [ea] at q1; rw [eb] at q2
        cases q1; cases q2
        obtain ⟨hz, post⟩ := post.lim
        rw [qa.len, qb.len] at hz
        exact op_cat pins s σ H _ _ v u Q I rx ry ⟨pa, pb, vs, ws, rfl, rfl, ha, hb, hz, fun p hp => post.lstNew rs (qa.append qb) hp⟩
      · exact post.elim
  | sub =>
    cases a <;> cases b <;> first | exact post.elim | skip
    rw [Rep.int_] at ra rb
    exact op_sub pins s σ H x y v u Q I rx ry ⟨_, _, ra, rb, post.ok0 rs (Rep.int_.mpr rfl)⟩
  | mul =>
    cases a <;> cases b <;> first | exact post.elim | skip
    · rw [Rep.int_] at ra rb
      obtain ⟨hc, post⟩ := post.ite
      refine op_mul pins s σ H x y v u Q I rx ry ⟨_, _, ra, rb, ?_, post.ok0 rs (Rep.int_.mpr rfl)⟩
      simpa [mulOk, CMul] using hc
    · rw [Rep.tup_] at ra
      rw [Rep.int_] at rb
      obtain ⟨pa, xs, rfl, ta, qa⟩ := ra
      obtain ⟨⟨h0, h1, h2, h3⟩, post⟩ := post.ite
      rw [qa.len] at h3
      refine op_repT pins s σ H _ _ v u Q I rx ry ⟨pa, _, xs, rfl, rb, ta.sq, fun e => h0 ?_, h1, h2, h3, fun p hp => post.tupNew rs (qa.rep _) hp⟩
      have := qa.len
      rw [e] at this
      exact List.length_eq_zero_iff.mp this
    · rw [Rep.ref_] at ra
      rw [Rep.int_] at rb
      obtain ⟨pa, ea, rfl⟩ := ra
      simp only [binD] at post
      split at post
      · rename_i xs h1
        obtain ⟨_, vs, q1, ha, qa⟩ := rs.lst h1
        rw [ea] at q1
        cases q1
        obtain ⟨⟨h1, h2, h3⟩, post⟩ := post.ite
        rw [qa.len] at h3
        exact op_rep pins s σ H _ _ v u Q I rx ry ⟨pa, _, vs, rfl, rb, ha, h1, h2, h3, fun p hp => post.lstNew rs (qa.rep _) hp⟩
      · exact post.elim
  | fdv =>
    cases a <;> cases b <;> first | exact post.elim | skip
    rw [Rep.int_] at ra rb
    obtain ⟨hc, post⟩ := post.ite
    exact op_fdivN pins s σ H x y v u Q I rx ry ⟨_, _, ra, rb, hc, post.ok0 rs (Rep.int_.mpr rfl)⟩
  | mod =>
    cases a <;> cases b <;> first | exact post.elim | skip
    rw [Rep.int_] at ra rb
    obtain ⟨hc, post⟩ := post.ite
    exact op_modN pins s σ H x y v u Q I rx ry ⟨_, _, ra, rb, hc, post.ok0 rs (Rep.int_.mpr rfl)⟩
  | pow =>
    cases a <;> cases b <;> first | exact post.elim | skip
    rw [Rep.int_] at ra rb
    obtain ⟨hc, post⟩ := post.ite
    exact op_pow pins s σ H x y v u Q I rx ry ⟨_, _, ra, rb, hc, post.ok0 rs (Rep.int_.mpr rfl)⟩
end

/-! ### comparisons -/
mutual
theorem pdat_rep {K : PySem.W.Frag} {m : List Addr} {H : Hp} {S : Hs} (rs : RepS K m H S) : ∀ (n : Nat) (d : D) {v : V} {p : PyData}, Rep K m H d v → pdat S n d = some p → Dp K H v p
  | 0, _, _, _, _, h => by simp [pdat] at h
  | n + 1, .non, v, p, r, h => by
    rw [Rep.non_] at r
    simp [pdat] at h
    subst r h
    exact .non
  | n + 1, .bl b, v, p, r, h => by
    rw [Rep.bl_] at r
    simp [pdat] at h
    subst r h
    exact .bl b
  | n + 1, .int b, v, p, r, h => by
    rw [Rep.int_] at r
    simp [pdat] at h
    subst r h
    exact .int b
  | n + 1, .str b, v, p, r, h => by
    rw [Rep.str_] at r
    simp [pdat] at h
    subst r h
    exact .str b
  | n + 1, .tup ds, v, p, r, h => by
    rw [Rep.tup_] at r
    obtain ⟨a, xs, rfl, t, r⟩ := r
    simp only [pdat] at h
    cases e : mapO (pdat S n) ds with
    | none => rw [e] at h; simp at h
    | some ps =>
      rw [e] at h
      simp at h
      subst h
      exact .tup t.sq (pdats_rep rs n ds r e)
  | n + 1, .ref a, v, p, r, h => by
    rw [Rep.ref_] at r
    obtain ⟨q, e, rfl⟩ := r
    simp only [pdat] at h
    split at h
    · rename_i ds hs
      obtain ⟨xs, h1, h2⟩ := rs.obj a _ q hs e
      cases e2 : mapO (pdat S n) ds with
      | none => rw [e2] at h; simp at h
      | some ps =>
        rw [e2] at h
        simp at h
        subst h
        exact .lst (SqL.of h1) (pdats_rep rs n ds h2 e2)
    · rename_i ds hs
      obtain ⟨o, xs, h1, h2⟩ := rs.obj a _ q hs e
      cases e2 : mapO (pdat S n) ds with
      | none => rw [e2] at h; simp at h
      | some ps =>
        rw [e2] at h
        simp at h
        subst h
        exact .lst (.inl (.inr ⟨o, h1⟩)) (pdats_rep rs n ds h2 e2)
    · cases h
theorem pdats_rep {K : PySem.W.Frag} {m : List Addr} {H : Hp} {S : Hs} (rs : RepS K m H S) (n : Nat) : ∀ (ds : List D) {vs : List V} {ps : List PyData}, Reps K m H ds vs → mapO (pdat S n) ds = some ps → DpAll K H vs ps
  | [], vs, ps, r, h => by
    rw [Reps.nil_] at r
    simp [mapO] at h
    subst r h
    exact .nil
  | d :: ds, vs, ps, r, h => by
    rw [Reps.cons_] at r
    obtain ⟨x, q, rfl, r1, r2⟩ := r
    simp only [mapO] at h
    split at h
    · rename_i b bs h1 h2
      cases h
      exact .cons (pdat_rep rs n d r1 h1) (pdats_rep rs n ds r2 h2)
    · cases h
end
theorem shp_rep {K : PySem.W.Frag} {m : List Addr} {H : Hp} {S : Hs} (rs : RepS K m H S) {d : D} {v : V} {p : PyData} (r : Rep K m H d v) (h : shp S d = some p) : Dp K H v p ∧ SeqAt.shaped p = true := by
  unfold shp at h
  split at h
  · rename_i q e
    split at h
    · rename_i hs
      cases h
      exact ⟨pdat_rep rs _ d r e, hs⟩
    · cases h
  · cases h
theorem eqD_int {S : Hs} {i j : Int} : eqD S (.int i) (.int j) = some (decide (i = j)) := rfl
theorem eqD_rest {S : Hs} {x y : D} {b : Bool} (h : eqD S x y = some b) : (∃ i j, x = .int i ∧ y = .int j ∧ b = decide (i = j)) ∨ (∃ i j, x = .str i ∧ y = .str j ∧ b = decide (i = j)) ∨ ∃ p q, shp S x = some p ∧ shp S y = some q ∧ b = PyData.eqv p q := by
  unfold eqD at h
  split at h
  · cases h; exact .inl ⟨_, _, rfl, rfl, rfl⟩
  · cases h; exact .inr (.inl ⟨_, _, rfl, rfl, rfl⟩)
  · split at h
    · rename_i p q h1 h2
      cases h
      exact .inr (.inr ⟨p, q, h1, h2, rfl⟩)
    · cases h
def Cop.py : Cop → CmpOp
  | .lt => .Lt | .le => .LtE | .gt => .Gt | .ge => .GtE | .eq => .Eq | .ne => .NotEq | .mem => .In | .nmem => .NotIn
def rCmp (K : PySem.W.Frag) (o : Cop) : R2 := fun x y H Q => ∃ m S a b, RepS K m H S ∧ Rep K m H a x ∧ Rep K m H b y ∧ Post K m H (Rep K) (cmpD S o a b) Q
section
variable {K : PySem.W.Frag} {m m' : List Addr} {H H' : Hp} {S : Hs}
theorem flatD_rep {d : D} {v : V} (r : Rep K m H d v) (f : flatD d = true) : flatV v = true := by
  cases d with
  | non => rw [Rep.non_] at r; subst r; rfl
  | bl => rw [Rep.bl_] at r; subst r; rfl
  | int => rw [Rep.int_] at r; subst r; rfl
  | str => rw [Rep.str_] at r; subst r; rfl
  | tup => simp [flatD] at f
  | ref => simp [flatD] at f
theorem eqF_rep {d e : D} {v u : V} (r : Rep K m H d v) (r' : Rep K m H e u) (f : flatD d = true) (f' : flatD e = true) : eqV v u = eqF d e := by
  cases d <;> simp [flatD] at f <;> cases e <;> simp [flatD] at f' <;>
    (simp only [Rep.non_, Rep.bl_, Rep.int_, Rep.str_] at r r'; subst r r'; rfl)
theorem flats_rep : ∀ {ds : List D} {vs : List V}, Reps K m H ds vs → ds.all flatD = true → vs.all flatV = true
  | [], _, r, _ => by rw [Reps.nil_] at r; subst r; rfl
  | d :: ds, _, r, f => by
    rw [Reps.cons_] at r
    obtain ⟨x, q, rfl, r1, r2⟩ := r
    rw [List.all_cons, Bool.and_eq_true] at f ⊢
    exact ⟨flatD_rep r1 f.1, flats_rep r2 f.2⟩
theorem anyF_rep {e : D} {u : V} (r' : Rep K m H e u) (f' : flatD e = true) : ∀ {ds : List D} {vs : List V}, Reps K m H ds vs → ds.all flatD = true → inV u vs = ds.any fun z => eqF z e
  | [], _, r, _ => by rw [Reps.nil_] at r; subst r; rfl
  | d :: ds, _, r, f => by
    rw [Reps.cons_] at r
    obtain ⟨x, q, rfl, r1, r2⟩ := r
    rw [List.all_cons, Bool.and_eq_true] at f
    unfold inV
    rw [List.any_cons, List.any_cons, eqF_rep r1 r' f.1 f']
    have := anyF_rep r' f' r2 f.2
    unfold inV at this
    rw [this]
end
section
variable {X : Cx}
theorem op_mem (neg : Bool) {o : CmpOp} (hs : OpR X (compareOp o) (fun x y H Q => ∃ i j, x = .str i ∧ y = .str j ∧ Q (.bl (neg != !(Builtin.Str.occurrences j i 0 j.length 1).isEmpty)) H)) (hi : OpR X (compareOp o) (rIn X.K neg)) :
    OpR X (compareOp o) (fun x y H Q => ∃ m S a b, RepS X.K m H S ∧ Rep X.K m H a x ∧ Rep X.K m H b y ∧ Post X.K m H (Rep X.K) (memD S neg a b) Q) := by
  intro pins s σ H x y v u Q I rx ry h
  obtain ⟨m, S, a, b, rs, ra, rb, post⟩ := h
  have gen : ∀ ds, seqOf S b = some ds → Post X.K m H (Rep X.K) (if (flatD a && ds.all flatD) = true then .ok (.bl (neg != ds.any fun z => eqF z a)) S else .no) Q → wpAny (model X.prog X.w) X.A (compareOp o v u) (EP X pins σ Q) X.xe s := by
    intro ds e post
    obtain ⟨hc, post⟩ := post.ite
    rw [Bool.and_eq_true] at hc
    obtain ⟨p, xs, rfl, hq, r⟩ := seq_rep rs rb e
    refine hi pins s σ H x _ v u Q I rx ry ⟨p, xs, rfl, hq, flatD_rep ra hc.1, flats_rep r hc.2, ?_⟩
    rw [anyF_rep ra hc.1 r hc.2]
    have := post.ok0 (b := .bl (neg != ds.any fun z => eqF z a)) rs (Rep.bl_.mpr rfl)
    cases neg <;> simpa using this
  cases b with
  | str z =>
    cases a with
    | str w =>
      rw [Rep.str_] at ra rb
      exact hs pins s σ H x y v u Q I rx ry ⟨_, _, ra, rb, post.ok0 rs (Rep.bl_.mpr rfl)⟩
    | _ => exact post.elim
  | tup ds => exact gen ds rfl post
  | ref n =>
    simp only [memD] at post
    split at post
    · rename_i ds e
      exact gen ds e post
    · exact post.elim
  | _ => exact post.elim
theorem op_cmp (o : Cop) (hu : X.A.units + 64 < cLine) : OpR X (compareOp o.py) (rCmp X.K o) := by
  intro pins s σ H x y v u Q I rx ry h
  obtain ⟨m, S, a, b, rs, ra, rb, post⟩ := h
  have eqs : ∀ (neg : Bool) {k : CmpOp}, (∀ p q, shp S a = some p → shp S b = some q → Q (.bl (neg != PyData.eqv p q)) H → wpAny (model X.prog X.w) X.A (compareOp k v u) (EP X pins σ Q) X.xe s) →
      (scal x y = true → Q (.bl (neg != decide (x = y))) H → wpAny (model X.prog X.w) X.A (compareOp k v u) (EP X pins σ Q) X.xe s) →
      Post X.K m H (Rep X.K) (match eqD S a b with | some c => .ok (.bl (neg != c)) S | none => .no) Q → wpAny (model X.prog X.w) X.A (compareOp k v u) (EP X pins σ Q) X.xe s := by
    intro neg k f1 f2 post
    split at post
    · rename_i c e
      have q := post.ok0 (b := .bl (neg != c)) rs (Rep.bl_.mpr rfl)
      rcases eqD_rest e with ⟨i, j, rfl, rfl, rfl⟩ | ⟨i, j, rfl, rfl, rfl⟩ | ⟨p, w, h1, h2, rfl⟩
      · rw [Rep.int_] at ra rb
        subst ra rb
        refine f2 rfl ?_
        rw [dec_int]
        rwa [Bool.beq_eq_decide_eq]
      · rw [Rep.str_] at ra rb
        subst ra rb
        refine f2 rfl ?_
        have : decide (V.str i = V.str j) = decide (i = j) := by
          rw [Bool.eq_iff_iff]; simp
        rw [this]
        exact q
      · exact f1 p w h1 h2 q
    · exact post.elim
  cases o with
  | lt =>
    cases a <;> cases b <;> first | exact post.elim | skip
    rw [Rep.int_] at ra rb
    exact op_lt pins s σ H x y v u Q I rx ry ⟨_, _, ra, rb, post.ok0 rs (Rep.bl_.mpr rfl)⟩
  | le =>
    cases a <;> cases b <;> first | exact post.elim | skip
    rw [Rep.int_] at ra rb
    exact op_le pins s σ H x y v u Q I rx ry ⟨_, _, ra, rb, post.ok0 rs (Rep.bl_.mpr rfl)⟩
  | gt =>
    cases a <;> cases b <;> first | exact post.elim | skip
    rw [Rep.int_] at ra rb
    exact op_gt pins s σ H x y v u Q I rx ry ⟨_, _, ra, rb, post.ok0 rs (Rep.bl_.mpr rfl)⟩
  | ge =>
    cases a <;> cases b <;> first | exact post.elim | skip
    rw [Rep.int_] at ra rb
    exact op_ge pins s σ H x y v u Q I rx ry ⟨_, _, ra, rb, post.ok0 rs (Rep.bl_.mpr rfl)⟩
  | eq =>
    refine eqs false (k := .Eq) (fun p q h1 h2 hq => ?_) (fun hs hq => op_eq pins s σ H x y v u Q I rx ry ⟨hs, by simpa using hq⟩) ?_
    · obtain ⟨d1, s1⟩ := shp_rep rs ra h1
      obtain ⟨d2, s2⟩ := shp_rep rs rb h2
      exact op_eqD hu pins s σ H x y v u Q I rx ry ⟨p, q, d1, d2, s1, s2, by simpa using hq⟩
    · simp only [cmpD] at post
      cases e : eqD S a b with
      | none => rw [e] at post; exact post.elim
      | some c => rw [e] at post; simpa using post
  | ne =>
    refine eqs true (k := .NotEq) (fun p q h1 h2 hq => ?_) (fun hs hq => op_ne pins s σ H x y v u Q I rx ry ⟨hs, by simpa using hq⟩) ?_
    · obtain ⟨d1, s1⟩ := shp_rep rs ra h1
      obtain ⟨d2, s2⟩ := shp_rep rs rb h2
      exact op_neD hu pins s σ H x y v u Q I rx ry ⟨p, q, d1, d2, s1, s2, by simpa using hq⟩
    · simp only [cmpD] at post
      cases e : eqD S a b with
      | none => rw [e] at post; exact post.elim
      | some c => rw [e] at post; simpa using post
  | mem =>
    refine op_mem false ?_ op_in_seq pins s σ H x y v u Q I rx ry ⟨m, S, a, b, rs, ra, rb, post⟩
    intro pins s σ H x y v u Q I rx ry ⟨i, j, h1, h2, q⟩
    exact op_in_str pins s σ H x y v u Q I rx ry ⟨i, j, h1, h2, by simpa using q⟩
  | nmem =>
    refine op_mem true ?_ op_notIn_seq pins s σ H x y v u Q I rx ry ⟨m, S, a, b, rs, ra, rb, post⟩
    intro pins s σ H x y v u Q I rx ry ⟨i, j, h1, h2, q⟩
    exact op_notIn_str pins s σ H x y v u Q I rx ry ⟨i, j, h1, h2, by simpa using q⟩
end
end RS

namespace RS
open PySem PySem.Spec L2
/-! ### built-in functions -/
def Bi.nm : Bi → Str
  | .len => "len" | .int => "int" | .list => "list" | .tuple => "tuple" | .sum => "sum" | .all => "all" | .any => "any" | .max => "max" | .min => "min"
  | .sorted => "sorted" | .sortedSet => "sorted" | .lenSet => "len" | .repr => "repr" | .dict => "dict"
def Bi.val : Bi → Value
  | .len => .builtin "len" | .int => .type "int" | .list => .type "list" | .tuple => .type "tuple" | .sum => .builtin "sum" | .all => .builtin "all" | .any => .builtin "any" | .max => .builtin "max" | .min => .builtin "min"
  | .sorted => .builtin "sorted" | .sortedSet => .none | .lenSet => .none | .repr => .builtin "repr" | .dict => .type "dict"
def rBi (K : PySem.W.Frag) (f : Bi) : List V → Hp → VK → Prop := fun vs H Q => ∃ m S ds, RepS K m H S ∧ Reps K m H ds vs ∧ Post K m H (Rep K) (biF S f ds) Q
section
variable {K : PySem.W.Frag} {m m' : List Addr} {H H' : Hp} {S : Hs}
theorem Reps.one_ {d : D} {vs : List V} (r : Reps K m H [d] vs) : ∃ v, vs = [v] ∧ Rep K m H d v := by
  rw [Reps.cons_] at r
  obtain ⟨x, q, rfl, r1, r2⟩ := r
  rw [Reps.nil_] at r2
  subst r2
  exact ⟨x, rfl, r1⟩
theorem Reps.two_ {d e : D} {vs : List V} (r : Reps K m H [d, e] vs) : ∃ v u, vs = [v, u] ∧ Rep K m H d v ∧ Rep K m H e u := by
  rw [Reps.cons_] at r
  obtain ⟨x, q, rfl, r1, r2⟩ := r
  obtain ⟨u, rfl, r3⟩ := r2.one_
  exact ⟨x, u, rfl, r1, r3⟩
theorem ints_rep : ∀ {ds : List D} {vs : List V} {ns : List Int}, Reps K m H ds vs → intsOf ds = some ns → vs = ns.map V.int
  | [], _, ns, r, h => by rw [Reps.nil_] at r; simp [intsOf, mapO] at h; subst r h; rfl
  | d :: ds, _, ns, r, h => by
    rw [Reps.cons_] at r
    obtain ⟨x, q, rfl, r1, r2⟩ := r
    simp only [intsOf, mapO] at h
    split at h
    · rename_i b bs h1 h2
      cases h
      cases d <;> simp [asI] at h1
      subst h1
      rw [Rep.int_] at r1
      subst r1
      rw [ints_rep r2 h2]; rfl
    · cases h
theorem bools_rep : ∀ {ds : List D} {vs : List V} {ns : List Bool}, Reps K m H ds vs → boolsOf ds = some ns → vs = ns.map V.bl
  | [], _, ns, r, h => by rw [Reps.nil_] at r; simp [boolsOf, mapO] at h; subst r h; rfl
  | d :: ds, _, ns, r, h => by
    rw [Reps.cons_] at r
    obtain ⟨x, q, rfl, r1, r2⟩ := r
    simp only [boolsOf, mapO] at h
    split at h
    · rename_i b bs h1 h2
      cases h
      cases d <;> simp [asB] at h1
      subst h1
      rw [Rep.bl_] at r1
      subst r1
      rw [bools_rep r2 h2]; rfl
    · cases h
theorem strs_rep : ∀ {ds : List D} {vs : List V} {ns : List Str}, Reps K m H ds vs → strsOf ds = some ns → vs = ns.map V.str
  | [], _, ns, r, h => by rw [Reps.nil_] at r; simp [strsOf, mapO] at h; subst r h; rfl
  | d :: ds, _, ns, r, h => by
    rw [Reps.cons_] at r
    obtain ⟨x, q, rfl, r1, r2⟩ := r
    simp only [strsOf, mapO] at h
    split at h
    · rename_i b bs h1 h2
      cases h
      cases d <;> simp [asS] at h1
      subst h1
      rw [Rep.str_] at r1
      subst r1
      rw [strs_rep r2 h2]; rfl
    · cases h
theorem maxL_is : ∀ (ns : List Int) (m z : Int), ns.foldl (fun a b => if b > a then b else a) z = m → (z = m ∨ m ∈ ns) ∧ z ≤ m ∧ ∀ y ∈ ns, y ≤ m
  | [], m, z, h => by simp at h; subst h; simp
  | x :: xs, m, z, h => by
    simp only [List.foldl_cons] at h
    obtain ⟨h1, h2, h3⟩ := maxL_is xs m _ h
    by_cases e : x > z
    · rw [if_pos e] at h1 h2
      refine ⟨.inr ?_, by omega, fun y hy => ?_⟩
      · rcases h1 with h1 | h1
        · simp [h1]
        · simp [h1]
      · rcases List.mem_cons.mp hy with rfl | hy
        · exact h2
        · exact h3 y hy
    · rw [if_neg e] at h1 h2
      refine ⟨?_, h2, fun y hy => ?_⟩
      · rcases h1 with h1 | h1
        · exact .inl h1
        · exact .inr (by simp [h1])
      · rcases List.mem_cons.mp hy with rfl | hy
        · omega
        · exact h3 y hy
theorem minL_is : ∀ (ns : List Int) (m z : Int), ns.foldl (fun a b => if b < a then b else a) z = m → (z = m ∨ m ∈ ns) ∧ m ≤ z ∧ ∀ y ∈ ns, m ≤ y
  | [], m, z, h => by simp at h; subst h; simp
  | x :: xs, m, z, h => by
    simp only [List.foldl_cons] at h
    obtain ⟨h1, h2, h3⟩ := minL_is xs m _ h
    by_cases e : x < z
    · rw [if_pos e] at h1 h2
      refine ⟨.inr ?_, by omega, fun y hy => ?_⟩
      · rcases h1 with h1 | h1
        · simp [h1]
        · simp [h1]
      · rcases List.mem_cons.mp hy with rfl | hy
        · exact h2
        · exact h3 y hy
    · rw [if_neg e] at h1 h2
      refine ⟨?_, h2, fun y hy => ?_⟩
      · rcases h1 with h1 | h1
        · exact .inl h1
        · exact .inr (by simp [h1])
      · rcases List.mem_cons.mp hy with rfl | hy
        · omega
        · exact h3 y hy
end
theorem CallR.mono {X : Cx} {f : Value} {r r' : List V → Hp → VK → Prop} (h : CallR X f r) (hh : ∀ pins s σ vs H Q, Inv X pins σ H s → r' vs H Q → r vs H Q) : CallR X f r' :=
  fun pins s σ H xs us Q I rs q => h pins s σ H xs us Q I rs (hh pins s σ xs H Q I q)
section
variable {X : Cx}
theorem call_len' : CallR X (.builtin "len") (rBi X.K .len) := by
  refine CallR.mono call_len fun pins s σ vs H Q I h => ?_
  obtain ⟨m, S, ds, rs, rr, post⟩ := h
  match ds, rr, post with
  | [], _, post => exact post.elim
  | _ :: _ :: _, _, post => exact post.elim
  | [d], r0, post =>
    obtain ⟨v, rfl, r⟩ := r0.one_
    simp only [biF] at post
    split at post
    · rename_i n e
      have q := post.ok0 (b := .int n) rs (Rep.int_.mpr rfl)
      refine ⟨v, n, rfl, ?_, q⟩
      cases d with
      | str x =>
        rw [Rep.str_] at r
        subst r
        simp only [lenOf] at e
        split at e
        · cases e; exact ⟨by assumption, rfl⟩
        · cases e
      | tup ds =>
        obtain ⟨a, xs, rfl, hq, r⟩ := seq_rep rs r rfl
        simp [lenOf, seqOf] at e
        rcases hq with hq | hq
        · exact .inl ⟨xs, hq, by rw [← e, r.len]⟩
        · exact .inr ⟨xs, hq, by rw [← e, r.len]⟩
      | ref k =>
        simp only [lenOf] at e
        cases e2 : seqOf S (.ref k) with
        | none => rw [e2] at e; simp at e
        | some ds =>
          rw [e2] at e
          simp at e
          obtain ⟨a, xs, rfl, hq, r⟩ := seqL_rep rs r e2
          exact .inl ⟨xs, hq, by rw [← e, r.len]⟩
      | _ => simp [lenOf, seqOf] at e
    · exact post.elim
theorem call_int' : CallR X (.type "int") (rBi X.K .int) := by
  refine CallR.mono call_int1 fun pins s σ vs H Q I h => ?_
  obtain ⟨m, S, ds, rs, rr, post⟩ := h
  match ds, rr, post with
  | [], _, post => exact post.elim
  | _ :: _ :: _, _, post => exact (by simpa [biF, Post] using post : False).elim
  | [d], r0, post =>
    obtain ⟨v, rfl, r⟩ := r0.one_
    cases d with
    | int i =>
      rw [Rep.int_] at r
      subst r
      exact .inl ⟨i, rfl, post.ok0 rs (Rep.int_.mpr rfl)⟩
    | bl b =>
      rw [Rep.bl_] at r
      subst r
      exact .inr ⟨b, rfl, post.ok0 rs (Rep.int_.mpr rfl)⟩
    | _ => exact post.elim
theorem call_tuple' : CallR X (.type "tuple") (rBi X.K .tuple) := by
  refine CallR.mono call_tuple_of fun pins s σ vs H Q I h => ?_
  obtain ⟨m, S, ds, rs, rr, post⟩ := h
  match ds, rr, post with
  | [], _, post => exact post.elim
  | _ :: _ :: _, _, post => exact (by simpa [biF, Post] using post : False).elim
  | [d], r0, post =>
    obtain ⟨v, rfl, r⟩ := r0.one_
    simp only [biF] at post
    split at post
    · rename_i es e
      cases d with
      | tup ds =>
        cases e
        have r' := r
        rw [Rep.tup_] at r
        obtain ⟨a, xs, rfl, t, r⟩ := r
        exact ⟨a, xs, rfl, .inr ⟨t.sq, post.ok0 rs r'⟩⟩
      | ref n =>
        obtain ⟨a, xs, rfl, hq, r⟩ := seqL_rep rs r e
        exact ⟨a, xs, rfl, .inl ⟨hq, fun l hl => post.tupNew rs r hl⟩⟩
      | _ => simp [seqOf] at e
    · exact post.elim
/-- list of a list or a tuple -/
theorem call_list'' : CallR X (.type "list") (fun vs H Q => ∃ m S d ds v, RepS X.K m H S ∧ vs = [v] ∧ Rep X.K m H d v ∧ seqOf S d = some ds ∧ Post X.K m H (Rep X.K) (newO (.lst ds) S) Q) := by
  refine CallR.mono call_list_of fun pins s σ vs H Q I h => ?_
  obtain ⟨m, S, d, ds, v, rs, rfl, r, e, post⟩ := h
  obtain ⟨a, xs, rfl, hq, r⟩ := seq_rep rs r e
  exact ⟨a, xs, rfl, hq, fun l hl => post.lstNew rs r hl⟩
theorem vals_of_get : ∀ {xs : List V} {us : List Value}, xs.length = us.length → (∀ (j : Nat) (v : Value), us[j]? = some v → ∃ x, xs[j]? = some x ∧ RelV x v) → Vals xs us
  | [], [], _, _ => .nil
  | [], _ :: _, h, _ => by simp at h
  | _ :: _, [], h, _ => by simp at h
  | x :: xs, u :: us, h, f => by
    obtain ⟨y, e, r⟩ := f 0 u rfl
    simp at e
    subst e
    exact .cons r (vals_of_get (by simpa using h) fun j v hv => by
      obtain ⟨y, e, r⟩ := f (j + 1) v (by simpa using hv)
      exact ⟨y, by simpa using e, r⟩)
def signV (x : Str) : List V := x.cps.toList.map fun c => V.str ⟨#[c]⟩
theorem signs_rep {K : PySem.W.Frag} {m : List Addr} {H : Hp} (x : Str) : Reps K m H (signs x) (signV x) := by
  unfold signs signV
  generalize x.cps.toList = l
  induction l with
  | nil => simp [Reps.nil_]
  | cons c l ih => simp only [List.map_cons]; rw [Reps.cons_]; exact ⟨_, _, rfl, Rep.str_.mpr rfl, ih⟩
theorem call_list_str' (hc : X.calm = true) : CallR X (.type "list") (fun vs H Q => ∃ m S x, RepS X.K m H S ∧ vs = [.str x] ∧ x.length ≤ sizeLine ∧ Post X.K m H (Rep X.K) (newO (.lst (signs x)) S) Q) := by
  intro pins s σ H xs us Q I r h
  obtain ⟨m, S, x, rs, rfl, hz, post⟩ := h
  obtain ⟨u, rfl, t, rfl⟩ := vals1 r
  refine PySem.call_list_str (I.ok.hd hc) x t (fun h' tk acc c' hk e' hi => ?_) (by exact hz)
  have hv : Vals (signV x) acc.toList := by
    refine vals_of_get ?_ fun j v hv => ?_
    · simp [signV, hi.1]
    · obtain ⟨c, w, h1, rfl⟩ := hi.2 j v (by simpa using hv)
      exact ⟨.str ⟨#[c]⟩, by simp [signV, h1], ⟨w, rfl⟩⟩
  refine ⟨.ref s.heap.objs.size, upd H s.heap.objs.size (.lst (signV x)), I.laid hk (Nat.le_refl _) (show ObjOk X.prog X.w _ _ _ (.lst (signV x)) from ⟨?_, acc.toList, c', hv, ?_⟩), rfl, post.lstNew rs (signs_rep x) (I.hok.fresh (Nat.le_refl _))⟩
  · simp [signV]; exact hz
  · rw [Array.toArray_toList]; exact e'
theorem call_list' (hc : X.calm = true) : CallR X (.type "list") (rBi X.K .list) := by
  refine CallR.mono (CallR.or call_list'' (call_list_str' hc)) fun pins s σ vs H Q I h => ?_
  obtain ⟨m, S, ds, rs, rr, post⟩ := h
  match ds, rr, post with
  | [], _, post => exact post.elim
  | _ :: _ :: _, _, post => exact (by simpa [biF, Post] using post : False).elim
  | [d], r0, post =>
    obtain ⟨v, rfl, r⟩ := r0.one_
    have gen : ∀ e : D, e = d → (∀ x, e ≠ .str x) → Post X.K m H (Rep X.K) (match seqOf S e with | some ds => newO (.lst ds) S | none => .no) Q → ∃ m S d ds v', RepS X.K m H S ∧ [v] = [v'] ∧ Rep X.K m H d v' ∧ seqOf S d = some ds ∧ Post X.K m H (Rep X.K) (newO (.lst ds) S) Q := by
      intro e he _ p
      subst he
      split at p
      · rename_i ds e2
        exact ⟨m, S, e, ds, v, rs, rfl, r, e2, p⟩
      · exact p.elim
    cases d with
    | str x =>
      rw [Rep.str_] at r
      subst r
      simp only [biF] at post
      obtain ⟨hz, post⟩ := post.lim
      exact .inr ⟨m, S, x, rs, rfl, hz, post⟩
    | tup ds => exact .inl ⟨m, S, .tup ds, ds, v, rs, rfl, r, rfl, by simpa [biF, seqOf] using post⟩
    | ref n =>
      simp only [biF] at post
      split at post
      · rename_i ds e2
        exact .inl ⟨m, S, .ref n, ds, v, rs, rfl, r, e2, post⟩
      · exact post.elim
    | non => exact (by simpa [biF, seqOf, Post] using post : False).elim
    | bl => exact (by simpa [biF, seqOf, Post] using post : False).elim
    | int => exact (by simpa [biF, seqOf, Post] using post : False).elim
theorem call_sum' (hc : X.calm = true) : CallR X (.builtin "sum") (rBi X.K .sum) := by
  refine CallR.mono (cr_sum hc) fun pins s σ vs H Q I h => ?_
  obtain ⟨m, S, ds, rs, rr, post⟩ := h
  match ds, rr, post with
  | [], _, post => exact post.elim
  | _ :: _ :: _, _, post => exact (by simpa [biF, Post] using post : False).elim
  | [.ref n], r0, post =>
    obtain ⟨v, rfl, r⟩ := r0.one_
    simp only [biF] at post
    split at post
    · rename_i ns e
      cases e2 : seqOf S (.ref n) with
      | none => rw [e2] at e; simp at e
      | some ds =>
        rw [e2] at e
        obtain ⟨a, xs, rfl, hq, r⟩ := seqL_rep rs r e2
        rw [ints_rep r e] at hq
        exact ⟨a, ns, rfl, hq, post.ok0 rs (Rep.int_.mpr rfl)⟩
    · exact post.elim
  | [.non], _, post => exact post.elim
  | [.bl _], _, post => exact post.elim
  | [.int _], _, post => exact post.elim
  | [.str _], _, post => exact post.elim
  | [.tup _], _, post => exact post.elim
theorem call_all' (hc : X.calm = true) : CallR X (.builtin "all") (rBi X.K .all) := by
  refine CallR.mono (cr_all hc) fun pins s σ vs H Q I h => ?_
  obtain ⟨m, S, ds, rs, rr, post⟩ := h
  match ds, rr, post with
  | [], _, post => exact post.elim
  | _ :: _ :: _, _, post => exact (by simpa [biF, Post] using post : False).elim
  | [.ref n], r0, post =>
    obtain ⟨v, rfl, r⟩ := r0.one_
    simp only [biF] at post
    split at post
    · rename_i ns e
      cases e2 : seqOf S (.ref n) with
      | none => rw [e2] at e; simp at e
      | some ds =>
        rw [e2] at e
        obtain ⟨a, xs, rfl, hq, r⟩ := seqL_rep rs r e2
        rw [bools_rep r e] at hq
        exact ⟨a, ns, rfl, hq, post.ok0 rs (Rep.bl_.mpr rfl)⟩
    · exact post.elim
  | [.non], _, post => exact post.elim
  | [.bl _], _, post => exact post.elim
  | [.int _], _, post => exact post.elim
  | [.str _], _, post => exact post.elim
  | [.tup _], _, post => exact post.elim
theorem call_any' (hc : X.calm = true) : CallR X (.builtin "any") (rBi X.K .any) := by
  refine CallR.mono (cr_any hc) fun pins s σ vs H Q I h => ?_
  obtain ⟨m, S, ds, rs, rr, post⟩ := h
  match ds, rr, post with
  | [], _, post => exact post.elim
  | _ :: _ :: _, _, post => exact (by simpa [biF, Post] using post : False).elim
  | [.ref n], r0, post =>
    obtain ⟨v, rfl, r⟩ := r0.one_
    simp only [biF] at post
    split at post
    · rename_i ns e
      cases e2 : seqOf S (.ref n) with
      | none => rw [e2] at e; simp at e
      | some ds =>
        rw [e2] at e
        obtain ⟨a, xs, rfl, hq, r⟩ := seqL_rep rs r e2
        rw [bools_rep r e] at hq
        exact ⟨a, ns, rfl, hq, post.ok0 rs (Rep.bl_.mpr rfl)⟩
    · exact post.elim
  | [.non], _, post => exact post.elim
  | [.bl _], _, post => exact post.elim
  | [.int _], _, post => exact post.elim
  | [.str _], _, post => exact post.elim
  | [.tup _], _, post => exact post.elim
theorem call_max' (hc : X.calm = true) : CallR X (.builtin "max") (rBi X.K .max) := by
  refine CallR.mono (CallR.or (cr_max hc) (call_max2 hc)) fun pins s σ vs H Q I h => ?_
  obtain ⟨m, S, ds, rs, rr, post⟩ := h
  match ds, rr, post with
  | [], _, post => exact post.elim
  | _ :: _ :: _ :: _, _, post => exact (by simpa [biF, Post] using post : False).elim
  | [d, e], r0, post =>
    obtain ⟨v, u, rfl, r1, r2⟩ := r0.two_
    cases d <;> cases e <;> first | exact post.elim | skip
    rw [Rep.int_] at r1 r2
    subst r1 r2
    exact .inr ⟨_, _, rfl, post.ok0 rs (Rep.int_.mpr rfl)⟩
  | [.ref n], r0, post =>
    obtain ⟨v, rfl, r⟩ := r0.one_
    simp only [biF] at post
    split at post
    · rename_i z e
      cases e2 : seqOf S (.ref n) with
      | none => rw [e2] at e; simp at e
      | some ds =>
        rw [e2] at e
        simp only [Option.bind_some] at e
        cases e3 : intsOf ds with
        | none => rw [e3] at e; simp at e
        | some ns =>
          rw [e3] at e
          simp only [Option.bind_some] at e
          obtain ⟨a, xs, rfl, hq, r⟩ := seqL_rep rs r e2
          rw [ints_rep r e3] at hq
          cases ns with
          | nil => simp [maxL] at e
          | cons n0 ns =>
            simp only [maxL, Option.some.injEq] at e
            obtain ⟨h1, h2, h3⟩ := maxL_is ns z n0 e
            refine .inl ⟨a, _, rfl, hq, by simp, fun k hk hall => ?_⟩
            have hkz : k = z := by
              have hz : z ≤ k := by
                rcases h1 with h1 | h1
                · exact hall z (by simp [h1])
                · exact hall z (by simp [h1])
              have : k ≤ z := by
                rcases List.mem_cons.mp hk with rfl | hk
                · exact h2
                · exact h3 k hk
              omega
            subst hkz
            exact post.ok0 rs (Rep.int_.mpr rfl)
    · exact post.elim
  | [.non], _, post => exact post.elim
  | [.bl _], _, post => exact post.elim
  | [.int _], _, post => exact post.elim
  | [.str _], _, post => exact post.elim
  | [.tup _], _, post => exact post.elim
theorem call_min' (hc : X.calm = true) : CallR X (.builtin "min") (rBi X.K .min) := by
  refine CallR.mono (CallR.or (cr_min hc) (call_min2 hc)) fun pins s σ vs H Q I h => ?_
  obtain ⟨m, S, ds, rs, rr, post⟩ := h
  match ds, rr, post with
  | [], _, post => exact post.elim
  | _ :: _ :: _ :: _, _, post => exact (by simpa [biF, Post] using post : False).elim
  | [d, e], r0, post =>
    obtain ⟨v, u, rfl, r1, r2⟩ := r0.two_
    cases d <;> cases e <;> first | exact post.elim | skip
    rw [Rep.int_] at r1 r2
    subst r1 r2
    exact .inr ⟨_, _, rfl, post.ok0 rs (Rep.int_.mpr rfl)⟩
  | [.ref n], r0, post =>
    obtain ⟨v, rfl, r⟩ := r0.one_
    simp only [biF] at post
    split at post
    · rename_i z e
      cases e2 : seqOf S (.ref n) with
      | none => rw [e2] at e; simp at e
      | some ds =>
        rw [e2] at e
        simp only [Option.bind_some] at e
        cases e3 : intsOf ds with
        | none => rw [e3] at e; simp at e
        | some ns =>
          rw [e3] at e
          simp only [Option.bind_some] at e
          obtain ⟨a, xs, rfl, hq, r⟩ := seqL_rep rs r e2
          rw [ints_rep r e3] at hq
          cases ns with
          | nil => simp [minL] at e
          | cons n0 ns =>
            simp only [minL, Option.some.injEq] at e
            obtain ⟨h1, h2, h3⟩ := minL_is ns z n0 e
            refine .inl ⟨a, _, rfl, hq, by simp, fun k hk hall => ?_⟩
            have hkz : k = z := by
              have hz : k ≤ z := by
                rcases h1 with h1 | h1
                · exact hall z (by simp [h1])
                · exact hall z (by simp [h1])
              have : z ≤ k := by
                rcases List.mem_cons.mp hk with rfl | hk
                · exact h2
                · exact h3 k hk
              omega
            subst hkz
            exact post.ok0 rs (Rep.int_.mpr rfl)
    · exact post.elim
  | [.non], _, post => exact post.elim
  | [.bl _], _, post => exact post.elim
  | [.int _], _, post => exact post.elim
  | [.str _], _, post => exact post.elim
  | [.tup _], _, post => exact post.elim
end

/-! ### subscripts, slices -/
section
variable {X : Cx}
theorem IxR.mono {r r' : R2} (h : IxR X r) (hh : ∀ x y H Q, r' x y H Q → r x y H Q) : IxR X r' := fun value slice pins s σ H x y v u Q I rx ry q hs => h value slice pins s σ H x y v u Q I rx ry (hh x y H Q q) hs
theorem SlR.mono {r r' : V → Option Int → Option Int → Hp → VK → Prop} (h : SlR X r) (hh : ∀ x l u H Q, r' x l u H Q → r x l u H Q) : SlR X r' := fun pins s σ H x v vl vu lo hi sl Q I rx hs pl pu q => h pins s σ H x v vl vu lo hi sl Q I rx hs pl pu (hh _ _ _ _ _ q)
theorem SlR.or {r r' : V → Option Int → Option Int → Hp → VK → Prop} (h : SlR X r) (h' : SlR X r') : SlR X (fun x l u H Q => r x l u H Q ∨ r' x l u H Q) := fun pins s σ H x v vl vu lo hi sl Q I rx hs pl pu q => by
  rcases q with q | q
  · exact h pins s σ H x v vl vu lo hi sl Q I rx hs pl pu q
  · exact h' pins s σ H x v vl vu lo hi sl Q I rx hs pl pu q
end
section
variable {K : PySem.W.Frag} {m m' : List Addr} {H H' : Hp} {S : Hs}
theorem atI_rep {ds : List D} {vs : List V} (r : Reps K m H ds vs) {i : Int} {d : D} (h : atI ds i = some d) : ∃ v, atI vs i = some v ∧ Rep K m H d v := by
  unfold atI at h ⊢
  rw [← r.len]
  cases e : ixN ds.length i with
  | none => rw [e] at h; simp at h
  | some j =>
    rw [e] at h
    exact r.get h
theorem cut_rep {ds : List D} {vs : List V} (r : Reps K m H ds vs) (lo hi : Option Int) : Reps K m H (cutD ds lo hi) (cutV vs lo hi) := by
  unfold cutD cutV
  rw [← r.len]
  exact Reps.take _ (Reps.drop _ r)
theorem Reps.inj_tup {ds : List D} {vs : List V} (r : Reps K m H ds vs) {lo hi : Option Int} (h : HT.sIx vs.length 0 lo = 0 ∧ HT.sIx vs.length vs.length hi = vs.length) : cutD ds lo hi = ds := by
  unfold cutD
  rw [← r.len] at h
  rw [h.1, h.2]
  simp
end
section
variable {X : Cx}
def rIxD (K : PySem.W.Frag) : R2 := fun x y H Q => ∃ m S a b, RepS K m H S ∧ Rep K m H a x ∧ Rep K m H b y ∧ Post K m H (Rep K) (ixD S a b) Q
theorem ix_D : IxR X (rIxD X.K) := by
  refine IxR.mono (r := rIx X.K) ix_seq fun x y H Q h => ?_
  obtain ⟨m, S, a, b, rs, ra, rb, post⟩ := h
  have gen : ∀ i, b = .int i → Post X.K m H (Rep X.K) (ixS S a i) Q → rIx X.K x y H Q := by
    intro i hb pp
    subst hb
    rw [Rep.int_] at rb
    subst rb
    unfold ixS at pp
    split at pp
    · rename_i ds e
      split at pp
      · rename_i z e2
        obtain ⟨p, xs, rfl, hq, r⟩ := seq_rep rs ra e
        obtain ⟨v, e3, rv⟩ := atI_rep r e2
        rcases hq with hq | hq
        · exact .inl ⟨p, xs, i, v, rfl, rfl, hq, e3, pp.ok0 rs rv⟩
        · exact .inr (.inl ⟨p, xs, i, v, rfl, rfl, hq, e3, pp.ok0 rs rv⟩)
      · exact pp.elim
    · exact pp.elim
  cases b with
  | int i =>
    cases a with
    | str z =>
      rw [Rep.str_] at ra
      rw [Rep.int_] at rb
      subst ra rb
      simp only [ixD] at post
      obtain ⟨hz, post⟩ := post.ite
      split at post
      · rename_i c e
        exact .inr (.inr ⟨z, i, c, rfl, rfl, hz, e, post.ok0 rs (Rep.str_.mpr rfl)⟩)
      · exact post.elim
    | tup ds => exact gen i rfl (by simpa only [ixD] using post)
    | ref n => exact gen i rfl (by simpa only [ixD] using post)
    | non => exact (by simpa [ixD, ixS, seqOf, Post] using post : False).elim
    | bl => exact (by simpa [ixD, ixS, seqOf, Post] using post : False).elim
    | int => exact (by simpa [ixD, ixS, seqOf, Post] using post : False).elim
  | _ => exact (by cases a <;> exact post : False).elim
def rSlD (K : PySem.W.Frag) : V → Option Int → Option Int → Hp → VK → Prop := fun x lo hi H Q => ∃ m S a, RepS K m H S ∧ Rep K m H a x ∧ Post K m H (Rep K) (slD S a lo hi) Q
theorem sl_D : SlR X (rSlD X.K) := by
  refine SlR.mono (SlR.or sl_list (SlR.or sl_tupA sl_str)) fun x lo hi H Q h => ?_
  obtain ⟨m, S, a, rs, ra, post⟩ := h
  cases a with
  | str z =>
    rw [Rep.str_] at ra
    subst ra
    simp only [slD] at post
    obtain ⟨hz, post⟩ := post.ite
    exact .inr (.inr ⟨z, rfl, hz, post.ok0 rs (Rep.str_.mpr rfl)⟩)
  | tup ds =>
    have ra' := ra
    rw [Rep.tup_] at ra
    obtain ⟨p, xs, rfl, t, r⟩ := ra
    simp only [slD] at post
    refine .inr (.inl ⟨p, xs, rfl, t.sq, fun hh => ?_, fun _ q hq => post.tupNew rs (cut_rep r lo hi) hq⟩)
    rw [r.inj_tup hh] at post
    exact post.ok0 rs ra'
  | ref n =>
    simp only [slD] at post
    split at post
    · rename_i ds e
      obtain ⟨p, xs, rfl, hq, r⟩ := seqL_rep rs ra e
      exact .inl ⟨p, xs, rfl, hq, fun q hq => post.lstNew rs (cut_rep r lo hi) hq⟩
    · exact post.elim
  | _ => exact (by simpa [slD, seqOf, Post] using post : False).elim
end

/-! ### methods of lists -/
section
variable {K : PySem.W.Frag} {m m' : List Addr} {H H' : Hp} {S : Hs} {X : Cx}
def rMt (K : PySem.W.Frag) (t : Mt) : V → List V → Hp → VK → Prop := fun x vs H Q => ∃ m S a ds, RepS K m H S ∧ Rep K m H a x ∧ Reps K m H ds vs ∧ Post K m H (Rep K) (mtF S t a ds) Q
theorem MtR.mono {id : String} {r r' : V → List V → Hp → VK → Prop} (h : MtR X id r) (hh : ∀ x vs H Q, r' x vs H Q → r x vs H Q) : MtR X id r' := fun pins s σ H x vs v us Q I rx rs q => h pins s σ H x vs v us Q I rx rs (hh _ _ _ _ q)
theorem MtR.or {id : String} {r r' : V → List V → Hp → VK → Prop} (h : MtR X id r) (h' : MtR X id r') : MtR X id (fun x vs H Q => r x vs H Q ∨ r' x vs H Q) := fun pins s σ H x vs v us Q I rx rs q => by
  rcases q with q | q
  · exact h pins s σ H x vs v us Q I rx rs q
  · exact h' pins s σ H x vs v us Q I rx rs q
theorem lstAt_rep (rs : RepS K m H S) {n : Nat} {v : V} {xs : List D} (r : Rep K m H (.ref n) v) (h : lstAt S n = some xs) : ∃ a vs, v = .ref a ∧ m[n]? = some a ∧ H a = some (.lst vs) ∧ Reps K m H xs vs := by
  rw [Rep.ref_] at r
  obtain ⟨a, e, rfl⟩ := r
  obtain ⟨b, vs, q1, q2, q3⟩ := rs.lst (lstAt_some h)
  rw [e] at q1
  cases q1
  exact ⟨a, vs, rfl, e, q2, q3⟩
theorem mt_append' : MtR X "list.append" (rMt X.K .append) := by
  refine MtR.mono mt_append fun x vs H Q h => ?_
  obtain ⟨m, S, a, ds, rs, ra, rr, post⟩ := h
  cases a with
  | ref n =>
    match ds, rr, post with
    | [], _, post => exact post.elim
    | _ :: _ :: _, _, post => exact (by simpa [mtF, Post] using post : False).elim
    | [d], r0, post =>
      obtain ⟨v, rfl, r⟩ := r0.one_
      simp only [mtF] at post
      split at post
      · rename_i xs e
        obtain ⟨hz, post⟩ := post.ite
        obtain ⟨p, ws, rfl, e2, e3, e4⟩ := lstAt_rep rs ra e
        exact ⟨p, ws, v, rfl, rfl, e3, by rw [← e4.len]; exact hz, post.lstSet rs e2 (e4.append (Reps.one r)) (Rep.non_.mpr rfl)⟩
      · exact post.elim
  | _ => exact (by simpa [mtF, Post] using post : False).elim
theorem mt_insert' : MtR X "list.insert" (rMt X.K .insert) := by
  refine MtR.mono mt_insert fun x vs H Q h => ?_
  obtain ⟨m, S, a, ds, rs, ra, rr, post⟩ := h
  cases a with
  | ref n =>
    match ds, rr, post with
    | [], _, post => exact post.elim
    | [_], _, post => exact (by simpa [mtF, Post] using post : False).elim
    | _ :: _ :: _ :: _, _, post => exact (by simpa [mtF, Post] using post : False).elim
    | [i, d], r0, post =>
      obtain ⟨u, v, rfl, r1, r2⟩ := r0.two_
      cases i with
      | int i =>
        rw [Rep.int_] at r1
        subst r1
        simp only [mtF] at post
        split at post
        · rename_i xs e
          obtain ⟨⟨hz, h0, h1⟩, post⟩ := post.ite
          obtain ⟨p, ws, rfl, e2, e3, e4⟩ := lstAt_rep rs ra e
          exact ⟨p, ws, i, v, rfl, rfl, e3, by rw [← e4.len]; exact hz, h0, h1, post.lstSet rs e2 (((Reps.take _ e4).append (Reps.one r2)).append (Reps.drop _ e4)) (Rep.non_.mpr rfl)⟩
        · exact post.elim
      | _ => exact (by simpa [mtF, Post] using post : False).elim
  | _ => exact (by simpa [mtF, Post] using post : False).elim
theorem mt_pop' : MtR X "list.pop" (rMt X.K .pop) := by
  refine MtR.mono (MtR.or mt_pop mt_popAt) fun x vs H Q h => ?_
  obtain ⟨m, S, a, ds, rs, ra, rr, post⟩ := h
  cases a with
  | ref n =>
    match ds, rr, post with
    | [], r0, post =>
      rw [Reps.nil_] at r0
      subst r0
      simp only [mtF] at post
      split at post
      · rename_i xs e
        obtain ⟨p, ws, rfl, e2, e3, e4⟩ := lstAt_rep rs ra e
        split at post
        · rename_i y e5
          rw [e4.len] at e5
          obtain ⟨v, e6, rv⟩ := e4.get e5
          exact .inl ⟨p, ws, v, rfl, rfl, e3, e6, post.lstSet rs e2 e4.dropLast (Rep.ext (Ext.set rs e2) y rv)⟩
        · exact post.elim
      · exact post.elim
    | _ :: _ :: _, _, post => exact (by simpa [mtF, Post] using post : False).elim
    | [i], r0, post =>
      obtain ⟨v, rfl, r⟩ := r0.one_
      cases i with
      | int i =>
        rw [Rep.int_] at r
        subst r
        simp only [mtF] at post
        obtain ⟨⟨h0, h1⟩, post⟩ := post.ite
        split at post
        · rename_i xs e
          obtain ⟨p, ws, rfl, e2, e3, e4⟩ := lstAt_rep rs ra e
          split at post
          · rename_i k ek
            split at post
            · rename_i y e5
              obtain ⟨v, e6, rv⟩ := e4.get e5
              obtain ⟨q1, _⟩ := ixN_seq ek
              exact .inr ⟨p, ws, i, k, v, rfl, rfl, e3, h0, h1, by rw [← e4.len]; exact q1, e6, post.lstSet rs e2 (Reps.erase k e4) (Rep.ext (Ext.set rs e2) y rv)⟩
            · exact post.elim
          · exact post.elim
        · exact post.elim
      | _ => exact (by simpa [mtF, Post] using post : False).elim
  | _ => exact (by simpa [mtF, Post] using post : False).elim
theorem mt_extend' : MtR X "list.extend" (rMt X.K .extend) := by
  refine MtR.mono mt_extend fun x vs H Q h => ?_
  obtain ⟨m, S, a, ds, rs, ra, rr, post⟩ := h
  cases a with
  | ref n =>
    match ds, rr, post with
    | [], _, post => exact post.elim
    | _ :: _ :: _, _, post => exact (by simpa [mtF, Post] using post : False).elim
    | [d], r0, post =>
      obtain ⟨v, rfl, r⟩ := r0.one_
      cases d with
      | ref b =>
        simp only [mtF] at post
        split at post
        · rename_i xs ys e f
          obtain ⟨hz, post⟩ := post.lim
          obtain ⟨p, ws, rfl, e2, e3, e4⟩ := lstAt_rep rs ra e
          obtain ⟨p', ws', rfl, f2, f3, f4⟩ := lstAt_rep rs r f
          exact ⟨p, p', ws, ws', rfl, rfl, e3, f3, by rw [← e4.len, ← f4.len]; exact hz, post.lstSet rs e2 (e4.append f4) (Rep.non_.mpr rfl)⟩
        · exact post.elim
      | _ => exact (by simpa [mtF, Post] using post : False).elim
  | _ => exact (by simpa [mtF, Post] using post : False).elim
theorem mt_join' : MtR X "str.join" (rMt X.K .join) := by
  refine MtR.mono mt_join fun x vs H Q h => ?_
  obtain ⟨m, S, a, ds, rs, ra, rr, post⟩ := h
  cases a with
  | str z =>
    rw [Rep.str_] at ra
    subst ra
    match ds, rr, post with
    | [], _, post => exact post.elim
    | _ :: _ :: _, _, post => exact (by simpa [mtF, Post] using post : False).elim
    | [d], r0, post =>
      obtain ⟨v, rfl, r⟩ := r0.one_
      simp only [mtF] at post
      split at post
      · rename_i ys e
        cases e2 : seqOf S d with
        | none => rw [e2] at e; simp at e
        | some ds =>
          rw [e2] at e
          simp only [Option.bind_some] at e
          obtain ⟨p, xs, rfl, hq, r⟩ := seq_rep rs r e2
          rw [strs_rep r e] at hq
          obtain ⟨hz, post⟩ := post.ite
          exact ⟨z, p, ys, rfl, rfl, hq, hz, post.ok0 rs (Rep.str_.mpr rfl)⟩
      · exact post.elim
  | _ => exact (by simpa [mtF, Post] using post : False).elim
end
/-- o[i] = v -/
theorem set_D {X : Cx} : PSet X (fun o i v H Q => ∃ m S a b d, RepS X.K m H S ∧ Rep X.K m H a o ∧ Rep X.K m H b i ∧ Rep X.K m H d v ∧ Post X.K m H (fun _ _ (_ : Unit) (_ : Unit) => True) (setIx S a b d) (fun _ H' => Q H')) := by
  intro pins s σ H o i v ov iv u Q I ro ri rv h
  obtain ⟨m, S, a, b, d, rs, ra, rb, rd, post⟩ := h
  cases a with
  | ref n =>
    cases b with
    | int k =>
      rw [Rep.int_] at rb
      subst rb
      simp only [setIx] at post
      split at post
      · rename_i xs e
        obtain ⟨p, ws, rfl, e2, e3, e4⟩ := lstAt_rep rs ra e
        split at post
        · rename_i j ej
          exact set_list pins s σ H _ _ v ov iv u Q I ro ri rv ⟨p, ws, k, j, rfl, rfl, e3, by rw [← e4.len]; exact ej, post.lstSet (b := ()) rs e2 (Reps.set rd j e4) trivial⟩
        · exact post.elim
      · exact post.elim
    | _ => exact (by simpa [setIx, Post] using post : False).elim
  | _ => exact (by simpa [setIx, Post] using post : False).elim
end RS

namespace RS
open PySem PySem.Spec L2
/-! ### from the text to the language: a total function; None where something is not carried -/
structure Tab where
  fns : List Str
  cons : List Str
structure Cc where
  T : Tab
  N : List Str
  sc : Scope
  wr : List Str
def ixOf (x : Str) : List Str → Nat → Option Nat
  | [], _ => none
  | y :: ys, i => if y = x then some i else ixOf x ys (i + 1)
def visB (sc : Scope) (x : Str) : Bool := match sc.names.lookup x with
  | some .local => true
  | some .cell => true
  | some .free => true
  | _ => false
def locB (sc : Scope) (x : Str) : Bool := match sc.names.lookup x with
  | some .local => true
  | some .cell => true
  | _ => false
def glB (sc : Scope) (x : Str) : Bool := match sc.names.lookup x with
  | some .globalImplicit => true
  | _ => false
def nameOk (x : Str) : Bool := !(x == ("__debug__" : Str)) && !(x == ("__classdict__" : Str)) && !(x == ("__name__" : Str))
def bopOf : Operator → Option Bop
  | .Add => some .add | .Sub => some .sub | .Mult => some .mul | .FloorDiv => some .fdv | .Mod => some .mod | .Pow => some .pow
  | _ => none
def copOf : CmpOp → Option Cop
  | .Lt => some .lt | .LtE => some .le | .Gt => some .gt | .GtE => some .ge | .Eq => some .eq | .NotEq => some .ne | .In => some .mem | .NotIn => some .nmem
  | _ => none
def notStar : Expr → Bool
  | .Starred _ _ => false
  | _ => true
def notComp : Expr → Bool
  | .ListComp _ _ _ _ => false
  | .SetComp _ _ _ _ => false
  | .DictComp _ _ _ _ _ => false
  | _ => true
def notSet : Expr → Bool
  | .Set _ _ _ => false
  | _ => true
def notSlice : Expr → Bool
  | .Slice _ _ _ _ => false
  | _ => true
/-- a base of an attribute that is no call of a bare name without arguments -/
def plainBase : Expr → Bool
  | .Call _ [] _ _ => false
  | _ => true
/-- a test of the plain kind -/
def plainTest : Expr → Bool
  | .UnaryOp .Not _ _ => false
  | .BoolOp _ _ _ => false
  | .IfExp _ _ _ _ => false
  | .Compare _ _ _ _ => false
  | _ => true
def biOf (x : Str) : Option Bi :=
  if x = ("len" : Str) then some .len else if x = ("int" : Str) then some .int else if x = ("list" : Str) then some .list else if x = ("tuple" : Str) then some .tuple else
  if x = ("sum" : Str) then some .sum else if x = ("all" : Str) then some .all else if x = ("any" : Str) then some .any else if x = ("max" : Str) then some .max else if x = ("min" : Str) then some .min else none
def tyOf (x : Str) : Option Ty :=
  if x = ("int" : Str) then some .int else if x = ("bool" : Str) then some .bool else if x = ("str" : Str) then some .str else if x = ("tuple" : Str) then some .tuple else
  if x = ("list" : Str) then some .list else if x = ("dict" : Str) then some .dict else none
def mtOf (x : Str) : Option Mt :=
  if x = ("append" : Str) then some .append else if x = ("insert" : Str) then some .insert else if x = ("pop" : Str) then some .pop else if x = ("extend" : Str) then some .extend else if x = ("join" : Str) then some .join else none
/-- a built-in's name, free at the module -/
def bltB (c : Cc) (x : Str) : Bool := glB c.sc x && !(c.T.fns.contains x) && !(c.T.cons.contains x)
def tyName (c : Cc) : Expr → Option Ty
  | .Name x _ => if bltB c x then tyOf x else none
  | _ => none
def tyNames (c : Cc) : List Expr → Option (List Ty)
  | [] => some []
  | e :: es => match tyName c e, tyNames c es with
    | some t, some ts => some (t :: ts)
    | _, _ => none
/-- the classes of isinstance's second argument -/
def tyArg (c : Cc) : Expr → Option (List Ty)
  | .Tuple ts _ _ => tyNames c ts
  | t => (tyName c t).map fun t => [t]
/-- the one argument range(..) -/
def isRange (c : Cc) : List Expr → Bool
  | [.Call (.Name x _) _ [] _] => decide (x = ("range" : Str)) && bltB c x
  | _ => false
/-- the slots of a target -/
def slotsG : E → List Nat
  | .var i => [i]
  | .tup es => slotsG es
  | .cons a b => slotsG a ++ slotsG b
  | _ => []
def onlyNames : E → Bool
  | .var _ => true
  | .tup es => onlyNames es
  | .cons a b => onlyNames a && onlyNames b
  | .nil => true
  | _ => false
def isTupE : Expr → Bool
  | .Tuple _ _ _ => true
  | _ => false
/-- a comprehension's own names, by their slots -/
def ownOf (N : List Str) (scope : Scope) : List (Str × Nat) := scope.names.filterMap fun (x, k) => match k with
  | .local => (ixOf x N 0).map fun i => (x, i)
  | .cell => (ixOf x N 0).map fun i => (x, i)
  | _ => none
def ownNames (scope : Scope) : List Str := scope.names.filterMap fun (x, k) => match k with
  | .local => some x
  | .cell => some x
  | _ => none
/-- zip(a, b, strict=..) -/
def kwStrict : List Keyword → Option Bool
  | [] => some false
  | [⟨some k, .Constant (.bool b) _ _, _⟩] => if k = ("strict" : Str) then some b else none
  | _ => none
mutual
def compE : Nat → Cc → Expr → Option E
  | 0, _, _ => none
  | n + 1, c, .Name x _ => if nameOk x then (match ixOf x c.N 0 with
      | some i => if visB c.sc x then some (.var i) else none
      | none => if glB c.sc x then (ixOf x c.T.cons 0).map .glb else none) else none
  | n + 1, c, .Constant k _ _ => match k with
    | .none => some .non
    | .bool b => some (.bl b)
    | .int i => some (.int i)
    | .str x => some (.str x)
    | _ => none
  | n + 1, c, .Tuple es _ _ => (compL n c es).map .tup
  | n + 1, c, .List es _ => (compL n c es).map .lst
  | n + 1, c, .BinOp a o b _ => match bopOf o, compE n c a, compE n c b with
    | some o, some a, some b => some (.bin o a b)
    | _, _, _ => none
  | n + 1, c, .UnaryOp o a _ => match o, compE n c a with
    | .USub, some a => some (.neg a)
    | .Not, some a => some (.nt a)
    | _, _ => none
  | n + 1, c, .Compare a [o] [b] _ => match o, b with
    | .Is, .Constant .none _ _ => (compE n c a).map .isN
    | .IsNot, .Constant .none _ _ => (compE n c a).map .nsN
    | o, b => match copOf o, compE n c a, compE n c b with
      | some o', some a, some b' => if behindInMarks o b then none else some (.cmp o' a b')
      | _, _, _ => none
  | n + 1, c, .Compare a [o, p] [b, d] _ => match copOf o, copOf p, compE n c a, compE n c b, compE n c d with
    | some o', some p', some a, some b', some d' => if lastMarks [o, p] [b, d] then none else some (.chn o' p' a b' d')
    | _, _, _, _, _ => none
  | n + 1, c, .BoolOp _ [a] _ => compE n c a
  | n + 1, c, .BoolOp o (a :: b :: es) pos => match compE n c a, compE n c (.BoolOp o (b :: es) pos) with
    | some a, some b => some (match o with | .And => .and a b | .Or => .or a b)
    | _, _ => none
  | n + 1, c, .IfExp t a b _ => match compE n c t, compE n c a, compE n c b with
    | some t, some a, some b => some (.ife t a b)
    | _, _, _ => none
  | n + 1, c, .Call (.Name x _) es [] _ => if nameOk x && glB c.sc x then (match ixOf x c.T.fns 0 with
      | some f => (compL n c es).map (.cal f)
      | none => if c.T.cons.contains x then none else if x = ("list" : Str) ∧ isRange c es = true then (match es with
          | [.Call (.Name _ _) [a] [] _] => (compL n c [a]).map .lrg
          | [.Call (.Name _ _) [a, b] [] _] => (compL n c [a, b]).map .lrg
          | _ => none)
        else if x = ("isinstance" : Str) then (match es with
          | [a, t] => match compE n c a, tyArg c t with
            | some a, some ts => if ts.isEmpty || decide (1000 < ts.length) then none else some (.isi ts a)
            | _, _ => none
          | _ => none)
        else match biOf x, es with
          | some b, [_] => (compL n c es).map (.bi b)
          | some .max, [_, _] => (compL n c es).map (.bi .max)
          | some .min, [_, _] => (compL n c es).map (.bi .min)
          | _, _ => none) else none
  | n + 1, c, .Call (.Attribute o m apos) es [] pos => if plainBase o && decide ((apos.endLine == pos.line) = true) then (match mtOf m, compE n c o, compL n c es with
      | some .pop, some o, some es' => (match es with
        | [] => some (.mth .pop o es')
        | [_] => some (.mth .pop o es')
        | _ => none)
      | some .insert, some o, some es' => (match es with
        | [_, _] => some (.mth .insert o es')
        | _ => none)
      | some m, some o, some es' => (match es with
        | [_] => some (.mth m o es')
        | _ => none)
      | _, _, _ => none) else none
  | n + 1, c, .Subscript a (.Slice lo hi none _) _ => match compE n c a, compO n c lo, compO n c hi with
    | some a, some lo, some hi => some (.sl a lo hi)
    | _, _, _ => none
  | n + 1, c, .Subscript a (.Slice none none (some (.UnaryOp .USub (.Constant (.int 1) _ _) _)) _) _ => (compE n c a).map .rvs
  | n + 1, c, .Subscript a i _ => if notSlice i then (match compE n c a, compE n c i with
      | some a, some i => some (.ix a i)
      | _, _ => none) else none
  | n + 1, c, .ListComp e [⟨tg, it, ifs, asy⟩] scope _ =>
    if decide (asy = 0) && notSet it && blkC c.N c.sc scope (ownOf c.N scope) then
      match compI n c tg it, compG n { c with sc := relS scope c.sc, wr := ownNames scope } tg, compT n { c with sc := relS scope c.sc, wr := ownNames scope } ifs, compE n { c with sc := relS scope c.sc, wr := ownNames scope } e with
      | some it, some tg, some k, some e => if onlyNames tg && (slotsG tg).all (((ownOf c.N scope).map (·.2)).contains ·) then some (.lc ((ownOf c.N scope).map (·.2)) e tg it k) else none
      | _, _, _, _ => none
    else none
  | _, _, _ => none
/-- arguments -/
def compL : Nat → Cc → List Expr → Option E
  | 0, _, _ => none
  | n + 1, c, [] => some .nil
  | n + 1, c, e :: es => if notStar e then (match compE n c e, compL n c es with
      | some a, some b => some (.cons a b)
      | _, _ => none) else none
/-- a slice's end -/
def compO : Nat → Cc → Option Expr → Option E
  | 0, _, _ => none
  | n + 1, c, none => some .nil
  | n + 1, c, some e => (compE n c e).map fun a => .cons a .nil
/-- a comprehension's tests -/
def compT : Nat → Cc → List Expr → Option E
  | 0, _, _ => none
  | n + 1, c, [] => some (.bl true)
  | n + 1, c, [e] => compE n c e
  | _, _, _ => none
/-- a target -/
def compG : Nat → Cc → Expr → Option E
  | 0, _, _ => none
  | n + 1, c, .Name x _ => if c.wr.contains x then (ixOf x c.N 0).map .var else none
  | n + 1, c, .Tuple es _ _ => (compGs n c es).map .tup
  | n + 1, c, .Subscript a i _ => if notSlice i then (match compE n c a, compE n c i with
      | some a, some i => some (.ix a i)
      | _, _ => none) else none
  | _, _, _ => none
def compGs : Nat → Cc → List Expr → Option E
  | 0, _, _ => none
  | n + 1, c, [] => some .nil
  | n + 1, c, e :: es => if notStar e then (match compG n c e, compGs n c es with
      | some a, some b => some (.cons a b)
      | _, _ => none) else none
/-- what is walked, for a target -/
def compI : Nat → Cc → Expr → Expr → Option E
  | 0, _, _, _ => none
  | n + 1, c, tg, .Call (.Name x p) es ks pos =>
    if bltB c x && nameOk x && decide (x = ("range" : Str)) then (match es, ks with
      | [a], [] => (compL n c [a]).map .rng
      | [a, b], [] => (compL n c [a, b]).map .rng
      | [a, b, d], [] => (compL n c [a, b, d]).map .rng
      | _, _ => none)
    else if bltB c x && nameOk x && decide (x = ("enumerate" : Str)) && isTupE tg then (match es, ks with
      | [a], [] => (compL n c [a]).map .enm
      | _, _ => none)
    else if bltB c x && nameOk x && decide (x = ("zip" : Str)) && isTupE tg then (match es, ks with
      | [a, b], [] => (compL n c [a, b]).map (.zip false)
      | _, _ => none)
    else (compE n c (.Call (.Name x p) es ks pos)).map fun e => .cons e .nil
  | n + 1, c, tg, e => (compE n c e).map fun e => .cons e .nil
end
def starAny (vs : List Expr) : Bool := vs.any fun e => match e with | .Starred .. => true | _ => false
def swNames (sc : Scope) (ts : List Expr) : List Str := ts.filterMap fun e => match e with
    | .Name id pos => if (sc.names.lookup id == some .local && pos.line == (ts.head?.map (·.pos.line)).getD 0) = true then some id else none
    | _ => none
/-- the swapped stores of a pair or a triple of names; the outer None where the model does not tell -/
def swN (sc : Scope) (ts vs : List Expr) : Option (Option (List Str)) :=
  if (!(ts.length == 2 || ts.length == 3) || vs.length != ts.length) = true then some none else
  if starAny vs = true then some none else
  if ((swNames sc ts).length != ts.length || (swNames sc ts).eraseDups.length != (swNames sc ts).length) = true then some none else
  if vs.all (foldedForSure 8) = true then some none else
  if vs.all (constantsAlone 8) = true then none else some (some (swNames sc ts))
def isTup (e : Expr) : Bool := match e with
  | .Tuple _ _ _ => true
  | _ => false
def isLst (e : Expr) : Bool := match e with
  | .List _ _ => true
  | _ => false
/-- does a comprehension stored at once swap -/
def swB (sc : Scope) (y : Str) (py : Pos) (scope : Scope) (pos : Pos) : Bool :=
  sc.names.lookup y == some .local && py.line == pos.line && !(scope.names.any fun (n, k) => n == y && (k == .local || k == .cell))
def kindF (sc : Scope) : Bool := match sc.kind with
  | .function => true
  | _ => false
/-- one target's store -/
def compA (n : Nat) (c : Cc) (tg e : Expr) : Option C := match tg, e with
  | .Name y py, .ListComp e gs scope p => if kindF c.sc && c.wr.contains y then
      match ixOf y c.N 0, compE n c (.ListComp e gs scope p) with
      | some i, some e => some (.asg (.var i) e)
      | _, _ => none
    else none
  | .Tuple ts k p, .Tuple vs k2 p2 => if kindF c.sc then
      match compG n c (.Tuple ts k p), compE n c (.Tuple vs k2 p2), swN c.sc ts vs with
      | some g, some e, some none => some (.asg g e)
      | some g, some e, some (some ns) => (match ts, vs, ns with
        | [.Name x _, .Name y _], [_, _], [x', y'] => if decide (x = x') && decide (y = y') && decide (x ≠ y) && decide (c.sc.names.lookup x = some .local) && decide (c.sc.names.lookup y = some .local) then some (.asg g e) else none
        | [.Name x _, .Name y _, .Name z _], [_, _, _], [x', y', z'] => if decide (x = x') && decide (y = y') && decide (z = z') && decide (x ≠ y) && decide (x ≠ z) && decide (y ≠ z) && decide (c.sc.names.lookup x = some .local) && decide (c.sc.names.lookup y = some .local) && decide (c.sc.names.lookup z = some .local) then some (.asg g e) else none
        | _, _, _ => none)
      | _, _, _ => none
    else none
  | tg, e => if notComp e && notStar tg && !(isTup tg && isTup e) && !(isLst tg) then
      match compG n c tg, compE n c e with
      | some g, some e => some (.asg g e)
      | _, _ => none
    else none
mutual
def compS : Nat → Cc → Stmt → Option C
  | 0, _, _ => none
  | n + 1, c, .Assign tgs e _ => match tgs with
    | [tg] => compA n c tg e
    | _ => none
  | n + 1, c, .AugAssign (.Name x _) o e _ => if c.wr.contains x then
      match ixOf x c.N 0, o, compE n c e with
      | some i, .Add, some e => some (.aug i .add e)
      | some i, .Sub, some e => some (.aug i .sub e)
      | _, _, _ => none
    else none
  | n + 1, c, .Expr e _ => if notComp e then (compE n c e).map .exp else none
  | n + 1, c, .Return (some e) _ => (compE n c e).map .ret
  | n + 1, c, .Return none _ => some .retN
  | n + 1, c, .Pass _ => some .pas
  | n + 1, c, .Break _ => some .brk
  | n + 1, c, .Continue _ => some .cnt
  | n + 1, c, .If t a b _ => match compE n c t, compB n c a, compB n c b with
    | some t, some a, some b => some (.ife t a b)
    | _, _, _ => none
  | n + 1, c, .For tg it b [] _ => if notSet it then
      match compG n c tg, compI n c tg it, compB n c b with
      | some g, some it, some b => some (.for_ g it b)
      | _, _, _ => none
    else none
  | n + 1, c, .While t b [] _ => match compE n c t, compB n c b with
    | some t, some b => some (.whl t b)
    | _, _ => none
  | _, _, _ => none
def compB : Nat → Cc → List Stmt → Option C
  | 0, _, _ => none
  | n + 1, c, [] => some .nil
  | n + 1, c, s :: ss => match compS n c s, compB n c ss with
    | some a, some b => some (.cons a b)
    | _, _ => none
end
/-- a def: its names by slot (the parameters first), its parameters -/
def scopeB (N P : List Str) (sc : Scope) : Bool :=
  kindF sc && !sc.isCoroutine && !sc.isGenerator && decide N.Nodup && decide (N.take P.length = P) && (P.all fun x => match sc.names.lookup x with | some .local => true | some .cell => true | _ => false) && (sc.names.all fun y => match y.2 with | .free => false | _ => true)
def compF (n : Nat) (T : Tab) (N P : List Str) (sc : Scope) (body : List Stmt) : Option Fn :=
  if scopeB N P sc then (compB n { T := T, N := N, sc := sc, wr := N.filter fun x => locB sc x } body).map fun b => ⟨P.length, N.length, b⟩ else none
end RS

namespace RS
open PySem PySem.Spec L2

/-! ### facts of the syntax -/
theorem ixOf_get : ∀ {x : Str} {l : List Str} {i j : Nat}, ixOf x l i = some j → i ≤ j ∧ l[j - i]? = some x
  | x, [], i, j, h => by simp [ixOf] at h
  | x, y :: ys, i, j, h => by
    simp only [ixOf] at h
    split at h
    · rename_i e
      cases h
      subst e
      simp
    · obtain ⟨h1, h2⟩ := ixOf_get h
      refine ⟨by omega, ?_⟩
      have : j - i = (j - (i + 1)) + 1 := by omega
      rw [this]
      simpa using h2
theorem ixOf_get0 {x : Str} {l : List Str} {j : Nat} (h : ixOf x l 0 = some j) : l[j]? = some x := by
  have := (ixOf_get h).2
  simpa using this
theorem nameOk_d {x : Str} (h : nameOk x = true) : (x == ("__debug__" : Str)) = false ∧ (x == ("__classdict__" : Str)) = false ∧ x ≠ "__name__" := by
  unfold nameOk at h
  simp only [Bool.and_eq_true, Bool.not_eq_true'] at h
  exact ⟨h.1.1, h.1.2, fun e => by subst e; simp at h⟩
theorem visB_vis {sc : Scope} {x : Str} (h : visB sc x = true) : Vis sc x := by
  unfold visB at h
  split at h
  · exact .inl (by assumption)
  · exact .inr (.inl (by assumption))
  · exact .inr (.inr (by assumption))
  · cases h
theorem glB_gl {X : Cx} {x : Str} (h : glB X.env.scope x = true) : Gl X x := by
  unfold glB at h
  split at h
  · assumption
  · cases h
theorem star_cons {e : Expr} {es : List Expr} {env : PySem.Env} (h : notStar e = true) : starEach (e :: es) env = (false, eval e env) :: starEach es env := by
  cases e <;> first | rfl | (simp [notStar] at h)
/-- no star in a list that is carried -/
def noStars (es : List Expr) : Prop := ∀ e ∈ es, notStar e = true
theorem star_any {pos : Pos} {env : PySem.Env} : ∀ {es : List Expr}, noStars es → (backTo pos (starEach es env)).any (·.1) = false
  | [], _ => rfl
  | e :: es, h => by
    rw [star_cons (h e List.mem_cons_self)]
    have ih := star_any (pos := pos) (env := env) (es := es) fun e he => h e (List.mem_cons_of_mem _ he)
    unfold backTo at ih ⊢
    simpa using ih
theorem star_all {pos : Pos} {env : PySem.Env} : ∀ {es : List Expr}, noStars es → (backTo pos (starEach es env)).all (fun x => !x.1) = true
  | [], _ => rfl
  | e :: es, h => by
    rw [star_cons (h e List.mem_cons_self)]
    have ih := star_all (pos := pos) (env := env) (es := es) fun e he => h e (List.mem_cons_of_mem _ he)
    unfold backTo at ih ⊢
    simpa using ih
theorem plain_base {o : Expr} {m : Str} {env : PySem.Env} {w : Sem Value} (h : plainBase o = true) : attributeBase o m env w = w := by
  unfold attributeBase
  cases o <;> first | rfl | skip
  rename_i f args kws pos
  cases args with
  | nil => simp [plainBase] at h
  | cons a as => cases f <;> rfl
theorem plain_test {e : Expr} {env : PySem.Env} (h : plainTest e = true) (whole : Sem Value) : isTrue e env whole = (do let v ← whole; standAt e.pos; holding [v] (truthy v)) := by
  cases e <;> first | rfl | (simp [plainTest] at h) | skip
  rename_i o x p
  cases o <;> first | rfl | (simp [plainTest] at h)
theorem not_slice {b : Expr} (h : notSlice b = true) : PlainIx b := fun o i => by
  cases b <;> first | rfl | (simp [notSlice] at h)
theorem not_comp {e : Expr} {t : Option Expr} {l : Nat} {env : PySem.Env} (h : notComp e = true) : swapsWith e t l env = pure false := by
  cases e <;> first | rfl | (simp [notComp] at h)
theorem not_set {e : Expr} {env : PySem.Env} (h : notSet e = true) (x : Value) : foldedSetIterable e env x = pure x := by
  cases e <;> first | rfl | (simp [notSet] at h)

/-! ### what holds where a body runs -/
def bltNames : List Str := ["len", "int", "list", "tuple", "sum", "all", "any", "max", "min", "range", "enumerate", "zip", "isinstance", "sorted", "set", "repr", "dict", "bool", "str"]
def spD (K : PySem.W.Frag) (np : Nat) (F : List D → Hs → R D) : Sp := fun vs H Q _ => vs.length = np ∧ ∃ ds S m, RepS K m H S ∧ Reps K m H ds vs ∧ Post K m H (Rep K) (F ds S) Q
structure Good (X : Cx) (T : Tab) (Φ : Nat → List D → Hs → R D) (G : Nat → D) (k : Nat) : Prop where
  calm : X.calm = true
  nd : X.N.Nodup
  room : Room k X.A
  po : PassesOwn (model X.prog X.w) X.A X.env X.xe
  fns : ∀ f x, T.fns[f]? = some x → ∃ a fd ps, X.mg x = some (.ref a) ∧ PySem.W.keepIn X.K (.ref a) = true ∧ Binds X.K fd ps [] ∧ (∀ ds S, Φ f ds S = .no ∨ ds.length = ps.length) ∧ FnOk X.prog X.w X.K X.mg X.base CX0 k a fd ps (spD X.K ps.length (Φ f))
  blt : ∀ x ∈ bltNames, T.fns.contains x = false → T.cons.contains x = false → X.mg x = none
  con : ∀ g x, T.cons[g]? = some x → ∃ u v, X.mg x = some u ∧ RelV v u ∧ ∀ m H, Rep X.K m H (G g) v
structure GC (X : Cx) (c : Cc) : Prop where
  N : X.N = c.N
  sc : X.env.scope = c.sc
  wr : ∀ x, c.wr.contains x = true → Loc X.env.scope x ∧ (X.fn x = true ∨ X.env.scope.names.lookup x = some .local)

variable {Φ : Nat → List D → Hs → R D} {G : Nat → D} {k : Nat}
abbrev mD (Φ : Nat → List D → Hs → R D) (G : Nat → D) (X : Cx) (ir : E) : TE := tD X.K (den Φ G ir)
abbrev mT (Φ : Nat → List D → Hs → R D) (G : Nat → D) (X : Cx) (ir : E) : TT := tDT X.K (den Φ G ir)
abbrev mL (Φ : Nat → List D → Hs → R D) (G : Nat → D) (X : Cx) (ir : E) : TA := tDL X.K (denL Φ G ir)
section
variable {X : Cx} {a b d e : Expr} {ia ib id ie : E} {pos : Pos}

theorem den_of {f : Rho → Hs → R D} {K : PySem.W.Frag} {ρ : Rho} {σ : St} {H : Hp} {S : Hs} {m : List Addr} {Q : VK} (env : EnvR K m H ρ σ) (rs : RepS K m H S) (p : Post K m H (Rep K) (f ρ S) Q) : tD K f σ H Q := ⟨ρ, S, m, env, rs, p⟩
theorem me_var {i : Nat} {x : Str} (hi : X.N[i]? = some x) (hv : Vis X.env.scope x) (hn : nameOk x = true) : PE X (.Name x pos) (mD Φ G X (.var i)) := by
  obtain ⟨h1, h2, _⟩ := nameOk_d hn
  refine PE.mono (pe_var hi hv h1 h2) fun σ H Q ⟨ρ, S, m, env, rs, p⟩ => ?_
  simp only [den] at p
  split at p
  · rename_i dd e
    obtain ⟨v, e1, r⟩ := env.2 i dd e
    exact ⟨v, e1, p.ok0 rs r⟩
  · exact p.elim
theorem me_glb {g : Nat} {x : Str} {u : Value} {v : V} (hg : Gl X x) (hm : X.mg x = some u) (r : RelV v u) (hr : ∀ m H, Rep X.K m H (G g) v) (hn : nameOk x = true) : PE X (.Name x pos) (mD Φ G X (.glb g)) := by
  obtain ⟨h1, _, _⟩ := nameOk_d hn
  refine PE.mono (pe_glob hg hm r h1) fun σ H Q ⟨ρ, S, m, env, rs, p⟩ => ?_
  exact p.ok0 rs (hr m H)
theorem me_non {j} : PE X (.Constant .none j pos) (mD Φ G X .non) := PE.mono pe_non fun σ H Q ⟨ρ, S, m, env, rs, p⟩ => p.ok0 rs (Rep.non_.mpr rfl)
theorem me_bl {bb j} : PE X (.Constant (.bool bb) j pos) (mD Φ G X (.bl bb)) := PE.mono pe_bl fun σ H Q ⟨ρ, S, m, env, rs, p⟩ => p.ok0 rs (Rep.bl_.mpr rfl)
theorem me_int {i j} : PE X (.Constant (.int i) j pos) (mD Φ G X (.int i)) := PE.mono pe_int fun σ H Q ⟨ρ, S, m, env, rs, p⟩ => p.ok0 rs (Rep.int_.mpr rfl)
theorem me_str {x j} : PE X (.Constant (.str x) j pos) (mD Φ G X (.str x)) := PE.mono pe_str fun σ H Q ⟨ρ, S, m, env, rs, p⟩ => p.ok0 rs (Rep.str_.mpr rfl)
theorem ml_nil : PA X [] (mL Φ G X .nil) := PA.mono pa_nil fun σ H Q ⟨ρ, S, m, env, rs, p⟩ => p.ok0 rs (Reps.nil_.mpr rfl)
theorem ml_cons {es : List Expr} {il : E} (hs : notStar e = true) (h1 : PE X e (mD Φ G X ie)) (h2 : PA X es (mL Φ G X il)) : PA X (e :: es) (mL Φ G X (.cons ie il)) := by
  refine PA.mono (pa_cons h1 h2 (star_cons hs)) fun σ H Q ⟨ρ, S, m, env, rs, p⟩ => ?_
  simp only [denL] at p
  refine tG_step env rs p fun m1 H1 S1 x v e1 env1 rs1 r1 p1 => tG_step env1 rs1 p1 fun m2 H2 S2 xs vs e2 env2 rs2 r2 p2 => ?_
  exact p2.ok0 rs2 (Reps.cons_.mpr ⟨v, vs, rfl, Rep.ext e2 x r1, r2⟩)
theorem me_tup {es : List Expr} {x1 : Nat} {il : E} (h : PA X es (mL Φ G X il)) : PE X (.Tuple es x1 pos) (mD Φ G X (.tup il)) := by
  refine PE.mono (pe_tup h) fun σ H Q ⟨ρ, S, m, env, rs, p⟩ => ?_
  simp only [den] at p
  refine tG_step env rs p fun m1 H1 S1 xs vs e1 env1 rs1 r1 p1 => ?_
  obtain ⟨hz, p1⟩ := p1.lim
  exact ⟨by rw [← r1.len]; exact hz, fun q hq => p1.tupNew rs1 r1 hq⟩
theorem me_lst {es : List Expr} {il : E} (h : PA X es (mL Φ G X il)) : PE X (.List es pos) (mD Φ G X (.lst il)) := by
  refine PE.mono (pe_lst h) fun σ H Q ⟨ρ, S, m, env, rs, p⟩ => ?_
  simp only [den] at p
  refine tG_step env rs p fun m1 H1 S1 xs vs e1 env1 rs1 r1 p1 => ?_
  obtain ⟨hz, p1⟩ := p1.lim
  exact ⟨by rw [← r1.len]; exact hz, fun q hq => p1.lstNew rs1 r1 hq⟩
theorem bop_py {o : Operator} {o' : Bop} (h : bopOf o = some o') : o = o'.py := by cases o <;> simp [bopOf] at h <;> subst h <;> rfl
theorem cop_py {o : CmpOp} {o' : Cop} (h : copOf o = some o') : o = o'.py := by cases o <;> simp [copOf] at h <;> subst h <;> rfl
theorem me_bin {o : Operator} {o' : Bop} (ho : bopOf o = some o') (ha : PE X a (mD Φ G X ia)) (hb : PE X b (mD Φ G X ib)) : PE X (.BinOp a o b pos) (mD Φ G X (.bin o' ia ib)) := by
  rw [bop_py ho]
  refine PE.mono (pe_op (op_bin o') ha hb) fun σ H Q ⟨ρ, S, m, env, rs, p⟩ => ?_
  simp only [den] at p
  refine tG_step env rs p fun m1 H1 S1 x v e1 env1 rs1 r1 p1 => tG_step env1 rs1 p1 fun m2 H2 S2 y u e2 env2 rs2 r2 p2 => ?_
  exact ⟨m2, S2, x, y, rs2, Rep.ext e2 x r1, r2, p2⟩
theorem me_neg (ha : PE X a (mD Φ G X ia)) : PE X (.UnaryOp .USub a pos) (mD Φ G X (.neg ia)) := by
  refine PE.mono (pe_un un_neg ha) fun σ H Q ⟨ρ, S, m, env, rs, p⟩ => ?_
  simp only [den] at p
  refine tG_step env rs p fun m1 H1 S1 x v e1 env1 rs1 r1 p1 => ?_
  cases x with
  | int i =>
    rw [Rep.int_] at r1
    exact ⟨i, r1, p1.ok0 rs1 (Rep.int_.mpr rfl)⟩
  | _ => exact p1.elim
theorem me_not (ha : PE X a (mD Φ G X ia)) : PE X (.UnaryOp .Not a pos) (mD Φ G X (.nt ia)) := by
  refine PE.mono (pe_not ha) fun σ H Q ⟨ρ, S, m, env, rs, p⟩ => ?_
  simp only [den] at p
  refine tG_step env rs p fun m1 H1 S1 x v e1 env1 rs1 r1 p1 => ?_
  cases x with
  | bl c =>
    rw [Rep.bl_] at r1
    exact ⟨c, r1, p1.ok0 rs1 (Rep.bl_.mpr rfl)⟩
  | _ => exact p1.elim
theorem me_cmp {o : CmpOp} {o' : Cop} (hu : X.A.units + 64 < cLine) (ho : copOf o = some o') (ha : PE X a (mD Φ G X ia)) (hb : PE X b (mD Φ G X ib)) (hm : behindInMarks o b = false) : PE X (.Compare a [o] [b] pos) (mD Φ G X (.cmp o' ia ib)) := by
  have := cop_py ho
  subst this
  refine PE.mono (pe_cmpR (op_cmp o' hu) ha hb hm) fun σ H Q ⟨ρ, S, m, env, rs, p⟩ => ?_
  simp only [den] at p
  refine tG_step env rs p fun m1 H1 S1 x v e1 env1 rs1 r1 p1 => tG_step env1 rs1 p1 fun m2 H2 S2 y u e2 env2 rs2 r2 p2 => ?_
  exact ⟨m2, S2, x, y, rs2, Rep.ext e2 x r1, r2, p2⟩
/-- a wish about a value, from a wish about a test -/
theorem PostT.val {K : PySem.W.Frag} {m : List Addr} {H : Hp} {r : R D} {Q : Bool → Hp → Prop} (h : PostT K m H r Q) : Post K m H (Rep K) r (fun z H3 => ∃ c, z = .bl c ∧ Q c H3) := by
  cases r with
  | ok d S =>
    obtain ⟨b, rfl, q⟩ := h
    intro v m1 H1 e1 rs1 r1
    rw [Rep.bl_] at r1
    exact ⟨b, r1, q m1 H1 e1 rs1⟩
  | ex => exact h
  | no => exact h
theorem mt_cmp {o : CmpOp} {o' : Cop} (hu : X.A.units + 64 < cLine) (ho : copOf o = some o') (ha : PE X a (mD Φ G X ia)) (hb : PE X b (mD Φ G X ib)) (hm : behindInMarks o b = false) : PT X (.Compare a [o] [b] pos) (mT Φ G X (.cmp o' ia ib)) := by
  have := cop_py ho
  subst this
  refine PT.mono (pt_cmpR (op_cmp o' hu) ha hb hm) fun σ H Q ⟨ρ, S, m, env, rs, p⟩ => ?_
  simp only [den] at p
  refine tG_step env rs p.val fun m1 H1 S1 x v e1 env1 rs1 r1 p1 => tG_step env1 rs1 p1 fun m2 H2 S2 y u e2 env2 rs2 r2 p2 => ?_
  exact ⟨m2, S2, x, y, rs2, Rep.ext e2 x r1, r2, p2⟩
theorem mt_plain (h : PE X e (mD Φ G X ie)) (hp : plainTest e = true) : PT X e (mT Φ G X ie) :=
  PT.mono (pt_val h (plain_test hp)) fun σ H Q ⟨ρ, S, m, env, rs, p⟩ => ⟨ρ, S, m, env, rs, p.val⟩
theorem isN_rep {K : PySem.W.Frag} {m : List Addr} {H : Hp} {x : D} {v : V} (r : Rep K m H x v) : decide (v = .non) = isN x := by
  cases x with
  | non => rw [Rep.non_] at r; subst r; rfl
  | bl => rw [Rep.bl_] at r; subst r; rfl
  | int => rw [Rep.int_] at r; subst r; rfl
  | str => rw [Rep.str_] at r; subst r; rfl
  | tup => rw [Rep.tup_] at r; obtain ⟨_, _, rfl, _⟩ := r; rfl
  | ref => rw [Rep.ref_] at r; obtain ⟨_, _, rfl⟩ := r; rfl
theorem mc_isN {σ : St} {H : Hp} {Q : VK} (h : mD Φ G X (.isN ia) σ H Q) : tIsN (mD Φ G X ia) σ H Q := by
  obtain ⟨ρ, S, m, env, rs, p⟩ := h
  simp only [den] at p
  refine tG_step env rs p fun m1 H1 S1 x v e1 env1 rs1 r1 p1 => ?_
  rw [isN_rep r1]
  exact p1.ok0 rs1 (Rep.bl_.mpr rfl)
theorem mc_nsN {σ : St} {H : Hp} {Q : VK} (h : mD Φ G X (.nsN ia) σ H Q) : tNotN (mD Φ G X ia) σ H Q := by
  obtain ⟨ρ, S, m, env, rs, p⟩ := h
  simp only [den] at p
  refine tG_step env rs p fun m1 H1 S1 x v e1 env1 rs1 r1 p1 => ?_
  rw [isN_rep r1]
  exact p1.ok0 rs1 (Rep.bl_.mpr rfl)
theorem tB_of {t : TE} (h : ∀ σ H Q, mD Φ G X ie σ H Q → t σ H Q) {σ : St} {H : Hp} {Q : Bool → Hp → Prop} (q : mT Φ G X ie σ H Q) : tB t σ H Q := by
  obtain ⟨ρ, S, m, env, rs, p⟩ := q
  exact h σ H _ ⟨ρ, S, m, env, rs, p.val⟩
theorem me_isN {j p'} (ha : PE X a (mD Φ G X ia)) : PE X (.Compare a [.Is] [.Constant .none j p'] pos) (mD Φ G X (.isN ia)) := PE.mono (pe_cmp (pc_isN ha)) fun _ _ _ h => mc_isN h
theorem me_nsN {j p'} (ha : PE X a (mD Φ G X ia)) : PE X (.Compare a [.IsNot] [.Constant .none j p'] pos) (mD Φ G X (.nsN ia)) := PE.mono (pe_cmp (pc_notN ha)) fun _ _ _ h => mc_nsN h
theorem mt_isN {j p'} (ha : PE X a (mD Φ G X ia)) : PT X (.Compare a [.Is] [.Constant .none j p'] pos) (mT Φ G X (.isN ia)) := PT.mono (pt_cmp (pc_isN ha)) fun _ _ _ h => tB_of (fun _ _ _ h => mc_isN h) h
theorem mt_nsN {j p'} (ha : PE X a (mD Φ G X ia)) : PT X (.Compare a [.IsNot] [.Constant .none j p'] pos) (mT Φ G X (.nsN ia)) := PT.mono (pt_cmp (pc_notN ha)) fun _ _ _ h => tB_of (fun _ _ _ h => mc_nsN h) h
theorem chain_of {o p : Cop} {σ : St} {H : Hp} {Q : VK} (h : mD Φ G X (.chn o p ia ib id) σ H Q) : tChain (rCmp X.K o) (rCmp X.K p) (mD Φ G X ia) (mD Φ G X ib) (mD Φ G X id) σ H Q := by
  obtain ⟨ρ, S, m, env, rs, q⟩ := h
  simp only [den] at q
  refine tG_step env rs q fun m1 H1 S1 x v e1 env1 rs1 r1 p1 => tG_step env1 rs1 p1 fun m2 H2 S2 y u e2 env2 rs2 r2 p2 => ?_
  refine ⟨m2, S2, x, y, rs2, Rep.ext e2 x r1, r2, p2.bind fun m3 H3 S3 kk z e3 rs3 r3 p3 => ?_⟩
  cases kk with
  | bl c =>
    rw [Rep.bl_] at r3
    refine ⟨c, r3, ?_⟩
    cases c with
    | true =>
      rw [if_pos rfl]
      refine tG_step (env2.ext e3) rs3 p3 fun m4 H4 S4 w' w e4 env4 rs4 r4 p4 => ?_
      exact ⟨m4, S4, y, w', rs4, Rep.ext (e3.trans e4) y r2, r4, p4⟩
    | false =>
      rw [if_neg Bool.false_ne_true]
      exact p3.ok0 rs3 (Rep.bl_.mpr rfl)
  | _ => exact p3.elim
theorem me_chn {o p : CmpOp} {o' p' : Cop} (hu : X.A.units + 64 < cLine) (ho : copOf o = some o') (hp : copOf p = some p') (ha : PE X a (mD Φ G X ia)) (hb : PE X b (mD Φ G X ib)) (hd : PE X d (mD Φ G X id)) (hm : lastMarks [o, p] [b, d] = false) : PE X (.Compare a [o, p] [b, d] pos) (mD Φ G X (.chn o' p' ia ib id)) := by
  have e1 := cop_py ho
  have e2 := cop_py hp
  subst e1 e2
  exact PE.mono (pe_chain (op_cmp o' hu) (op_cmp p' hu) ha hb hd hm) fun σ H Q h => chain_of h
theorem mt_chn {o p : CmpOp} {o' p' : Cop} (hu : X.A.units + 64 < cLine) (ho : copOf o = some o') (hp : copOf p = some p') (ha : PE X a (mD Φ G X ia)) (hb : PE X b (mD Φ G X ib)) (hd : PE X d (mD Φ G X id)) (hm : lastMarks [o, p] [b, d] = false) : PT X (.Compare a [o, p] [b, d] pos) (mT Φ G X (.chn o' p' ia ib id)) := by
  have e1 := cop_py ho
  have e2 := cop_py hp
  subst e1 e2
  exact PT.mono (pt_chain (op_cmp o' hu) (op_cmp p' hu) ha hb hd hm) fun σ H Q ⟨ρ, S, m, env, rs, q⟩ => chain_of ⟨ρ, S, m, env, rs, q.val⟩
/-! and, or, not -/
theorem me_and {es : List Expr} (ha : PE X a (mD Φ G X ia)) (hb : PE X (.BoolOp .And (b :: es) pos) (mD Φ G X ib)) : PE X (.BoolOp .And (a :: b :: es) pos) (mD Φ G X (.and ia ib)) := by
  refine PE.mono (pe_and ha hb) fun σ H Q ⟨ρ, S, m, env, rs, p⟩ => ?_
  simp only [den] at p
  refine tG_step env rs p fun m1 H1 S1 x v e1 env1 rs1 r1 p1 => ?_
  cases x with
  | bl c =>
    rw [Rep.bl_] at r1
    refine ⟨c, r1, ?_⟩
    cases c with
    | true => rw [if_pos rfl]; exact ⟨ρ, S1, m1, env1, rs1, p1⟩
    | false => rw [if_neg Bool.false_ne_true]; exact p1.ok0 rs1 (Rep.bl_.mpr rfl)
  | _ => exact p1.elim
theorem me_or {es : List Expr} (ha : PE X a (mD Φ G X ia)) (hb : PE X (.BoolOp .Or (b :: es) pos) (mD Φ G X ib)) : PE X (.BoolOp .Or (a :: b :: es) pos) (mD Φ G X (.or ia ib)) := by
  refine PE.mono (pe_or ha hb) fun σ H Q ⟨ρ, S, m, env, rs, p⟩ => ?_
  simp only [den] at p
  refine tG_step env rs p fun m1 H1 S1 x v e1 env1 rs1 r1 p1 => ?_
  cases x with
  | bl c =>
    rw [Rep.bl_] at r1
    refine ⟨c, r1, ?_⟩
    cases c with
    | true => rw [if_pos rfl]; exact p1.ok0 rs1 (Rep.bl_.mpr rfl)
    | false => rw [if_neg Bool.false_ne_true]; exact ⟨ρ, S1, m1, env1, rs1, p1⟩
  | _ => exact p1.elim
theorem PostT.ok0 {K : PySem.W.Frag} {m : List Addr} {H : Hp} {S : Hs} {c : Bool} {Q : Bool → Hp → Prop} (h : PostT K m H (.ok (.bl c) S) Q) (rs : RepS K m H S) : Q c H := by
  obtain ⟨b, e, q⟩ := h
  cases e
  exact q m H (Ext.refl m H) rs
theorem mw_and {es : List Expr} (ha : PT X a (mT Φ G X ia)) (hb : PW X (.BoolOp .And (b :: es) pos) (mT Φ G X ib)) : PW X (.BoolOp .And (a :: b :: es) pos) (mT Φ G X (.and ia ib)) := by
  refine PW.mono (pw_and ha hb) fun σ H Q ⟨ρ, S, m, env, rs, p⟩ => ?_
  simp only [den] at p
  refine tT_stepT env rs p fun m1 H1 S1 c e1 env1 rs1 p1 => ?_
  cases c with
  | true => rw [if_pos rfl] at p1 ⊢; exact ⟨ρ, S1, m1, env1, rs1, p1⟩
  | false => rw [if_neg Bool.false_ne_true] at p1 ⊢; exact p1.ok0 rs1
theorem mw_or {es : List Expr} (ha : PT X a (mT Φ G X ia)) (hb : PW X (.BoolOp .Or (b :: es) pos) (mT Φ G X ib)) : PW X (.BoolOp .Or (a :: b :: es) pos) (mT Φ G X (.or ia ib)) := by
  refine PW.mono (pw_or ha hb) fun σ H Q ⟨ρ, S, m, env, rs, p⟩ => ?_
  simp only [den] at p
  refine tT_stepT env rs p fun m1 H1 S1 c e1 env1 rs1 p1 => ?_
  cases c with
  | true => rw [if_pos rfl] at p1 ⊢; exact p1.ok0 rs1
  | false => rw [if_neg Bool.false_ne_true] at p1 ⊢; exact ⟨ρ, S1, m1, env1, rs1, p1⟩
theorem mt_not (ha : PT X a (mT Φ G X ia)) : PT X (.UnaryOp .Not a pos) (mT Φ G X (.nt ia)) := by
  refine PT.mono (pt_not ha) fun σ H Q ⟨ρ, S, m, env, rs, p⟩ => ?_
  simp only [den] at p
  refine ⟨ρ, S, m, env, rs, ?_⟩
  cases e : den Φ G ia ρ S with
  | ok d S1 =>
    rw [e] at p
    simp only [R.bind_ok] at p
    cases d with
    | bl c =>
      obtain ⟨b, e2, q⟩ := p
      cases e2
      exact ⟨c, rfl, q⟩
    | _ => exact p.elim
  | ex => rw [e] at p; exact p
  | no => rw [e] at p; exact p
theorem me_ife {t : Expr} {it : E} (ht : PT X t (mT Φ G X it)) (ha : PE X a (mD Φ G X ia)) (hb : PE X b (mD Φ G X ib)) : PE X (.IfExp t a b pos) (mD Φ G X (.ife it ia ib)) := by
  refine PE.mono (pe_ifExp ht ha hb) fun σ H Q ⟨ρ, S, m, env, rs, p⟩ => ?_
  simp only [den] at p
  refine tT_step env rs p fun m1 H1 S1 c e1 env1 rs1 p1 => ?_
  cases c with
  | true => rw [if_pos rfl] at p1 ⊢; exact ⟨ρ, S1, m1, env1, rs1, p1⟩
  | false => rw [if_neg Bool.false_ne_true] at p1 ⊢; exact ⟨ρ, S1, m1, env1, rs1, p1⟩
end
end RS

namespace RS
open PySem PySem.Spec L2
variable {Φ : Nat → List D → Hs → R D} {G : Nat → D} {k : Nat}
/-! ### isinstance -/
def Ty.py : Ty → String
  | .int => "int" | .bool => "bool" | .str => "str" | .tuple => "tuple" | .list => "list" | .dict => "dict" | .cls _ => "object"
def Ty.plain : Ty → Bool
  | .cls _ => false
  | _ => true
section
variable {K : PySem.W.Frag} {m : List Addr} {H : Hp} {S : Hs}
theorem tup_tyX {a : Addr} {xs : List V} (t : TupAt K H a xs) : TyX K H (.ref a) (.type "tuple") := by
  rcases t with t | ⟨o, its, n, h1, h2, _⟩
  · exact .base (.tup t)
  · exact .kTuple h1 h2
/-- the type of a value, and the answers for it -/
theorem tyX_rep (rs : RepS K m H S) {d : D} {v : V} (r : Rep K m H d v) {t : Ty} (hp : t.plain = true) {b : Bool} (h : tyIs S d t = some b) : ∃ u, TyX K H v u ∧ PySem.W.kitOne K u (.type t.py) = some b ∧ ∀ t', t'.plain = true → ∀ b', tyIs S d t' = some b' → PySem.W.kitOne K u (.type t'.py) = some b' := by
  have gen : ∀ (nm : String) (f : Ty → Bool), TyX K H v (.type nm) → (∀ t', t'.plain = true → kitB nm t'.py = some (f t')) → (∀ t', t'.plain = true → ∀ b', tyIs S d t' = some b' → b' = f t') → ∃ u, TyX K H v u ∧ PySem.W.kitOne K u (.type t.py) = some b ∧ ∀ t', t'.plain = true → ∀ b', tyIs S d t' = some b' → PySem.W.kitOne K u (.type t'.py) = some b' :=
    fun nm f h1 h2 h3 => ⟨.type nm, h1, kit_ty (by rw [h2 t hp, h3 t hp b h]), fun t' hp' b' h' => kit_ty (by rw [h2 t' hp', h3 t' hp' b' h'])⟩
  cases d with
  | non =>
    rw [Rep.non_] at r
    subst r
    exact gen "NoneType" (fun _ => false) (.base .non) (fun t' hp' => by cases t' <;> first | decide +kernel | (simp [Ty.plain] at hp')) (fun t' hp' b' h' => by cases t' <;> simp [tyIs, Ty.plain] at h' hp' <;> simp [h'])
  | bl c =>
    rw [Rep.bl_] at r
    subst r
    exact gen "bool" (fun t => match t with | .int => true | .bool => true | _ => false) (.base (.bl c)) (fun t' hp' => by cases t' <;> first | decide +kernel | (simp [Ty.plain] at hp')) (fun t' hp' b' h' => by cases t' <;> simp [tyIs, Ty.plain] at h' hp' <;> simp [h'])
  | int i =>
    rw [Rep.int_] at r
    subst r
    exact gen "int" (fun t => match t with | .int => true | _ => false) (.base (.int i)) (fun t' hp' => by cases t' <;> first | decide +kernel | (simp [Ty.plain] at hp')) (fun t' hp' b' h' => by cases t' <;> simp [tyIs, Ty.plain] at h' hp' <;> simp [h'])
  | str x =>
    rw [Rep.str_] at r
    subst r
    exact gen "str" (fun t => match t with | .str => true | _ => false) (.base (.str x)) (fun t' hp' => by cases t' <;> first | decide +kernel | (simp [Ty.plain] at hp')) (fun t' hp' b' h' => by cases t' <;> simp [tyIs, Ty.plain] at h' hp' <;> simp [h'])
  | tup ds =>
    rw [Rep.tup_] at r
    obtain ⟨a, xs, rfl, t, _⟩ := r
    exact gen "tuple" (fun t => match t with | .tuple => true | _ => false) (tup_tyX t) (fun t' hp' => by cases t' <;> first | decide +kernel | (simp [Ty.plain] at hp')) (fun t' hp' b' h' => by cases t' <;> simp [tyIs, Ty.plain] at h' hp' <;> simp [h'])
  | ref n =>
    rw [Rep.ref_] at r
    obtain ⟨a, e, rfl⟩ := r
    have hn : n < S.length := by rw [← rs.len]; exact (List.getElem?_eq_some_iff.mp e).1
    have ho := rs.obj n _ a (List.getElem?_eq_getElem hn) e
    have es : S[n]? = some S[n] := List.getElem?_eq_getElem hn
    revert ho es
    generalize S[n] = o
    intro ho es
    have ls : ∀ t', t'.plain = true → ∀ b', (∃ ds, o = .lst ds) ∨ (∃ ds, o = .scr ds) → tyIs S (.ref n) t' = some b' → b' = (match t' with | .list => true | _ => false) := by
      intro t' hp' b' ho h'
      rcases ho with ⟨ds, rfl⟩ | ⟨ds, rfl⟩ <;> cases t' <;> simp [tyIs, Ty.plain, es] at h' hp' <;> simp [h']
    cases o with
    | lst ds =>
      obtain ⟨xs, h1, _⟩ := ho
      exact gen "list" (fun t => match t with | .list => true | _ => false) (.base (.lst h1)) (fun t' hp' => by cases t' <;> first | decide +kernel | (simp [Ty.plain] at hp')) (fun t' hp' b' h' => ls t' hp' b' (.inl ⟨_, rfl⟩) h')
    | scr ds =>
      obtain ⟨ob, xs, h1, _⟩ := ho
      exact gen "list" (fun t => match t with | .list => true | _ => false) (.base (.frz h1)) (fun t' hp' => by cases t' <;> first | decide +kernel | (simp [Ty.plain] at hp')) (fun t' hp' b' h' => ls t' hp' b' (.inr ⟨_, rfl⟩) h')
    | dct _ => exact ho.elim
    | dlk _ => exact ho.elim
    | ins _ _ => exact ho.elim
theorem kits (u : Value) : ∀ {ts : List Ty} {d : D} {b : Bool}, (∀ t ∈ ts, t.plain = true) → (∀ t', t'.plain = true → ∀ b', tyIs S d t' = some b' → PySem.W.kitOne K u (.type t'.py) = some b') → tysAre S d ts = some b → PySem.W.kitAny K u (ts.map fun t => .type t.py) = some b
  | [], d, b, _, _, h => by simp [tysAre] at h; subst h; rfl
  | t :: ts, d, b, hp, hk, h => by
    simp only [tysAre] at h
    split at h
    · rename_i x y h1 h2
      cases h
      have q1 := hk t (hp t List.mem_cons_self) x h1
      have q2 := kits u (fun t' ht => hp t' (List.mem_cons_of_mem _ ht)) hk h2
      simp only [List.map_cons, PySem.W.kitAny, q1]
      cases x with
      | true => rfl
      | false => simpa using q2
    · cases h
end
section
variable {X : Cx} {a b d e : Expr} {ia ib id ie : E} {pos p : Pos} {es : List Expr} {il : E}
/-- a class by its name -/
theorem tyName_is {c : Cc} {e : Expr} {t : Ty} (gc : GC X c) (g : Good X c.T Φ G k) (h : tyName c e = some t) : t.plain = true ∧ notStar e = true ∧ PE X e (tC (.ty t.py)) := by
  cases e with
  | Name x p =>
    simp only [tyName] at h
    split at h
    · rename_i hb
      simp only [bltB, Bool.and_eq_true, Bool.not_eq_true'] at hb
      obtain ⟨⟨hg, hf⟩, hc⟩ := hb
      rw [← gc.sc] at hg
      unfold tyOf at h
      split at h
      · rename_i e; subst e; cases h
        exact ⟨rfl, rfl, pe_bltn (glB_gl hg) (g.blt _ (by decide +kernel) hf hc) (v := .ty "int") (u := .type "int") (by first | exact PyProof.Rows.boot_int | exact PySem.boot_int) rfl⟩
      · split at h
        · rename_i e; subst e; cases h
          exact ⟨rfl, rfl, pe_bltn (glB_gl hg) (g.blt _ (by decide +kernel) hf hc) (v := .ty "bool") (u := .type "bool") (by first | exact PyProof.Rows.boot_bool | exact PySem.boot_bool) rfl⟩
        · split at h
          · rename_i e; subst e; cases h
            exact ⟨rfl, rfl, pe_bltn (glB_gl hg) (g.blt _ (by decide +kernel) hf hc) (v := .ty "str") (u := .type "str") (by first | exact PyProof.Rows.boot_str | exact PySem.boot_str) rfl⟩
          · split at h
            · rename_i e; subst e; cases h
              exact ⟨rfl, rfl, pe_bltn (glB_gl hg) (g.blt _ (by decide +kernel) hf hc) (v := .ty "tuple") (u := .type "tuple") (by first | exact PyProof.Rows.boot_tuple | exact PySem.boot_tuple) rfl⟩
            · split at h
              · rename_i e; subst e; cases h
                exact ⟨rfl, rfl, pe_bltn (glB_gl hg) (g.blt _ (by decide +kernel) hf hc) (v := .ty "list") (u := .type "list") (by first | exact PyProof.Rows.boot_list | exact PySem.boot_list) rfl⟩
              · split at h
                · rename_i e; subst e; cases h
                  exact ⟨rfl, rfl, pe_bltn (glB_gl hg) (g.blt _ (by decide +kernel) hf hc) (v := .ty "dict") (u := .type "dict") (by first | exact PyProof.Rows.boot_dict | exact PySem.boot_dict) rfl⟩
                · cases h
    · cases h
  | _ => simp [tyName] at h
/-- the classes of a written tuple -/
def tTys (ts : List Ty) : TA := fun _ H Q => Q (ts.map fun t => V.ty t.py) H
theorem tyNames_are {c : Cc} (gc : GC X c) (g : Good X c.T Φ G k) : ∀ {es : List Expr} {ts : List Ty}, tyNames c es = some ts → (∀ t ∈ ts, t.plain = true) ∧ PA X es (tTys ts)
  | [], ts, h => by simp [tyNames] at h; subst h; exact ⟨fun _ h => by (cases h), PA.mono pa_nil fun _ _ _ q => q⟩
  | e :: es, ts, h => by
    simp only [tyNames] at h
    split at h
    · rename_i t ts' h1 h2
      cases h
      obtain ⟨p1, s1, q1⟩ := tyName_is gc g h1
      obtain ⟨p2, q2⟩ := tyNames_are gc g h2
      refine ⟨fun t' ht => ?_, PA.mono (pa_cons q1 q2 (star_cons s1)) fun _ _ _ q => q⟩
      rcases List.mem_cons.mp ht with rfl | ht
      · exact p1
      · exact p2 _ ht
    · cases h
theorem clsVs : ∀ (ts : List Ty), Paired ClsV (ts.map fun t => V.ty t.py) (ts.map fun t => Value.type t.py)
  | [] => .nil
  | t :: ts => .cons (.ty _) (clsVs ts)
theorem me_isi1 {c : Cc} {t : Ty} (gc : GC X c) (g : Good X c.T Φ G k) (hg : Gl X "isinstance") (hm : X.mg "isinstance" = none) (hs : notStar a = true) (ha : PE X a (mD Φ G X ia)) (ht : tyName c e = some t) : PE X (.Call (.Name "isinstance" p) [a, e] [] pos) (mD Φ G X (.isi [t] ia)) := by
  obtain ⟨hp, s1, he⟩ := tyName_is gc g ht
  refine PE.mono (pe_callB call_isi hg hm (by first | exact PyProof.Rows.boot_isinstance | exact PySem.boot_isinstance) (pa_cons ha (pa_cons he pa_nil (star_cons s1)) (star_cons hs)) (by decide) (by decide) (star_cons hs) (star_any fun e' he' => by simp at he'; rw [he']; exact s1)) fun σ H Q ⟨ρ, S, m, env, rs, q⟩ => ?_
  simp only [den] at q
  refine tG_step env rs q fun m1 H1 S1 x v e1 env1 rs1 r1 p1 => ?_
  split at p1
  · rename_i bb hb
    have hb1 : tyIs S1 x t = some bb := by
      simp only [tysAre] at hb
      split at hb
      · rename_i x1 y1 h1 h2
        cases h2
        cases hb
        rw [h1]; simp
      · cases hb
    obtain ⟨u, ty, hk, _⟩ := tyX_rep rs1 r1 hp hb1
    exact ⟨v, .ty t.py, u, .type t.py, bb, rfl, .ty _, ty, hk, p1.ok0 rs1 (Rep.bl_.mpr rfl)⟩
  · exact p1.elim
theorem me_isiT {c : Cc} {ts : List Ty} {x1 : Nat} {p2 : Pos} (gc : GC X c) (g : Good X c.T Φ G k) (hg : Gl X "isinstance") (hm : X.mg "isinstance" = none) (hs : notStar a = true) (ha : PE X a (mD Φ G X ia)) (ht : tyNames c es = some ts) (hne : ts ≠ []) (hz : ts.length ≤ 1000) : PE X (.Call (.Name "isinstance" p) [a, .Tuple es x1 p2] [] pos) (mD Φ G X (.isi ts ia)) := by
  obtain ⟨hp, he⟩ := tyNames_are gc g ht
  refine PE.mono (pe_callB call_isiT hg hm (by first | exact PyProof.Rows.boot_isinstance | exact PySem.boot_isinstance) (pa_cons ha (pa_cons (pe_tup he) pa_nil (star_cons rfl)) (star_cons hs)) (by decide) (by decide) (star_cons hs) (star_any fun e' he' => by simp at he'; rw [he']; rfl)) fun σ H Q ⟨ρ, S, m, env, rs, q⟩ => ?_
  simp only [den] at q
  refine tG_step env rs q fun m1 H1 S1 x v e1 env1 rs1 r1 p1 => ?_
  refine ⟨by rw [List.length_map]; exact Nat.le_trans hz (by decide), fun t hT => ?_⟩
  split at p1
  · rename_i bb hb
    have rs2 := rs1.tupNew (o := HO.tup (ts.map fun t => V.ty t.py)) hT
    have r2 := Rep.ext (Ext.tupNew (o := HO.tup (ts.map fun t => V.ty t.py)) rs1 hT) x r1
    cases ts with
    | nil => exact absurd rfl hne
    | cons t0 ts =>
      have hb0 : ∃ b0, tyIs S1 x t0 = some b0 := by
        simp only [tysAre] at hb
        split at hb
        · rename_i x1 y1 h1 h2
          exact ⟨_, h1⟩
        · cases hb
      obtain ⟨b0, hb0⟩ := hb0
      obtain ⟨u, ty, _, hk⟩ := tyX_rep rs2 r2 (hp t0 List.mem_cons_self) hb0
      refine ⟨v, t, _, u, _, bb, rfl, upd_same, clsVs _, ty, kits u hp hk hb, ?_⟩
      exact p1.ok (Ext.tupNew rs1 hT) rs2 (Rep.bl_.mpr rfl)
  · exact p1.elim

/-! ### calls of built-ins -/
theorem me_biB {f : Bi} {x : Str} {idn : String} (hc : CallR X (.builtin idn) (rBi X.K f)) (hg : Gl X x) (hm : X.mg x = none) (hv : bootBuiltins x = some (.builtin idn)) (hn : nameOk x = true) (hs : noStars (e :: es)) (h : PA X (e :: es) (mL Φ G X il)) :
    PE X (.Call (.Name x p) (e :: es) [] pos) (mD Φ G X (.bi f il)) := by
  obtain ⟨h1, _, h3⟩ := nameOk_d hn
  refine PE.mono (pe_callB hc hg hm hv h h3 h1 (star_cons (hs e List.mem_cons_self)) (star_any fun e' he' => hs e' (List.mem_cons_of_mem _ he'))) fun σ H Q ⟨ρ, S, m, env, rs, q⟩ => ?_
  simp only [den] at q
  exact tG_step env rs q fun m1 H1 S1 ds vs e1 env1 rs1 r1 p1 => ⟨m1, S1, ds, rs1, r1, p1⟩
theorem me_biT {f : Bi} {x : Str} {T : String} (hc : CallR X (.type T) (rBi X.K f)) (hg : Gl X x) (hm : X.mg x = none) (hv : bootBuiltins x = some (.type T)) (hn : nameOk x = true) (hs : noStars (e :: es)) (h : PA X (e :: es) (mL Φ G X il)) :
    PE X (.Call (.Name x p) (e :: es) [] pos) (mD Φ G X (.bi f il)) := by
  obtain ⟨h1, _, h3⟩ := nameOk_d hn
  refine PE.mono (pe_callTy hc hg hm hv h h3 h1 (star_cons (hs e List.mem_cons_self)) (star_any fun e' he' => hs e' (List.mem_cons_of_mem _ he'))) fun σ H Q ⟨ρ, S, m, env, rs, q⟩ => ?_
  simp only [den] at q
  exact tG_step env rs q fun m1 H1 S1 ds vs e1 env1 rs1 r1 p1 => ⟨m1, S1, ds, rs1, r1, p1⟩
theorem me_cal0 {T : Tab} {f : Nat} {x : Str} (g : Good X T Φ G k) (hf : T.fns[f]? = some x) (hg : Gl X x) (hn : nameOk x = true) : PE X (.Call (.Name x p) [] [] pos) (mD Φ G X (.cal f .nil)) := by
  obtain ⟨h1, _, _⟩ := nameOk_d hn
  obtain ⟨ad, fd, ps, hm, hk, hb, hl, F⟩ := g.fns f x hf
  refine PE.mono (pe_call0 F g.room hg hm hk hb .nil pass0 h1) fun σ H Q ⟨ρ, S, m, env, rs, q⟩ => ?_
  simp only [den, denL, R.bind_ok] at q
  show spD X.K ps.length (Φ f) [] H Q E0
  rcases hl [] S with z | z
  · rw [z] at q; exact q.elim
  · exact ⟨z, [], S, m, rs, Reps.nil_.mpr rfl, q⟩
theorem me_cal {T : Tab} {f : Nat} {x : Str} (g : Good X T Φ G k) (hf : T.fns[f]? = some x) (hg : Gl X x) (hn : nameOk x = true) (hs : noStars (e :: es)) (h : PA X (e :: es) (mL Φ G X il)) : PE X (.Call (.Name x p) (e :: es) [] pos) (mD Φ G X (.cal f il)) := by
  obtain ⟨h1, _, _⟩ := nameOk_d hn
  obtain ⟨ad, fd, ps, hm, hk, hb, hl, F⟩ := g.fns f x hf
  refine PE.mono (pe_call F g.room hg hm hk hb .nil pass0 h h1 (star_cons (hs e List.mem_cons_self)) (star_any fun e he => hs e (List.mem_cons_of_mem _ he))) fun σ H Q ⟨ρ, S, m, env, rs, q⟩ => ?_
  simp only [den] at q
  refine tG_step env rs q fun m1 H1 S1 ds vs e1 env1 rs1 r1 p1 => ?_
  rw [List.append_nil]
  rcases hl ds S1 with z | z
  · rw [z] at p1; exact p1.elim
  · exact ⟨by rw [← r1.len]; exact z, ds, S1, m1, rs1, r1, p1⟩

/-! ### methods of lists and texts -/
/-- what the receiver must be -/
theorem mtK_tyV {K : PySem.W.Frag} {m : List Addr} {H : Hp} {S : Hs} (rs : RepS K m H S) {x : D} {v : V} (r : Rep K m H x v) {mt : Mt} (h : mtK S mt x = true) : (mt = .join → tyV K "str" v H) ∧ (mt ≠ .join → tyV K "list" v H) := by
  have ls : ∀ n, x = .ref n → (lstAt S n).isSome = true → tyV K "list" v H := by
    intro n hx hs
    subst hx
    obtain ⟨xs, e⟩ := Option.isSome_iff_exists.mp hs
    obtain ⟨a, vs, rfl, _, h2, _⟩ := lstAt_rep rs r e
    exact .inl ⟨rfl, vs, SqL.of h2⟩
  cases mt <;> cases x <;> simp [mtK] at h <;> refine ⟨fun e => ?_, fun e => ?_⟩ <;> first | (exact absurd e (by decide)) | (exact ls _ rfl h) | skip
  rw [Rep.str_] at r
  subst r
  rfl
theorem few_ok {es : List Expr} {e : Expr} {pos : Pos} {env : PySem.Env} (hs : noStars (e :: es)) (hn : es.length ≤ 1) : ((backTo pos (starEach (e :: es) env)).all (fun x => !x.1) && (backToKw pos (keywordEach [] env)).all (fun x => x.1.isSome) && decide ((e :: es).length + ([] : List Keyword).length + (if ([] : List Keyword).isEmpty then 0 else 1) < 30)) = true := by
  rw [star_all hs]
  simp only [Bool.true_and, Bool.and_eq_true, decide_eq_true_eq]
  refine ⟨rfl, ?_⟩
  simp only [List.length_cons, List.length_nil, List.isEmpty_nil, if_true]
  omega
theorem me_mt {mt : Mt} {nm : Str} {T idn : String} {apos : Pos} (pa : PlainAttrs T) (slot : Slot T nm idn) (hty : typeOf (.builtin idn) = pure (.type "method_descriptor")) (hm : MtR X idn (rMt X.K mt)) (hT : (mt = .join ∧ T = "str") ∨ (mt ≠ .join ∧ T = "list"))
    (ho : PE X a (mD Φ G X ia)) (hb : plainBase a = true) (hl : (apos.endLine == pos.line) = true) (hs : noStars (e :: es)) (hn : es.length ≤ 1) (h : PA X (e :: es) (mL Φ G X il)) :
    PE X (.Call (.Attribute a nm apos) (e :: es) [] pos) (mD Φ G X (.mth mt ia il)) := by
  refine PE.mono (pe_bm pa slot hty hm ho h (plain_base hb) (few_ok hs hn) hl (star_cons (hs e List.mem_cons_self)) (star_any fun e' he' => hs e' (List.mem_cons_of_mem _ he'))) fun σ H Q ⟨ρ, S, m, env, rs, q⟩ => ?_
  simp only [den] at q
  refine tG_step env rs q fun m1 H1 S1 x v e1 env1 rs1 r1 p1 => ?_
  obtain ⟨hk, p1⟩ := p1.ite
  obtain ⟨t1, t2⟩ := mtK_tyV rs1 r1 hk
  refine ⟨?_, tG_step env1 rs1 p1 fun m2 H2 S2 ds vs e2 env2 rs2 r2 p2 => ⟨m2, S2, x, ds, rs2, Rep.ext e2 x r1, r2, p2⟩⟩
  rcases hT with ⟨h1, rfl⟩ | ⟨h1, rfl⟩
  · exact t1 h1
  · exact t2 h1
theorem me_mt0 {mt : Mt} {nm : Str} {T idn : String} {apos : Pos} (pa : PlainAttrs T) (slot : Slot T nm idn) (hty : typeOf (.builtin idn) = pure (.type "method_descriptor")) (hm : MtR X idn (rMt X.K mt)) (hT : (mt = .join ∧ T = "str") ∨ (mt ≠ .join ∧ T = "list"))
    (ho : PE X a (mD Φ G X ia)) (hb : plainBase a = true) (hl : (apos.endLine == pos.line) = true) :
    PE X (.Call (.Attribute a nm apos) [] [] pos) (mD Φ G X (.mth mt ia .nil)) := by
  refine PE.mono (pe_bm0 pa slot hty hm ho (plain_base hb) hl) fun σ H Q ⟨ρ, S, m, env, rs, q⟩ => ?_
  simp only [den, denL, R.bind_ok] at q
  refine tG_step env rs q fun m1 H1 S1 x v e1 env1 rs1 r1 p1 => ?_
  obtain ⟨hk, p1⟩ := p1.ite
  obtain ⟨t1, t2⟩ := mtK_tyV rs1 r1 hk
  refine ⟨?_, m1, S1, x, [], rs1, r1, Reps.nil_.mpr rfl, p1⟩
  rcases hT with ⟨h1, rfl⟩ | ⟨h1, rfl⟩
  · exact t1 h1
  · exact t2 h1

/-! ### subscripts -/
theorem me_ix (ha : PE X a (mD Φ G X ia)) (hb : PE X b (mD Φ G X ib)) (hs : notSlice b = true) : PE X (.Subscript a b pos) (mD Φ G X (.ix ia ib)) := by
  refine PE.mono (pe_ix ix_D ha hb (not_slice hs)) fun σ H Q ⟨ρ, S, m, env, rs, p⟩ => ?_
  simp only [den] at p
  refine tG_step env rs p fun m1 H1 S1 x v e1 env1 rs1 r1 p1 => tG_step env1 rs1 p1 fun m2 H2 S2 y u e2 env2 rs2 r2 p2 => ?_
  exact ⟨m2, S2, x, y, rs2, Rep.ext e2 x r1, r2, p2⟩
/-- a slice's end -/
def relO : List Addr → Hp → Option Int → Option Int → Prop := fun _ _ a b => a = b
abbrev mO (Φ : Nat → List D → Hs → R D) (G : Nat → D) (X : Cx) (ir : E) : TO := tG X.K relO (denO Φ G ir)
theorem mo_none : PO X none (mO Φ G X .nil) := ⟨fun pins s σ H Q I h => po_none.run pins s σ H Q I (by
  obtain ⟨ρ, S, m, env, rs, p⟩ := h
  exact p.ok0 rs rfl)⟩
theorem mo_some (ha : PE X a (mD Φ G X ia)) : PO X (some a) (mO Φ G X (.cons ia .nil)) := ⟨fun pins s σ H Q I h => (po_some ha).run pins s σ H Q I (by
  obtain ⟨ρ, S, m, env, rs, p⟩ := h
  simp only [denO] at p
  refine tG_step env rs p fun m1 H1 S1 x v e1 env1 rs1 r1 p1 => ?_
  cases x with
  | int i =>
    rw [Rep.int_] at r1
    exact ⟨i, r1, p1.ok0 rs1 rfl⟩
  | _ => exact p1.elim)⟩
theorem me_sl {lo hi : Option Expr} {il ih : E} {p2 : Pos} (ha : PE X a (mD Φ G X ia)) (hl : PO X lo (mO Φ G X il)) (hh : PO X hi (mO Φ G X ih)) : PE X (.Subscript a (.Slice lo hi none p2) pos) (mD Φ G X (.sl ia il ih)) := by
  refine PE.mono (pe_slice sl_D ha hl hh) fun σ H Q ⟨ρ, S, m, env, rs, p⟩ => ?_
  simp only [den] at p
  refine tG_step env rs p fun m1 H1 S1 x v e1 env1 rs1 r1 p1 => tG_step (relF := relO) env1 rs1 p1 fun m2 H2 S2 l l' e2 env2 rs2 r2 p2 => tG_step (relF := relO) env2 rs2 p2 fun m3 H3 S3 h h' e3 env3 rs3 r3 p3 => ?_
  cases r2
  cases r3
  exact ⟨m3, S3, x, rs3, Rep.ext (e2.trans e3) x r1, p3⟩
theorem me_rvs {kk : Nat} {p1 p2 p3 : Pos} (ha : PE X a (mD Φ G X ia)) : PE X (.Subscript a (.Slice none none (some (.UnaryOp .USub (.Constant (.int 1) kk p1) p2)) p3) pos) (mD Φ G X (.rvs ia)) := by
  refine PE.mono (pe_revL ha) fun σ H Q ⟨ρ, S, m, env, rs, p⟩ => ?_
  simp only [den] at p
  refine tG_step env rs p fun m1 H1 S1 x v e1 env1 rs1 r1 q1 => ?_
  cases x with
  | ref n =>
    simp only [rvD] at q1
    split at q1
    · rename_i ds e
      obtain ⟨q, xs, rfl, hq, r⟩ := seqL_rep rs1 r1 e
      exact ⟨q, xs, rfl, hq, fun w hw => q1.lstNew rs1 r.reverse hw⟩
    · exact q1.elim
  | _ => exact q1.elim
end

/-! ### targets -/
def relE (K : PySem.W.Frag) (σ0 : St) (sl : List Nat) : List Addr → Hp → Rho → St → Prop := fun m H ρ σ => EnvR K m H ρ σ ∧ σ.length = σ0.length ∧ ∀ j, j ∉ sl → σ[j]? = σ0[j]?
/-- a target's reading by the meaning -/
def mG (Φ : Nat → List D → Hs → R D) (G : Nat → D) (X : Cx) (ir : E) : TG := fun v σ H Q => ∃ d ρ S m, EnvR X.K m H ρ σ ∧ RepS X.K m H S ∧ Rep X.K m H d v ∧ Post X.K m H (relE X.K σ (slotsG ir)) (denG Φ G ir d ρ S) Q
def mGs (Φ : Nat → List D → Hs → R D) (G : Nat → D) (X : Cx) (ir : E) : TGs := fun vs σ H Q => ∃ ds ρ S m, EnvR X.K m H ρ σ ∧ RepS X.K m H S ∧ Reps X.K m H ds vs ∧ Post X.K m H (relE X.K σ (slotsG ir)) (denGs Φ G ir ds ρ S) Q
theorem PGs.mono {X : Cx} {e : List Expr} {t u : TGs} (h : PGs X e t) (hh : ∀ v σ H Q, u v σ H Q → t v σ H Q) : PGs X e u := ⟨fun pins s σ H v uu Q I r q => h.run pins s σ H v uu Q I r (hh v σ H Q q)⟩
section
variable {X : Cx} {a b d e : Expr} {ia ib id ie : E} {pos p : Pos} {es : List Expr} {il : E}
theorem mg_name {i : Nat} {x : Str} (hN : X.N.Nodup) (hi : X.N[i]? = some x) (hx : Loc X.env.scope x) (hf : X.fn x = true ∨ X.env.scope.names.lookup x = some .local) : PG X (.Name x pos) (mG Φ G X (.var i)) := by
  refine PG.mono (pg_name hN hi hx hf) fun v σ H Q ⟨d, ρ, S, m, env, rs, r, p⟩ => ?_
  simp only [denG] at p
  obtain ⟨_, p⟩ := p.ite
  exact p.ok0 rs ⟨env.set r, by simp, fun j hj => List.getElem?_set_ne (fun e => hj (by simp [slotsG, e]))⟩
theorem mgs_nil : PGs X [] (mGs Φ G X .nil) := by
  refine PGs.mono pgs_nil fun vs σ H Q ⟨ds, ρ, S, m, env, rs, r, p⟩ => ?_
  cases ds with
  | nil =>
    rw [Reps.nil_] at r
    exact ⟨r, p.ok0 rs ⟨env, rfl, fun _ _ => rfl⟩⟩
  | cons d ds => exact p.elim
theorem assign_cons {env : PySem.Env} (hs : notStar e = true) : (assignEach (e :: es) env).map (·.2) = assign e env :: (assignEach es env).map (·.2) := by
  cases e <;> first | rfl | (simp [notStar] at hs)
theorem assign_len {env : PySem.Env} : ∀ (es : List Expr), (assignEach es env).length = es.length
  | [] => rfl
  | e :: es => by
    have ih := assign_len (env := env) es
    cases e <;> simp [assignEach, ih]
theorem assign_find {env : PySem.Env} : ∀ {es : List Expr}, noStars es → (assignEach es env).findIdx? (·.1) = none
  | [], _ => rfl
  | e :: es, h => by
    have ih := assign_find (env := env) (es := es) fun e he => h e (List.mem_cons_of_mem _ he)
    have h1 := h e List.mem_cons_self
    cases e <;> first | (simp [notStar] at h1; done) | simp [assignEach, List.findIdx?_cons, ih]
theorem mgs_cons (hs : notStar e = true) (h1 : PG X e (mG Φ G X ie)) (h2 : PGs X es (mGs Φ G X il)) : PGs X (e :: es) (mGs Φ G X (.cons ie il)) := by
  refine PGs.mono (pgs_cons h1 h2 (assign_cons hs)) fun vs σ H Q ⟨ds, ρ, S, m, env, rs, r, p⟩ => ?_
  cases ds with
  | nil => exact p.elim
  | cons d ds =>
    rw [Reps.cons_] at r
    obtain ⟨v, w, rfl, r1, r2⟩ := r
    simp only [denGs] at p
    refine ⟨v, w, rfl, d, ρ, S, m, env, rs, r1, ?_⟩
    refine p.bind fun m1 H1 S1 ρ1 σ1 e1 rs1 q1 p1 => ⟨ds, ρ1, S1, m1, q1.1, rs1, Reps.ext e1 ds r2, ?_⟩
    revert p1
    cases denGs Φ G il ds ρ1 S1 with
    | ok ρ2 S2 => exact fun p1 σ2 m2 H2 e2 rs2 q2 => p1 σ2 m2 H2 e2 rs2 ⟨q2.1, q2.2.1.trans q1.2.1, fun j hj => (q2.2.2 j fun z => hj (by simp [slotsG, z])).trans (q1.2.2 j fun z => hj (by simp [slotsG, z]))⟩
    | ex => exact fun p1 => p1
    | no => exact fun p1 => p1
theorem cnt_gs : ∀ {es : List Expr} {il : E} {n : Nat} {c : Cc}, compGs n c es = some il → cnt il = es.length ∧ noStars es
  | [], il, 0, c, h => by simp [compGs] at h
  | [], il, n + 1, c, h => by simp only [compGs, Option.some.injEq] at h; subst h; exact ⟨rfl, fun _ h => by cases h⟩
  | e :: es, il, 0, c, h => by simp [compGs] at h
  | e :: es, il, n + 1, c, h => by
    simp only [compGs] at h
    split at h
    · rename_i hs
      split at h
      · rename_i a b h1 h2
        cases h
        obtain ⟨q1, q2⟩ := cnt_gs h2
        refine ⟨by simp [cnt, q1], fun e' he => ?_⟩
        rcases List.mem_cons.mp he with rfl | he
        · exact hs
        · exact q2 _ he
      · cases h
    · cases h
theorem mg_tup {kk : Nat} (hc : X.calm = true) (hs : noStars es) (hl : cnt il = es.length) (h : PGs X es (mGs Φ G X il)) : PG X (.Tuple es kk pos) (mG Φ G X (.tup il)) := by
  refine PG.mono (pg_tup hc h rfl (assign_find hs)) fun v σ H Q ⟨d, ρ, S, m, env, rs, r, p⟩ => ?_
  simp only [denG] at p
  cases d with
  | tup ds =>
    obtain ⟨hz, p⟩ := p.ite
    rw [Rep.tup_] at r
    obtain ⟨a, xs, rfl, t, r⟩ := r
    exact ⟨a, xs, rfl, t.sq, by rw [← r.len, hz, hl, assign_len], ds, ρ, S, m, env, rs, r, p⟩
  | _ => exact p.elim
theorem mg_sub (ha : PE X a (mD Φ G X ia)) (hb : PE X b (mD Φ G X ib)) (hs : notSlice b = true) : PG X (.Subscript a b pos) (mG Φ G X (.ix ia ib)) := by
  refine PG.mono (pg_sub ha hb set_D (fun v => by cases b <;> first | rfl | (simp [notSlice] at hs))) fun v σ H Q ⟨d, ρ, S, m, env, rs, r, p⟩ => ?_
  simp only [denG] at p
  refine tG_step env rs p fun m1 H1 S1 x u e1 env1 rs1 r1 p1 => tG_step env1 rs1 p1 fun m2 H2 S2 y w e2 env2 rs2 r2 p2 => ?_
  refine ⟨m2, S2, x, y, d, rs2, Rep.ext e2 x r1, r2, Rep.ext (e1.trans e2) d r, ?_⟩
  exact p2.bind fun m3 H3 S3 _ _ e3 rs3 _ p3 => p3.ok0 rs3 ⟨env2.ext e3, rfl, fun _ _ => rfl⟩
end

/-! ### what is walked -/
/-- at a heap where the walked lists stand -/
def Gd (K : PySem.W.Frag) (m0 : List Addr) (H0 : Hp) (gs : List (Nat × List D)) (H : Hp) : Prop := ∃ m' S', Ext m0 m' H0 H ∧ RepS K m' H S' ∧ held S' gs = true
/-- a walk gives the items of a source -/
structure WD (K : PySem.W.Frag) (m0 : List Addr) (H0 : Hp) (J : It) (src : Src) : Prop where
  goes : ∀ i H, i < src.its.length → Gd K m0 H0 src.gs H → J.go i H
  stops : ∀ H, Gd K m0 H0 src.gs H → J.stop src.its.length H
  yields : ∀ i H x H', i < src.its.length → J.yld i H x H' → ∀ m' S', Ext m0 m' H0 H → RepS K m' H S' → held S' src.gs = true → ∃ d, src.its[i]? = some d ∧ Ext m' m' H H' ∧ RepS K m' H' S' ∧ Rep K m' H' d x
def relI (K : PySem.W.Frag) : List Addr → Hp → Src → It → Prop := fun m H src J => WD K m H J src
abbrev mI (Φ : Nat → List D → Hs → R D) (G : Nat → D) (X : Cx) (ir : E) : TI := tG X.K (relI X.K) (denI Φ G ir)
section
variable {K : PySem.W.Frag} {m : List Addr} {H : Hp} {S : Hs}
theorem WD.mono {J : It} {gs : List (Nat × List D)} {src : Src} (w : WD K m H J src) (h : ∀ S', held S' gs = true → held S' src.gs = true) : WD K m H J ⟨gs, src.its⟩ :=
  ⟨fun i H1 hi ⟨m', S', e, rs, hh⟩ => w.goes i H1 hi ⟨m', S', e, rs, h S' hh⟩, fun H1 ⟨m', S', e, rs, hh⟩ => w.stops H1 ⟨m', S', e, rs, h S' hh⟩, fun i H1 x H' hi y m' S' e rs hh => w.yields i H1 x H' hi y m' S' e rs (h S' hh)⟩
theorem held_one {S' : Hs} {n : Nat} {ds : List D} (h : held S' [(n, ds)] = true) : seqOf S' (.ref n) = some ds := by
  simp only [held, List.all_cons, List.all_nil, Bool.and_true, heldAt] at h
  simp only [seqOf]
  split at h
  · simp only [decide_eq_true_eq] at h
    rw [h]
  · simp only [decide_eq_true_eq] at h
    rw [h]
  · cases h
theorem wd_list {n : Nat} {a : Addr} {ds : List D} (hn : m[n]? = some a) : WD K m H (Itl K a) ⟨[(n, ds)], ds⟩ := by
  have sq : ∀ {H1 : Hp} {m' : List Addr} {S' : Hs}, Ext m m' H H1 → RepS K m' H1 S' → held S' [(n, ds)] = true → ∃ xs, SqL K H1 a xs ∧ Reps K m' H1 ds xs := by
    intro H1 m' S' e rs hh
    obtain ⟨b, xs, q1, q2, q3⟩ := seqL_rep (v := .ref a) rs (Rep.ref_.mpr ⟨a, e.ix hn, rfl⟩) (held_one hh)
    cases q1
    exact ⟨xs, q2, q3⟩
  refine ⟨fun i H1 hi ⟨m', S', e, rs, hh⟩ => ?_, fun H1 ⟨m', S', e, rs, hh⟩ => ?_, fun i H1 x H' hi y m' S' e rs hh => ?_⟩
  · obtain ⟨xs, q2, q3⟩ := sq e rs hh
    have hi' : i < xs.length := by rw [← q3.len]; exact hi
    exact ⟨xs, xs[i], q2, by simp [hi']⟩
  · obtain ⟨xs, q2, q3⟩ := sq e rs hh
    exact ⟨xs, q2, by rw [← q3.len]; exact Nat.le_refl _⟩
  · obtain ⟨xs, q2, q3⟩ := sq e rs hh
    obtain ⟨rfl, y⟩ := y
    have hd : ds[i]? = some (ds[i]'hi) := List.getElem?_eq_getElem hi
    obtain ⟨v, q4, q5⟩ := q3.get hd
    have := y xs q2
    rw [q4] at this
    cases this
    exact ⟨_, hd, Ext.refl _ _, rs, q5⟩
theorem wd_tup {a : Addr} {xs : List V} {ds : List D} (t : TupAt K H a xs) (r : Reps K m H ds xs) : WD K m H (Itt K a) ⟨[], ds⟩ := by
  refine ⟨fun i H1 hi ⟨m', S', e, rs, hh⟩ => ?_, fun H1 ⟨m', S', e, rs, hh⟩ => ?_, fun i H1 x H' hi y m' S' e rs hh => ?_⟩
  · have hi' : i < xs.length := by rw [← r.len]; exact hi
    exact ⟨xs, xs[i], (t.ext e).sq, by simp [hi']⟩
  · exact ⟨xs, (t.ext e).sq, by rw [← r.len]; exact Nat.le_refl _⟩
  · obtain ⟨rfl, y⟩ := y
    have hd : ds[i]? = some (ds[i]'hi) := List.getElem?_eq_getElem hi
    obtain ⟨v, q4, q5⟩ := (Reps.ext e ds r).get hd
    have := y xs (t.ext e).sq
    rw [q4] at this
    cases this
    exact ⟨_, hd, Ext.refl _ _, rs, q5⟩
theorem signs_len (x : Str) : (signs x).length = x.cps.size := by simp [signs]
theorem wd_str {x : Str} : WD K m H (Its x) ⟨[], signs x⟩ := by
  refine ⟨fun i H1 hi _ => by rw [signs_len] at hi; exact hi, fun H1 _ => by show x.cps.size ≤ (signs x).length; rw [signs_len]; exact Nat.le_refl _, fun i H1 v H' hi y m' S' e rs hh => ?_⟩
  obtain ⟨rfl, c, h1, rfl⟩ := y
  refine ⟨.str ⟨#[c]⟩, ?_, Ext.refl _ _, rs, Rep.str_.mpr rfl⟩
  show ((x.cps.toList).map _)[i]? = _
  rw [List.getElem?_map]
  simp [h1]
theorem wd_range {lo : Int} {n : Nat} : WD K m H (Itr lo n) ⟨[], rangeD lo n⟩ := by
  have hl : (rangeD lo n).length = n := by simp [rangeD]
  refine ⟨fun i H1 hi _ => by rw [hl] at hi; exact hi, fun H1 _ => by show n ≤ (rangeD lo n).length; rw [hl]; exact Nat.le_refl _, fun i H1 v H' hi y m' S' e rs hh => ?_⟩
  obtain ⟨rfl, rfl⟩ := y
  refine ⟨.int (lo + i), ?_, Ext.refl _ _, rs, Rep.int_.mpr rfl⟩
  rw [hl] at hi
  simp [rangeD, List.getElem?_map, List.getElem?_range hi]
theorem wd_rangeC {lo c : Int} {n : Nat} : WD K m H (Itc lo c n) ⟨[], rangeC lo c n⟩ := by
  have hl : (rangeC lo c n).length = n := by simp [rangeC]
  refine ⟨fun i H1 hi _ => by rw [hl] at hi; exact hi, fun H1 _ => by show n ≤ (rangeC lo c n).length; rw [hl]; exact Nat.le_refl _, fun i H1 v H' hi y m' S' e rs hh => ?_⟩
  obtain ⟨rfl, rfl⟩ := y
  refine ⟨.int (lo + i * c), ?_, Ext.refl _ _, rs, Rep.int_.mpr rfl⟩
  rw [hl] at hi
  simp [rangeC, List.getElem?_map, List.getElem?_range hi]
theorem numbered_get : ∀ (ds : List D) (k i : Nat), (numbered k ds)[i]? = (ds[i]?).map fun d => .tup [.int ((k + i : Nat)), d]
  | [], k, i => by simp [numbered]
  | d :: ds, k, 0 => by simp [numbered]
  | d :: ds, k, i + 1 => by
    simp only [numbered, List.getElem?_cons_succ]
    rw [numbered_get ds (k + 1) i]
    have : k + 1 + i = k + (i + 1) := by omega
    rw [this]
theorem numbered_len : ∀ (ds : List D) (k : Nat), (numbered k ds).length = ds.length
  | [], k => rfl
  | d :: ds, k => by simp [numbered, numbered_len ds]
/-- a pair that is newly made -/
theorem pair_new {m' : List Addr} {H1 : Hp} {S' : Hs} (rs : RepS K m' H1 S') {T : Addr} {x y : V} {dx dy : D} (h : H1 T = none) (rx : Rep K m' H1 dx x) (ry : Rep K m' H1 dy y) :
    Ext m' m' H1 (upd H1 T (.tup [x, y])) ∧ RepS K m' (upd H1 T (.tup [x, y])) S' ∧ Rep K m' (upd H1 T (.tup [x, y])) (.tup [dx, dy]) (.ref T) := by
  have e := Ext.tupNew (o := HO.tup [x, y]) rs h
  refine ⟨e, rs.tupNew h, Rep.tup_.mpr ⟨T, [x, y], rfl, .inl upd_same, Reps.ext e _ (Reps.cons_.mpr ⟨x, [y], rfl, rx, Reps.one ry⟩)⟩⟩
/-- .. numbered, over anything that is walked in new pairs -/
theorem wd_enum {n : Nat} {a : Addr} {ds : List D} (hn : m[n]? = some a) : WD K m H (Ite K a) ⟨[(n, ds)], numbered 0 ds⟩ := by
  have sq : ∀ {H1 : Hp} {m' : List Addr} {S' : Hs}, Ext m m' H H1 → RepS K m' H1 S' → held S' [(n, ds)] = true → ∃ xs, SqL K H1 a xs ∧ Reps K m' H1 ds xs := by
    intro H1 m' S' e rs hh
    obtain ⟨b, xs, q1, q2, q3⟩ := seqL_rep (v := .ref a) rs (Rep.ref_.mpr ⟨a, e.ix hn, rfl⟩) (held_one hh)
    cases q1
    exact ⟨xs, q2, q3⟩
  refine ⟨fun i H1 hi ⟨m', S', e, rs, hh⟩ => ?_, fun H1 ⟨m', S', e, rs, hh⟩ => ?_, fun i H1 x H' hi y m' S' e rs hh => ?_⟩
  · obtain ⟨xs, q2, q3⟩ := sq e rs hh
    have hi' : i < xs.length := by rw [← q3.len]; simpa [numbered_len] using hi
    exact ⟨xs, xs[i], q2, by simp [hi']⟩
  · obtain ⟨xs, q2, q3⟩ := sq e rs hh
    exact ⟨xs, q2, by show xs.length ≤ (numbered 0 ds).length; rw [numbered_len, ← q3.len]; exact Nat.le_refl _⟩
  · obtain ⟨xs, q2, q3⟩ := sq e rs hh
    obtain ⟨T, z, rfl, hT, rfl, y⟩ := y
    have hi' : i < ds.length := by simpa [numbered_len] using hi
    have hd : ds[i]? = some (ds[i]'hi') := List.getElem?_eq_getElem hi'
    obtain ⟨v, q4, q5⟩ := q3.get hd
    have := y xs q2
    rw [q4] at this
    cases this
    obtain ⟨p1, p2, p3⟩ := pair_new rs hT (dx := .int (i : Nat)) (Rep.int_.mpr rfl) q5
    refine ⟨_, ?_, p1, p2, p3⟩
    show (numbered 0 ds)[i]? = _
    rw [numbered_get, hd]
    simp
theorem pairsUp_get : ∀ (xs ys : List D) (i : Nat) (x y : D), xs[i]? = some x → ys[i]? = some y → (pairsUp xs ys)[i]? = some (.tup [x, y])
  | [], _, i, x, y, h, _ => by simp at h
  | _ :: _, [], i, x, y, _, h => by simp at h
  | a :: xs, b :: ys, 0, x, y, h, h' => by simp at h h'; subst h h'; simp [pairsUp]
  | a :: xs, b :: ys, i + 1, x, y, h, h' => by
    simp only [pairsUp, List.getElem?_cons_succ] at *
    exact pairsUp_get xs ys i x y h h'
theorem pairsUp_len : ∀ (xs ys : List D), (pairsUp xs ys).length = min xs.length ys.length
  | [], _ => by simp [pairsUp]
  | _ :: _, [] => by simp [pairsUp]
  | a :: xs, b :: ys => by simp [pairsUp, pairsUp_len xs ys]
theorem held_app {S' : Hs} {g1 g2 : List (Nat × List D)} (h : held S' (g1 ++ g2) = true) : held S' g1 = true ∧ held S' g2 = true := by
  simpa [held] using h
theorem wd_zip {n1 n2 : Nat} {a b : Addr} {ds es : List D} (h1 : m[n1]? = some a) (h2 : m[n2]? = some b) : WD K m H (Itz K a b) ⟨[(n1, ds)] ++ [(n2, es)], pairsUp ds es⟩ := by
  have sq : ∀ {n : Nat} {a : Addr} {ds : List D} (hn : m[n]? = some a) {H1 : Hp} {m' : List Addr} {S' : Hs}, Ext m m' H H1 → RepS K m' H1 S' → held S' [(n, ds)] = true → ∃ xs, SqL K H1 a xs ∧ Reps K m' H1 ds xs := by
    intro n a ds hn H1 m' S' e rs hh
    obtain ⟨b, xs, q1, q2, q3⟩ := seqL_rep (v := .ref a) rs (Rep.ref_.mpr ⟨a, e.ix hn, rfl⟩) (held_one hh)
    cases q1
    exact ⟨xs, q2, q3⟩
  refine ⟨fun i H1 hi ⟨m', S', e, rs, hh⟩ => ?_, fun H1 ⟨m', S', e, rs, hh⟩ => ?_, fun i H1 x H' hi y m' S' e rs hh => ?_⟩
  · obtain ⟨hh1, hh2⟩ := held_app hh
    obtain ⟨xs, q2, q3⟩ := sq h1 e rs hh1
    obtain ⟨ys, q4, q5⟩ := sq h2 e rs hh2
    have hi' : i < min ds.length es.length := by simpa [pairsUp_len] using hi
    have i1 : i < xs.length := by rw [← q3.len]; omega
    have i2 : i < ys.length := by rw [← q5.len]; omega
    exact ⟨xs, ys, xs[i], ys[i], q2, q4, by simp [i1], by simp [i2]⟩
  · obtain ⟨hh1, hh2⟩ := held_app hh
    obtain ⟨xs, q2, q3⟩ := sq h1 e rs hh1
    obtain ⟨ys, q4, q5⟩ := sq h2 e rs hh2
    refine ⟨xs, ys, q2, q4, ?_⟩
    show xs.length ≤ (pairsUp ds es).length ∨ ys.length ≤ (pairsUp ds es).length
    rw [pairsUp_len, ← q3.len, ← q5.len]
    omega
  · obtain ⟨hh1, hh2⟩ := held_app hh
    obtain ⟨xs, q2, q3⟩ := sq h1 e rs hh1
    obtain ⟨ys, q4, q5⟩ := sq h2 e rs hh2
    obtain ⟨T, z, w, rfl, hT, rfl, y1, y2⟩ := y
    have hi' : i < min ds.length es.length := by simpa [pairsUp_len] using hi
    have hd : ds[i]? = some (ds[i]'(by omega)) := List.getElem?_eq_getElem _
    have he : es[i]? = some (es[i]'(by omega)) := List.getElem?_eq_getElem _
    obtain ⟨v, r1, r2⟩ := q3.get hd
    obtain ⟨u, r3, r4⟩ := q5.get he
    have z1 := y1 xs q2
    have z2 := y2 ys q4
    rw [r1] at z1; rw [r3] at z2
    cases z1; cases z2
    obtain ⟨p1, p2, p3⟩ := pair_new rs hT r2 r4
    exact ⟨_, pairsUp_get ds es i _ _ hd he, p1, p2, p3⟩
end
end RS

namespace RS
open PySem PySem.Spec PyProof.Rows L2
/-! ### enumerate of a tuple, of a text -/
def IteT (K : PySem.W.Frag) (a : Addr) : It :=
  ⟨fun i H => ∃ (xs : List V) (x : V), SqT K H a xs ∧ xs[i]? = some x, fun i H v H' => ∃ T x, v = .ref T ∧ H T = none ∧ H' = upd H T (.tup [.int (i : Nat), x]) ∧ ∀ xs, SqT K H a xs → xs[i]? = some x, fun i H => ∃ xs : List V, SqT K H a xs ∧ xs.length = i⟩
def IteS (z : Str) : It :=
  ⟨fun i _ => i < z.cps.size, fun i H v H' => ∃ T c, v = .ref T ∧ H T = none ∧ H' = upd H T (.tup [.int (i : Nat), .str ⟨#[c]⟩]) ∧ z.cps[i]? = some c, fun i _ => i = z.cps.size⟩
section
variable {P : Program} {w : World} {K : PySem.W.Frag} {elts : List Expr} {kk : Nat} {tpos : Pos}
/-- a pair given out by enumerate, then held by nobody -/
theorem enum_step {X : Cx} {pins : List (Addr × Obj)} {σ : L2.St} {H : Hp} {s : Shared} {e it : Addr} {i : Nat} {x : V} {u : Value} {E : Value → Shared → Prop} {h' : Heap} {tk : Tok} {tn : Heap → Prop} {R : V → Hp → Prop}
    (I : Inv X pins σ H s) (hf : ∀ b ∈ [e, it], FpOk X pins H b) (hel : e < s.heap.objs.size) (hil : it < s.heap.objs.size) (ru : RelV x u)
    (ho : IsEnumOut h' e it ((i : Int) + 1) u s.heap.objs.size) (hT : h'.get? s.heap.objs.size = some { cls := .type "tuple", data := .seq #[.int i tk, u] }) (hk : ∀ b o, b ≠ e → b ≠ it → s.heap.get? b = some o → h'.get? b = some o)
    (htn : ∀ h'', IsEnum h'' e it ((i : Int) + 1) u → (∀ b, b ≠ e → h''.get? b = h'.get? b) → tn h'') (hR : R (.ref s.heap.objs.size) (upd H s.heap.objs.size (.tup [.int (i : Nat), x]))) :
    wpAny (model X.prog X.w) X.A (letOwnedTupleGo (.Tuple elts kk tpos) (.ref e) (.ref s.heap.objs.size)) (fun _ s2 => ∃ x H', Inv X pins σ H' s2 ∧ RelV x (.ref s.heap.objs.size) ∧ R x H' ∧ tn s2.heap ∧ ∀ b ∈ [e, it], H' b = none) E { s with heap := h', toks := tk + 1 } := by
  refine wpAny_letOwnedTupleGo_enum (s := { s with heap := h', toks := tk + 1 }) ho fun h'' he' sb => ?_
  have hT2 : h''.get? s.heap.objs.size = some { cls := .type "tuple", data := .seq #[.int i tk, u] } := (sb.2 _ (Nat.ne_of_gt hel)).trans hT
  have new : ObjOk X.prog X.w (upd H s.heap.objs.size (.tup [.int (i : Nat), x])) h'' s.heap.objs.size (.tup [.int (i : Nat), x]) :=
    ⟨by show 2 ≤ sizeLine; decide, [.int i tk, u], .cons ⟨_, rfl⟩ (.cons ru .nil), ⟨_, hT2, rfl, _, rfl⟩⟩
  have I1 : Inv X pins σ (upd H s.heap.objs.size (.tup [.int (i : Nat), x])) { s with heap := h'', toks := tk + 1 } :=
    I.turnedNew (ch := [e, it]) (fun b ob hb q => (sb.2 b (fun z => hb (by simp [z]))).trans (hk b ob (fun z => hb (by simp [z])) (fun z => hb (by simp [z])) q)) hf (Nat.le_refl _) new
  refine ⟨.ref s.heap.objs.size, _, I1, rfl, hR, htn h'' he' fun b hb => sb.2 b hb, fun b hb => ?_⟩
  have hb' : b < s.heap.objs.size := by
    have e' : b = e ∨ b = it := by simpa using hb
    rcases e' with z | z
    · rw [z]; exact hel
    · rw [z]; exact hil
  rw [upd_ne (Nat.ne_of_lt hb')]
  exact (hf b hb).1
theorem turn_enumT (a e it : Addr) :
    Turn P w K (.Tuple elts kk tpos) (IteT K a) [e, it] e (fun i h => (∃ old, IsEnum h e it ((i : Nat) : Int) old) ∧ h.IsTupleIter it a i ∧ e ≠ it) where
  mem := by simp
  obj := fun i h st b hb => by
    obtain ⟨⟨old, he⟩, ⟨o, ho, hc, hd⟩, _⟩ := st
    have e' : b = e ∨ b = it := by simpa using hb
    rcases e' with z | z
    · rw [z]; exact ⟨_, he, fun v q => nomatch q⟩
    · rw [z]; exact ⟨o, ho, fun v q => by rw [hd] at q; cases q⟩
  keep := fun i h h' st k => let ⟨⟨old, he⟩, hi, hne⟩ := st; ⟨⟨old, k e (by simp) _ he⟩, hi.at fun o q => k it (by simp) o q, hne⟩
  item := by
    intro X hP hw hK hc i pins s σ H E I hf st hg
    subst hP hw hK
    obtain ⟨⟨old, he⟩, hit, hne⟩ := st
    obtain ⟨xs, x, hq, hx⟩ := hg
    obtain ⟨its, rv, p, hz⟩ := I.tuple hq
    obtain ⟨u, hu, ru⟩ := rv.get hx
    have hel : e < s.heap.objs.size := Heap.lt_size he
    have hil : it < s.heap.objs.size := by obtain ⟨_, q, _⟩ := hit; exact Heap.lt_size q
    have hea : e ≠ a := fun z => by
      obtain ⟨o, ho, hc, _⟩ := p
      rw [← z] at ho
      have he2 := he
      unfold IsEnum at he2
      rw [he2] at ho
      cases ho
      exact absurd (show Value.type "enumerate" = Value.type "tuple" from hc) (by decide)
    have hai : a ≠ it := fun z => by
      obtain ⟨o, ho, hc, _⟩ := p
      obtain ⟨o2, ho2, hc2, _⟩ := hit
      rw [z, ho2] at ho
      cases ho
      rw [hc] at hc2
      exact absurd hc2 (by decide)
    have hi : i < its.toArray.size := by
      have := (List.getElem?_eq_some_iff.mp hu).1
      simpa using this
    refine wpAny_pyNext_enum_itemD (Draws.tuple (A := X.A.in1) (I.ok.hd hc) it a hai its.toArray) he ⟨hit, p⟩ hi hne (by simp [hne, hea]) fun y h' tk hy ho hst hT hsz hk => ?_
    have : y = u := by
      have h2 : its.toArray[i]? = some u := by simpa using hu
      rw [h2] at hy
      exact (Option.some.inj hy).symm
    subst this
    refine ⟨_, rfl, enum_step (tn := fun h => (∃ old, IsEnum h e it (((i + 1 : Nat)) : Int) old) ∧ h.IsTupleIter it a (i + 1) ∧ e ≠ it) (R := fun v H' => (IteT X.K a).yld i H v H') I hf hel hil ru ho hT hk (fun h'' q1 q2 => ⟨⟨y, ?_⟩, hst.1.at fun o q => (q2 it (Ne.symm hne)).trans q, hne⟩) ⟨_, x, rfl, I.hok.fresh (Nat.le_refl _), rfl, fun ys hy => by rw [I.tuple_inj hy hq]; exact hx⟩⟩
    have e1 : ((i + 1 : Nat) : Int) = (i : Int) + 1 := by omega
    rw [e1]; exact q1
  done := by
    intro X hP hw hK hc i pins s σ H E I hf st hg
    subst hP hw hK
    obtain ⟨⟨old, he⟩, hit, hne⟩ := st
    obtain ⟨xs, hq, hx⟩ := hg
    obtain ⟨its, rv, p, hz⟩ := I.tuple hq
    obtain ⟨f0, f1, f2, f3, f4, f5⟩ := hf it (by simp)
    have hl := rv.length
    have hai : a ≠ it := fun z => by
      obtain ⟨o, ho, hc, _⟩ := p
      obtain ⟨o2, ho2, hc2, _⟩ := hit
      rw [z, ho2] at ho
      cases ho
      rw [hc] at hc2
      exact absurd hc2 (by decide)
    have hi : i = its.toArray.size := by simp; omega
    subst hi
    exact wpAny_pyNext_enum_endD (Draws.tuple (A := X.A.in1) (I.ok.hd hc) it a hai its.toArray) he ⟨hit, p⟩ fun h' eb => ⟨rfl, I.turned (t' := s.toks) (fun b o hb q => eb b o hb q) f0 f1 f3 f4 f5⟩
  self := fun A i s Q E st h => let ⟨⟨_, he⟩, _⟩ := st; wpAny_pyIter_enum he h
theorem turn_enumS (z : Str) (t : Tok) (e it : Addr) :
    Turn P w K (.Tuple elts kk tpos) (IteS z) [e, it] e (fun i h => (∃ old, IsEnum h e it ((i : Nat) : Int) old) ∧ h.IsStrIter it (strIterType z) z t i ∧ e ≠ it) where
  mem := by simp
  obj := fun i h st b hb => by
    obtain ⟨⟨old, he⟩, ⟨o, ho, hc, hd⟩, _⟩ := st
    have e' : b = e ∨ b = it := by simpa using hb
    rcases e' with z | z
    · rw [z]; exact ⟨_, he, fun v q => nomatch q⟩
    · rw [z]; exact ⟨o, ho, fun v q => by rw [hd] at q; cases q⟩
  keep := fun i h h' st k => let ⟨⟨old, he⟩, hi, hne⟩ := st; ⟨⟨old, k e (by simp) _ he⟩, (let ⟨o, ho, hc, hd⟩ := hi; ⟨o, k it (by simp) o ho, hc, hd⟩), hne⟩
  item := by
    intro X hP hw hK hc i pins s σ H E I hf st hg
    subst hP hw hK
    obtain ⟨⟨old, he⟩, hit, hne⟩ := st
    have hel : e < s.heap.objs.size := Heap.lt_size he
    have hil : it < s.heap.objs.size := by obtain ⟨_, q, _⟩ := hit; exact Heap.lt_size q
    refine wpAny_pyNext_enum_itemD (Draws.text (A := X.A.in1) (I.ok.hd hc) it z t) he hit hg hne (by simp [hne]) fun y h' tk hy ho hst hT hsz hk => ?_
    obtain ⟨c, u, h1, rfl⟩ := hy
    refine ⟨_, rfl, enum_step (x := .str ⟨#[c]⟩) (tn := fun h => (∃ old, IsEnum h e it (((i + 1 : Nat)) : Int) old) ∧ h.IsStrIter it (strIterType z) z t (i + 1) ∧ e ≠ it) (R := fun v H' => (IteS z).yld i H v H') I hf hel hil ⟨_, rfl⟩ ho hT hk (fun h'' q1 q2 => ⟨⟨_, show IsEnum h'' e it (((i + 1 : Nat)) : Int) (.str ⟨#[c]⟩ u) from (by have e1 : ((i + 1 : Nat) : Int) = (i : Int) + 1 := (by omega); rw [e1]; exact q1)⟩, (let ⟨o, ho, hc, hd⟩ := hst; ⟨o, (q2 it (Ne.symm hne)).trans ho, hc, hd⟩), hne⟩) ⟨_, c, rfl, I.hok.fresh (Nat.le_refl _), rfl, h1⟩⟩
  done := by
    intro X hP hw hK hc i pins s σ H E I hf st hg
    subst hP hw hK
    obtain ⟨⟨old, he⟩, hit, hne⟩ := st
    obtain ⟨f0, f1, f2, f3, f4, f5⟩ := hf it (by simp)
    have hi : i = z.cps.size := hg
    subst hi
    exact wpAny_pyNext_enum_endD (Draws.text (A := X.A.in1) (I.ok.hd hc) it z t) he hit fun h' eb => ⟨rfl, I.turned (t' := s.toks) (fun b o hb q => eb b o hb q) f0 f1 f3 f4 f5⟩
  self := fun A i s Q E st h => let ⟨⟨_, he⟩, _⟩ := st; wpAny_pyIter_enum he h
end
end RS
namespace PySem
set_option maxHeartbeats 1000000 in
theorem rs_meets_enumerate_newT (l : Addr) (items : Array Value) (n : Nat) (dct : Option Addr) (sl : Array (Option Value)) :
    Meets (Builtin.«enumerate.__new__» ⟨[.type "enumerate", .ref l], []⟩) (fun _ R s => s.heap.get? l = some { cls := .type "tuple", dict := dct, data := .seq items n, slots := sl } ∧
      R (.ok (.ret (.ref (s.heap.push { cls := .type "tuple_iterator", data := .fields #[.ref l, .int 0 0] }).objs.size)))
        { s with heap := (s.heap.push { cls := .type "tuple_iterator", data := .fields #[.ref l, .int 0 0] }).push { cls := .type "enumerate", data := .fields #[.none, .bool false, .ref s.heap.objs.size, rawInt 0, .none, .none] } }) :=
  .of_wp fun prog w A R s h => by
    obtain ⟨hp, g, d, tk, os⟩ := s
    obtain ⟨hl, h⟩ := h
    have hsub := sub_enumerate
    have hL : Heap.IsTuple hp l items := ⟨_, hl, rfl, n, rfl⟩
    wp_walk using wpAny_loadPart' hl, wpAny_pyIter_tuple hL
    refine wpAny_stack_any fun st => wpAny_pure ?_
    split
    · rename_i c _ _ _ _ _
      cases (c == Value.type "enumerate")
      · wp_walk using wpAny_loadPart' hl, wpAny_pyIter_tuple hL
        exact ⟨_, rfl, h⟩
      · wp_walk using wpAny_loadPart' hl, wpAny_pyIter_tuple hL
        exact ⟨_, rfl, h⟩
    · wp_walk using wpAny_loadPart' hl, wpAny_pyIter_tuple hL
      exact ⟨_, rfl, h⟩
theorem rs_call_enumerate_tuple {prog : Program} {w : World} {A : Around} {E : Value → Shared → Prop} {s : Shared} {l : Addr} {items : Array Value} {Q : Value → Shared → Prop} (hL : s.heap.IsTuple l items)
    (h : ∀ h', IsEnum h' (s.heap.objs.size + 1) s.heap.objs.size 0 .none → h'.IsTupleIter s.heap.objs.size l 0 → h'.objs.size = s.heap.objs.size + 2 →
      (∀ b o, s.heap.get? b = some o → h'.get? b = some o) → Q (.ref (s.heap.objs.size + 1)) { s with heap := h' }) :
    wpAny (model prog w) A (call (.type "enumerate") [.ref l]) Q E s := by
  obtain ⟨⟨c, dct, dt, sl⟩, hl, hc, n, hd⟩ := hL
  replace hc : c = .type "tuple" := hc
  replace hd : dt = .seq items n := hd
  subst hc hd
  refine callType_new F.called_enumerate (by decide) (F.typeCall_enumerate_1 _) (F.newCall_enumerate_1 _) (fun obj => F.args_object_init_2 obj _) F.entry_enumerate_new
    (rs_meets_enumerate_newT l items n dct sl) ⟨hl, ?_⟩
  have hz : (s.heap.push { cls := .type "tuple_iterator", data := .fields #[.ref l, .int 0 0] }).objs.size = s.heap.objs.size + 1 := Heap.size_push ..
  show _ ∧ _
  rw [hz]
  have he : IsEnum ((s.heap.push { cls := .type "tuple_iterator", data := .fields #[.ref l, .int 0 0] }).push
      { cls := .type "enumerate", data := .fields #[.none, .bool false, .ref s.heap.objs.size, rawInt 0, .none, .none] }) (s.heap.objs.size + 1) s.heap.objs.size 0 .none := by
    have := Heap.get?_push_size (s.heap.push { cls := .type "tuple_iterator", data := .fields #[.ref l, .int 0 0] }) (o := { cls := .type "enumerate", data := .fields #[.none, .bool false, .ref s.heap.objs.size, rawInt 0, .none, .none] }) rfl
    rw [hz] at this; exact this
  refine ⟨⟨_, he, rfl⟩, h _ he ⟨_, Heap.get?_push_of_some _ (Heap.get?_push_size _ rfl), rfl, rfl⟩ (by rw [Heap.size_push, hz]) fun b o x => Heap.get?_push_of_some _ (Heap.get?_push_of_some _ x)⟩
end PySem
namespace RS
open PySem PySem.Spec PyProof.Rows L2
/-- enumerate of a list, a tuple, a text -/
def iEnumA (K : PySem.W.Frag) (ta : TA) : TI := fun σ H R => ta σ H fun vs H1 => ∃ x, vs = [x] ∧ ((∃ a xs, x = .ref a ∧ SqL K H1 a xs ∧ R (Ite K a) H1) ∨ (∃ a xs, x = .ref a ∧ SqT K H1 a xs ∧ R (IteT K a) H1) ∨ ∃ z, x = .str z ∧ R (IteS z) H1)
theorem pi_enumA {X : Cx} {e : Expr} {ta : TA} {p pos tpos : Pos} {elts : List Expr} {kk : Nat} (hg : Gl X "enumerate") (hm : X.mg "enumerate" = none) (ha : PA X [e] ta) (hs : starEach [e] X.env = [(false, eval e X.env)]) :
    PI X (.Tuple elts kk tpos) (.Call (.Name "enumerate" p) [e] [] pos) (iEnumA X.K ta) := by
  refine ⟨fun pins s σ H R I h => ?_⟩
  refine Call_ (ld_blt I hg hm boot_enumerate (PyProof.Rows.callWith_type1 (thn (ha.run pos pins s σ H _ I h) fun us s1 ⟨vs, H1, I1, r1, q1⟩ => ?_) hs rfl))
  obtain ⟨x, ex, q⟩ := q1
  subst ex
  cases r1 with
  | cons r rr =>
    cases rr
    have fp2 : ∀ {H2 : Hp} {b : Addr}, b ∈ [s1.heap.objs.size + 1, s1.heap.objs.size] → FpOk X pins H1 b := fun {H2 b} hb => by
      have e' : b = s1.heap.objs.size + 1 ∨ b = s1.heap.objs.size := by simpa using hb
      have hle : s1.heap.objs.size ≤ b := by
        rcases e' with z | z
        · rw [z]; exact Nat.le_add_right _ _
        · rw [z]; exact Nat.le_refl _
      exact I1.fpOk hle (I1.hok.fresh hle)
    rcases q with ⟨a, xs, rfl, hq, q⟩ | ⟨a, xs, rfl, hq, q⟩ | ⟨z, rfl, q⟩
    · cases r
      obtain ⟨its, rv, p', hz⟩ := I1.list hq
      refine call_enumerate_list p'.isList fun h' he hit hsz hk => wpAny_pyIter_enum he ?_
      have I2 : Inv X pins σ H1 { s1 with heap := h' } := I1.kept (t' := s1.toks) hk
      exact ⟨s1.heap.objs.size + 1, [s1.heap.objs.size + 1, s1.heap.objs.size], _, _, H1, rfl, I2, turn_enum a (s1.heap.objs.size + 1) s1.heap.objs.size, ⟨⟨.none, he⟩, hit, Nat.succ_ne_self _⟩, fun b hb => fp2 (H2 := H1) hb, q⟩
    · cases r
      obtain ⟨its, rv, p', hz⟩ := I1.tuple hq
      refine rs_call_enumerate_tuple (show s1.heap.IsTuple a its.toArray from p') fun h' he hit hsz hk => wpAny_pyIter_enum he ?_
      have I2 : Inv X pins σ H1 { s1 with heap := h' } := I1.kept (t' := s1.toks) hk
      exact ⟨s1.heap.objs.size + 1, [s1.heap.objs.size + 1, s1.heap.objs.size], _, _, H1, rfl, I2, turn_enumT a (s1.heap.objs.size + 1) s1.heap.objs.size, ⟨⟨.none, he⟩, hit, Nat.succ_ne_self _⟩, fun b hb => fp2 (H2 := H1) hb, q⟩
    · obtain ⟨t, rfl⟩ := r
      refine call_enumerate_str fun h' he hit hsz hk => wpAny_pyIter_enum he ?_
      have I2 : Inv X pins σ H1 { s1 with heap := h' } := I1.kept (t' := s1.toks) hk
      exact ⟨s1.heap.objs.size + 1, [s1.heap.objs.size + 1, s1.heap.objs.size], _, _, H1, rfl, I2, turn_enumS z t (s1.heap.objs.size + 1) s1.heap.objs.size, ⟨⟨.none, he⟩, hit, Nat.succ_ne_self _⟩, fun b hb => fp2 (H2 := H1) hb, q⟩
end RS

namespace RS
open PySem PySem.Spec L2
variable {Φ : Nat → List D → Hs → R D} {G : Nat → D} {k : Nat}
section
variable {X : Cx} {a b d e tg : Expr} {ia ib id ie itg : E} {pos p : Pos} {es : List Expr} {il : E}
theorem PI.or {t u : TI} (h : PI X tg e t) (h' : PI X tg e u) : PI X tg e (fun σ H R => t σ H R ∨ u σ H R) := ⟨fun pins s σ H R I q => by
  rcases q with q | q
  · exact h.run pins s σ H R I q
  · exact h'.run pins s σ H R I q⟩
theorem mi_val (h : PE X e (mD Φ G X ie)) : PI X tg e (mI Φ G X (.cons ie .nil)) := by
  refine PI.mono (PI.or (pi_list h) (PI.or (pi_tup h) (pi_str h))) fun σ H RR ⟨ρ, S, m, env, rs, q⟩ => ?_
  simp only [denI] at q
  cases ed : den Φ G ie ρ S with
  | ok dd S1 =>
    rw [ed] at q
    simp only [R.bind_ok] at q
    cases dd with
    | tup ds =>
      refine .inr (.inl ⟨ρ, S, m, env, rs, ?_⟩)
      rw [ed]
      intro v m1 H1 e1 rs1 r1
      rw [Rep.tup_] at r1
      obtain ⟨ad, xs, rfl, t, r⟩ := r1
      exact ⟨ad, rfl, ⟨xs, t.sq⟩, q (Itt X.K ad) m1 H1 e1 rs1 (wd_tup t r)⟩
    | str x =>
      refine .inr (.inr ⟨ρ, S, m, env, rs, ?_⟩)
      rw [ed]
      intro v m1 H1 e1 rs1 r1
      rw [Rep.str_] at r1
      exact ⟨x, r1, q (Its x) m1 H1 e1 rs1 wd_str⟩
    | ref n =>
      refine .inl ⟨ρ, S, m, env, rs, ?_⟩
      rw [ed]
      intro v m1 H1 e1 rs1 r1
      have r2 := r1
      rw [Rep.ref_] at r1
      obtain ⟨ad, hn, rfl⟩ := r1
      simp only [srcOf] at q
      split at q
      · rename_i ds hs
        obtain ⟨a', xs, h1, h2, h3⟩ := seqL_rep rs1 r2 (show seqOf S1 (.ref n) = some ds by simp only [seqOf, hs])
        cases h1
        exact ⟨ad, rfl, ⟨xs, h2⟩, q (Itl X.K ad) m1 H1 e1 rs1 (wd_list hn)⟩
      · rename_i ds hs
        obtain ⟨a', xs, h1, h2, h3⟩ := seqL_rep rs1 r2 (show seqOf S1 (.ref n) = some ds by simp only [seqOf, hs])
        cases h1
        exact ⟨ad, rfl, ⟨xs, h2⟩, q (Itl X.K ad) m1 H1 e1 rs1 (wd_list hn)⟩
      · exact q.elim
    | _ => exact q.elim
  | ex => rw [ed] at q; exact q.elim
  | no => rw [ed] at q; exact q.elim
theorem big62_ok {i : Int} (h : big62 i = true) : -(2 ^ 62) ≤ i ∧ i < 2 ^ 62 := by
  simpa [big62] using h
theorem mi_rng1 (hg : Gl X "range") (hm : X.mg "range" = none) (hs : notStar a = true) (ha : PE X a (mD Φ G X ia)) : PI X tg (.Call (.Name "range" p) [a] [] pos) (mI Φ G X (.rng (.cons ia .nil))) := by
  refine PI.mono (pi_range1 hg hm (pa_cons ha pa_nil (star_cons hs)) (star_cons hs)) fun σ H RR ⟨ρ, S, m, env, rs, q⟩ => ?_
  simp only [denI, denL, R.bind_assoc, R.bind_ok] at q
  refine tG_step env rs q fun m1 H1 S1 x v e1 env1 rs1 r1 p1 => ?_
  cases x with
  | int j =>
    rw [Rep.int_] at r1
    subst r1
    simp only [rgD] at p1
    obtain ⟨hb, p1⟩ := p1.ite
    obtain ⟨h1, h2⟩ := big62_ok hb
    exact ⟨j, rfl, h1, h2, p1.ok0 rs1 wd_range⟩
  | _ => exact p1.elim
theorem mi_rng2 (hg : Gl X "range") (hm : X.mg "range" = none) (hs : notStar a = true) (hs2 : notStar b = true) (ha : PE X a (mD Φ G X ia)) (hb : PE X b (mD Φ G X ib)) : PI X tg (.Call (.Name "range" p) [a, b] [] pos) (mI Φ G X (.rng (.cons ia (.cons ib .nil)))) := by
  refine PI.mono (pi_range2 hg hm (pa_cons ha (pa_cons hb pa_nil (star_cons hs2)) (star_cons hs)) (by rw [star_cons hs, star_cons hs2]; rfl) (star_cons hs2)) fun σ H RR ⟨ρ, S, m, env, rs, q⟩ => ?_
  simp only [denI, denL, R.bind_assoc, R.bind_ok] at q
  refine tG_step env rs q fun m1 H1 S1 x v e1 env1 rs1 r1 p1 => tG_step env1 rs1 p1 fun m2 H2 S2 y u e2 env2 rs2 r2 p2 => ?_
  cases x with
  | int i =>
    cases y with
    | int j =>
      rw [Rep.int_] at r1 r2
      subst r1 r2
      simp only [rgD] at p2
      obtain ⟨hb, p2⟩ := p2.ite
      rw [Bool.and_eq_true] at hb
      obtain ⟨h1, h2⟩ := big62_ok hb.1
      obtain ⟨h3, h4⟩ := big62_ok hb.2
      exact ⟨i, j, rfl, ⟨h1, h2, h3, h4⟩, p2.ok0 rs2 wd_range⟩
    | _ => exact p2.elim
  | _ => exact (by cases y <;> exact p2 : False).elim
theorem mi_rng3 (hg : Gl X "range") (hm : X.mg "range" = none) (hs : notStar a = true) (hs2 : notStar b = true) (hs3 : notStar d = true) (ha : PE X a (mD Φ G X ia)) (hb : PE X b (mD Φ G X ib)) (hd : PE X d (mD Φ G X id)) : PI X tg (.Call (.Name "range" p) [a, b, d] [] pos) (mI Φ G X (.rng (.cons ia (.cons ib (.cons id .nil))))) := by
  refine PI.mono (pi_range3 hg hm (pa_cons ha (pa_cons hb (pa_cons hd pa_nil (star_cons hs3)) (star_cons hs2)) (star_cons hs)) (star_cons hs) (star_any fun e' he' => by simp at he'; rcases he' with rfl | rfl <;> assumption)) fun σ H RR ⟨ρ, S, m, env, rs, q⟩ => ?_
  simp only [denI, denL, R.bind_assoc, R.bind_ok] at q
  refine tG_step env rs q fun m1 H1 S1 x v e1 env1 rs1 r1 p1 => tG_step env1 rs1 p1 fun m2 H2 S2 y u e2 env2 rs2 r2 p2 => tG_step env2 rs2 p2 fun m3 H3 S3 z w e3 env3 rs3 r3 p3 => ?_
  cases x with
  | int i =>
    cases y with
    | int j =>
      cases z with
      | int c =>
        rw [Rep.int_] at r1 r2 r3
        subst r1 r2 r3
        simp only [rgD] at p3
        obtain ⟨hb, p3'⟩ := p3.ite
        simp only [Bool.and_eq_true, decide_eq_true_eq] at hb
        obtain ⟨⟨hb1, hb2⟩, hc1⟩ := hb
        subst hc1
        obtain ⟨h1, h2⟩ := big62_ok hb1
        obtain ⟨h3, h4⟩ := big62_ok hb2
        exact ⟨i, j, -1, (i - j).toNat, rfl, RgC.neg h1 h2 h3 h4, Post.ok0 (rel := relI X.K) (a := ⟨[], rangeC i (-1) (i - j).toNat⟩) p3' rs3 wd_rangeC⟩
      | _ => exact p3.elim
    | _ => exact (by cases z <;> exact p3 : False).elim
  | _ => exact (by cases y <;> cases z <;> exact p3 : False).elim
/-- numbered pairs of a tuple, a text -/
theorem wd_enumT {K : PySem.W.Frag} {m : List Addr} {H : Hp} {ad : Addr} {xs : List V} {ds : List D} (t : TupAt K H ad xs) (r : Reps K m H ds xs) : WD K m H (IteT K ad) ⟨[], numbered 0 ds⟩ := by
  refine ⟨fun i H1 hi ⟨m', S', e, rs, hh⟩ => ?_, fun H1 ⟨m', S', e, rs, hh⟩ => ?_, fun i H1 x H' hi y m' S' e rs hh => ?_⟩
  · have hi' : i < xs.length := by rw [← r.len]; simpa [numbered_len] using hi
    exact ⟨xs, xs[i], (t.ext e).sq, by simp [hi']⟩
  · exact ⟨xs, (t.ext e).sq, by show xs.length = (numbered 0 ds).length; rw [numbered_len, ← r.len]⟩
  · obtain ⟨T, z, rfl, hT, rfl, y⟩ := y
    have hi' : i < ds.length := by simpa [numbered_len] using hi
    have hd : ds[i]? = some (ds[i]'hi') := List.getElem?_eq_getElem hi'
    obtain ⟨v, q4, q5⟩ := (Reps.ext e ds r).get hd
    have := y xs (t.ext e).sq
    rw [q4] at this
    cases this
    obtain ⟨p1, p2, p3⟩ := pair_new rs hT (dx := .int (i : Nat)) (Rep.int_.mpr rfl) q5
    refine ⟨_, ?_, p1, p2, p3⟩
    show (numbered 0 ds)[i]? = _
    rw [numbered_get, hd]
    simp
theorem wd_enumS {K : PySem.W.Frag} {m : List Addr} {H : Hp} {z : Str} : WD K m H (IteS z) ⟨[], numbered 0 (signs z)⟩ := by
  refine ⟨fun i H1 hi _ => by show i < z.cps.size; simpa [numbered_len, signs_len] using hi, fun H1 _ => by show (numbered 0 (signs z)).length = z.cps.size; rw [numbered_len, signs_len], fun i H1 x H' hi y m' S' e rs hh => ?_⟩
  obtain ⟨T, c, rfl, hT, rfl, y⟩ := y
  obtain ⟨p1, p2, p3⟩ := pair_new rs hT (dx := .int (i : Nat)) (dy := .str ⟨#[c]⟩) (Rep.int_.mpr rfl) (Rep.str_.mpr rfl)
  refine ⟨_, ?_, p1, p2, p3⟩
  show (numbered 0 (signs z))[i]? = _
  rw [numbered_get]
  simp [signs, y]
theorem mi_enm {elts : List Expr} {kk : Nat} {tpos : Pos} (hg : Gl X "enumerate") (hm : X.mg "enumerate" = none) (hs : notStar a = true) (ha : PE X a (mD Φ G X ia)) : PI X (.Tuple elts kk tpos) (.Call (.Name "enumerate" p) [a] [] pos) (mI Φ G X (.enm (.cons ia .nil))) := by
  refine PI.mono (pi_enumA hg hm (pa_cons ha pa_nil (star_cons hs)) (star_cons hs)) fun σ H RR ⟨ρ, S, m, env, rs, q⟩ => ?_
  simp only [denI, denL, R.bind_assoc, R.bind_ok] at q
  refine tG_step env rs q fun m1 H1 S1 x v e1 env1 rs1 r1 p1 => ?_
  refine ⟨v, rfl, ?_⟩
  simp only [enD] at p1
  cases x with
  | tup ds =>
    rw [Rep.tup_] at r1
    obtain ⟨ad, xs, rfl, t, r⟩ := r1
    exact .inr (.inl ⟨ad, xs, rfl, t.sq, p1.ok0 rs1 (wd_enumT t r)⟩)
  | str z =>
    rw [Rep.str_] at r1
    exact .inr (.inr ⟨z, r1, p1.ok0 rs1 wd_enumS⟩)
  | ref n =>
    have r2 := r1
    rw [Rep.ref_] at r1
    obtain ⟨ad, hn, rfl⟩ := r1
    have go : ∀ ds, seqOf S1 (.ref n) = some ds → Post X.K m1 H1 (relI X.K) (.ok ⟨[(n, ds)], numbered 0 ds⟩ S1) RR → ∃ a xs, V.ref ad = V.ref a ∧ SqL X.K H1 a xs ∧ RR (Ite X.K a) H1 := by
      intro ds hs p1
      obtain ⟨a', xs, h1, h2, h3⟩ := seqL_rep rs1 r2 hs
      cases h1
      exact ⟨ad, xs, rfl, h2, p1.ok0 rs1 (wd_enum hn)⟩
    simp only [srcOf] at p1
    cases es : S1[n]? with
    | none => rw [es] at p1; exact p1.elim
    | some o =>
      rw [es] at p1
      cases o with
      | lst ds => exact .inl (go ds (by simp only [seqOf, es]) p1)
      | scr ds => exact .inl (go ds (by simp only [seqOf, es]) p1)
      | dct => exact p1.elim
      | dlk => exact p1.elim
      | ins => exact p1.elim
  | _ => exact p1.elim

/-! ### for -/
/-- what is wanted behind a block, by the meaning -/
def PostF (K : PySem.W.Frag) (m : List Addr) (H : Hp) (r : R Fl) (D' : Ends) : Prop := match r with
  | .ok f S => ∀ m' H', Ext m m' H H' → RepS K m' H' S → match f with
    | .nx ρ => ∀ σ, EnvR K m' H' ρ σ → D'.nx σ H'
    | .rt d => ∀ v, Rep K m' H' d v → D'.rt v H'
    | .bk ρ => ∀ σ, EnvR K m' H' ρ σ → D'.bk σ H'
    | .ct ρ => ∀ σ, EnvR K m' H' ρ σ → D'.ct σ H'
  | _ => False
def tC_ (K : PySem.W.Frag) (f : Rho → Hs → R Fl) : TS := fun D' σ H => ∃ ρ S m, EnvR K m H ρ σ ∧ RepS K m H S ∧ PostF K m H (f ρ S) D'
abbrev mC (Φ : Nat → List D → Hs → R D) (G : Nat → D) (W : Nat) (X : Cx) (c : C) : TS := tC_ X.K (exec Φ G W c)
theorem PostF.ext {K : PySem.W.Frag} {m m' : List Addr} {H H' : Hp} {r : R Fl} {D' : Ends} (e : Ext m m' H H') (h : PostF K m H r D') : PostF K m' H' r D' := by
  cases r with
  | ok f S =>
    intro m2 H2 e2 rs2
    exact h m2 H2 (e.trans e2) rs2
  | ex => exact h
  | no => exact h
theorem PostF.bind {K : PySem.W.Frag} {m : List Addr} {H : Hp} {γ δ : Type} {relF : List Addr → Hp → γ → δ → Prop} {r : R γ} {g : γ → Hs → R Fl} {D' : Ends} (h : PostF K m H (r.bind g) D') {Q' : δ → Hp → Prop}
    (kk : ∀ m1 H1 S1 a b, Ext m m1 H H1 → RepS K m1 H1 S1 → relF m1 H1 a b → PostF K m1 H1 (g a S1) D' → Q' b H1) : Post K m H relF r Q' := by
  cases r with
  | ok a S => exact fun b m1 H1 e1 rs1 rl => kk m1 H1 S a b e1 rs1 rl (PostF.ext e1 h)
  | ex => exact h
  | no => exact h
theorem tF_step {K : PySem.W.Frag} {m : List Addr} {H : Hp} {ρ : Rho} {σ : St} {S : Hs} {γ δ : Type} {relF : List Addr → Hp → γ → δ → Prop} {f : Rho → Hs → R γ} {g : γ → Hs → R Fl} {D' : Ends} {Q' : δ → Hp → Prop} (env : EnvR K m H ρ σ) (rs : RepS K m H S)
    (h : PostF K m H ((f ρ S).bind g) D')
    (kk : ∀ m1 H1 S1 a b, Ext m m1 H H1 → EnvR K m1 H1 ρ σ → RepS K m1 H1 S1 → relF m1 H1 a b → PostF K m1 H1 (g a S1) D' → Q' b H1) : tG K relF f σ H Q' :=
  ⟨ρ, S, m, env, rs, h.bind fun m1 H1 S1 a b e rs1 rl p => kk m1 H1 S1 a b e (env.ext e) rs1 rl p⟩
theorem tFT_step {K : PySem.W.Frag} {m : List Addr} {H : Hp} {ρ : Rho} {σ : St} {S : Hs} {f : Rho → Hs → R D} {A B : Hs → R Fl} {D' : Ends} {Q' : Bool → Hp → Prop} (env : EnvR K m H ρ σ) (rs : RepS K m H S)
    (h : PostF K m H ((f ρ S).bind fun x S1 => tst x (A S1) (B S1)) D')
    (kk : ∀ m1 H1 S1 b, Ext m m1 H H1 → EnvR K m1 H1 ρ σ → RepS K m1 H1 S1 → PostF K m1 H1 (if b = true then A S1 else B S1) D' → Q' b H1) : tDT K f σ H Q' := by
  refine ⟨ρ, S, m, env, rs, ?_⟩
  cases e : f ρ S with
  | ok d S1 =>
    rw [e] at h
    simp only [R.bind_ok] at h
    cases d with
    | bl b =>
      rw [tst_bl] at h
      exact ⟨b, rfl, fun m1 H1 e1 rs1 => kk m1 H1 S1 b e1 (env.ext e1) rs1 (PostF.ext e1 h)⟩
    | _ => exact h.elim
  | ex => rw [e] at h; exact h
  | no => rw [e] at h; exact h
theorem PostF.ite {K : PySem.W.Frag} {m : List Addr} {H : Hp} {c : Prop} [Decidable c] {r : R Fl} {D' : Ends} (h : PostF K m H (if c then r else .no) D') : c ∧ PostF K m H r D' := by
  by_cases e : c
  · rw [if_pos e] at h; exact ⟨e, h⟩
  · rw [if_neg e] at h; exact h.elim
/-- a block's run, then more -/
theorem PostF.then {K : PySem.W.Frag} {m : List Addr} {H : Hp} {r : R Fl} {g : Fl → Hs → R Fl} {D1 D' : Ends} (h : PostF K m H (r.bind g) D')
    (kk : ∀ m1 H1 S1 f, Ext m m1 H H1 → RepS K m1 H1 S1 → PostF K m1 H1 (g f S1) D' → match f with
      | .nx ρ => ∀ σ, EnvR K m1 H1 ρ σ → D1.nx σ H1
      | .rt d => ∀ v, Rep K m1 H1 d v → D1.rt v H1
      | .bk ρ => ∀ σ, EnvR K m1 H1 ρ σ → D1.bk σ H1
      | .ct ρ => ∀ σ, EnvR K m1 H1 ρ σ → D1.ct σ H1) : PostF K m H r D1 := by
  cases r with
  | ok f S => exact fun m1 H1 e1 rs1 => kk m1 H1 S f e1 rs1 (PostF.ext e1 h)
  | ex => exact h
  | no => exact h
theorem ms_for {W : Nat} {body : List Stmt} {cb : C} (hp : PassesOwn (model X.prog X.w) X.A X.env X.xe) (hc : X.calm = true) (hi : PI X tg e (mI Φ G X ie)) (hg : PG X tg (mG Φ G X itg)) (hb : PSs X body (mC Φ G W X cb)) (hs : notSet e = true) :
    PS X (.For tg e body [] pos) (mC Φ G W X (.for_ itg ie cb)) := by
  refine PS.mono (ps_for hp hc hi hg hb (not_set hs)) fun D' σ H ⟨ρ, S, m, env, rs, q⟩ => ?_
  simp only [exec] at q
  refine tF_step (relF := relI X.K) env rs q fun m1 H1 S1 src J e1 env1 rs1 wd p1 => ?_
  let turn : D → Rho → Hs → R Fl := fun d ρ' S' => (denG Φ G itg d ρ' S').bind fun ρ1 S2 => exec Φ G W cb ρ1 S2
  refine ⟨fun i k σ H => k = src.its.length - i ∧ i ≤ src.its.length ∧ ∃ ρ' S' m', Ext m1 m' H1 H ∧ EnvR X.K m' H ρ' σ ∧ RepS X.K m' H S' ∧ PostF X.K m' H (forGo src.gs turn (src.its.drop i) ρ' S') D',
    ⟨_, rfl, Nat.zero_le _, ρ, S1, m1, Ext.refl _ _, env1, rs1, p1⟩, ?_⟩
  rintro i k' σ H ⟨rfl, hi, ρ', S', m', e', env', rs', p'⟩
  by_cases hlt : i < src.its.length
  · rw [List.drop_eq_getElem_cons hlt] at p'
    simp only [forGo] at p'
    obtain ⟨hh, p'⟩ := p'.ite
    have gd : Gd X.K m1 H1 src.gs H := ⟨m', S', e', rs', hh⟩
    refine .inr ⟨wd.goes i H hlt gd, fun σ' H' => ∃ ρ' S' m', Ext m1 m' H1 H' ∧ EnvR X.K m' H' ρ' σ' ∧ RepS X.K m' H' S' ∧ PostF X.K m' H' (forGo src.gs turn (src.its.drop (i + 1)) ρ' S') D', fun σ' H' h => ⟨src.its.length - (i + 1), by omega, rfl, hlt, h⟩, fun x H' y => ?_⟩
    obtain ⟨d, hd, e2, rs2, r2⟩ := wd.yields i H x H' hlt y m' S' e' rs' hh
    have hd' : src.its[i] = d := by
      rw [List.getElem?_eq_getElem hlt] at hd
      exact Option.some.inj hd
    rw [hd'] at p'
    have p2 := PostF.ext e2 p'
    simp only [turn, R.bind_assoc] at p2
    refine ⟨d, ρ', S', m', env'.ext e2, rs2, r2, p2.bind fun m3 H3 S3 ρ3 σ3 e3 rs3 env3 p3 => ⟨ρ3, S3, m3, env3.1, rs3, p3.then fun m4 H4 S4 f e4 rs4 p4 => ?_⟩⟩
    have e5 : Ext m1 m4 H1 H4 := e'.trans (e2.trans (e3.trans e4))
    cases f with
    | nx ρ4 => exact fun σ4 env4 => ⟨ρ4, S4, m4, e5, env4, rs4, p4⟩
    | ct ρ4 => exact fun σ4 env4 => ⟨ρ4, S4, m4, e5, env4, rs4, p4⟩
    | bk ρ4 => exact fun σ4 env4 => p4 m4 H4 (Ext.refl _ _) rs4 σ4 env4
    | rt v => exact fun w r4 => p4 m4 H4 (Ext.refl _ _) rs4 w r4
  · have ei : i = src.its.length := by omega
    subst ei
    rw [List.drop_length] at p'
    simp only [forGo] at p'
    obtain ⟨hh, p'⟩ := p'.ite
    exact .inl ⟨wd.stops H ⟨m', S', e', rs', hh⟩, p' m' H (Ext.refl _ _) rs' σ env'⟩

/-! ### other statements -/
section
variable {W : Nat} {ca cb : C}
theorem mss_nil : PSs X [] (mC Φ G W X .nil) := PSs.mono pss_nil fun D' σ H ⟨ρ, S, m, env, rs, q⟩ => by
  simp only [exec] at q
  exact q m H (Ext.refl _ _) rs σ env
theorem mss_cons {st : Stmt} {sts : List Stmt} (h1 : PS X st (mC Φ G W X ca)) (h2 : PSs X sts (mC Φ G W X cb)) : PSs X (st :: sts) (mC Φ G W X (.cons ca cb)) := by
  refine PSs.mono (pss_cons h1 h2) fun D' σ H ⟨ρ, S, m, env, rs, q⟩ => ?_
  simp only [exec] at q
  refine ⟨ρ, S, m, env, rs, q.then fun m1 H1 S1 f e1 rs1 p1 => ?_⟩
  cases f with
  | nx ρ1 => exact fun σ1 env1 => ⟨ρ1, S1, m1, env1, rs1, p1⟩
  | rt v => exact p1 m1 H1 (Ext.refl _ _) rs1
  | bk ρ1 => exact p1 m1 H1 (Ext.refl _ _) rs1
  | ct ρ1 => exact p1 m1 H1 (Ext.refl _ _) rs1
/-- the store of a value into a target -/
theorem asg_of {σ : St} {H : Hp} {D' : Ends} (h : mC Φ G W X (.asg itg ie) D' σ H) : tAsg (mD Φ G X ie) (mG Φ G X itg) D' σ H := by
  obtain ⟨ρ, S, m, env, rs, q⟩ := h
  simp only [exec] at q
  refine tF_step env rs q fun m1 H1 S1 x v e1 env1 rs1 r1 p1 => ?_
  exact ⟨x, ρ, S1, m1, env1, rs1, r1, p1.bind fun m2 H2 S2 ρ2 σ2 e2 rs2 env2 p2 => p2 m2 H2 (Ext.refl _ _) rs2 σ2 env2.1⟩
theorem ms_asg (he : PE X e (mD Φ G X ie)) (hg : PG X tg (mG Φ G X itg)) (hs : swapsWithSole [tg] e pos.line X.env = pure false) (hw : swappedStores [tg] e X.env = pure none) (ht : notStar tg = true) : PS X (.Assign [tg] e pos) (mC Φ G W X (.asg itg ie)) :=
  PS.mono (ps_asg he hg hs hw (by cases tg <;> first | rfl | (simp [notStar] at ht))) fun _ _ _ h => asg_of h
theorem ms_exp (he : PE X e (mD Φ G X ie)) (hs : notComp e = true) : PS X (.Expr e pos) (mC Φ G W X (.exp ie)) := by
  refine PS.mono (ps_expr he (not_comp hs)) fun D' σ H ⟨ρ, S, m, env, rs, q⟩ => ?_
  simp only [exec] at q
  exact tF_step env rs q fun m1 H1 S1 x v e1 env1 rs1 r1 p1 => p1 m1 H1 (Ext.refl _ _) rs1 σ env1
theorem ms_ret (he : PE X e (mD Φ G X ie)) : PS X (.Return (some e) pos) (mC Φ G W X (.ret ie)) := by
  refine PS.mono (ps_ret he) fun D' σ H ⟨ρ, S, m, env, rs, q⟩ => ?_
  simp only [exec] at q
  exact tF_step env rs q fun m1 H1 S1 x v e1 env1 rs1 r1 p1 => p1 m1 H1 (Ext.refl _ _) rs1 v r1
theorem ms_retN : PS X (.Return none pos) (mC Φ G W X .retN) := PS.mono ps_retN fun D' σ H ⟨ρ, S, m, env, rs, q⟩ => by
  simp only [exec] at q
  exact q m H (Ext.refl _ _) rs .non (Rep.non_.mpr rfl)
theorem ms_pas : PS X (.Pass pos) (mC Φ G W X .pas) := PS.mono ps_pass fun D' σ H ⟨ρ, S, m, env, rs, q⟩ => by
  simp only [exec] at q
  exact q m H (Ext.refl _ _) rs σ env
theorem ms_brk : PS X (.Break pos) (mC Φ G W X .brk) := PS.mono ps_break fun D' σ H ⟨ρ, S, m, env, rs, q⟩ => by
  simp only [exec] at q
  exact q m H (Ext.refl _ _) rs σ env
theorem ms_cnt : PS X (.Continue pos) (mC Φ G W X .cnt) := PS.mono ps_continue fun D' σ H ⟨ρ, S, m, env, rs, q⟩ => by
  simp only [exec] at q
  exact q m H (Ext.refl _ _) rs σ env
theorem ms_ife {sa sb : List Stmt} (he : PT X e (mT Φ G X ie)) (ha : PSs X sa (mC Φ G W X ca)) (hb : PSs X sb (mC Φ G W X cb)) : PS X (.If e sa sb pos) (mC Φ G W X (.ife ie ca cb)) := by
  refine PS.mono (ps_if he ha hb) fun D' σ H ⟨ρ, S, m, env, rs, q⟩ => ?_
  simp only [exec] at q
  refine tFT_step env rs q fun m1 H1 S1 c e1 env1 rs1 p1 => ?_
  cases c with
  | true => rw [if_pos rfl] at p1 ⊢; exact ⟨ρ, S1, m1, env1, rs1, p1⟩
  | false => rw [if_neg Bool.false_ne_true] at p1 ⊢; exact ⟨ρ, S1, m1, env1, rs1, p1⟩
theorem ms_whl {sa : List Stmt} (hp : PassesOwn (model X.prog X.w) X.A X.env X.xe) (he : PT X e (mT Φ G X ie)) (ha : PSs X sa (mC Φ G W X ca)) : PS X (.While e sa [] pos) (mC Φ G W X (.whl ie ca)) := by
  refine PS.mono (ps_while hp he ha) fun D' σ H ⟨ρ, S, m, env, rs, q⟩ => ?_
  simp only [exec] at q
  refine ⟨fun n σ H => ∃ ρ S m, EnvR X.K m H ρ σ ∧ RepS X.K m H S ∧ PostF X.K m H (whlGo (den Φ G ie) (exec Φ G W ca) n ρ S) D', ⟨W, ρ, S, m, env, rs, q⟩, ?_⟩
  rintro n σ H ⟨ρ, S, m, env, rs, q⟩
  cases n with
  | zero => exact q.elim
  | succ n =>
    simp only [whlGo] at q
    refine tFT_step env rs q fun m1 H1 S1 c e1 env1 rs1 p1 => ?_
    cases c with
    | true =>
      rw [if_pos rfl] at p1 ⊢
      refine ⟨fun σ' H' => ∃ ρ S m, EnvR X.K m H' ρ σ' ∧ RepS X.K m H' S ∧ PostF X.K m H' (whlGo (den Φ G ie) (exec Φ G W ca) n ρ S) D', fun σ' H' h => ⟨n, Nat.lt_succ_self _, h⟩, ρ, S1, m1, env1, rs1, p1.then fun m2 H2 S2 f e2 rs2 p2 => ?_⟩
      cases f with
      | nx ρ2 => exact fun σ2 env2 => ⟨ρ2, S2, m2, env2, rs2, p2⟩
      | ct ρ2 => exact fun σ2 env2 => ⟨ρ2, S2, m2, env2, rs2, p2⟩
      | bk ρ2 => exact fun σ2 env2 => p2 m2 H2 (Ext.refl _ _) rs2 σ2 env2
      | rt v => exact fun w r4 => p2 m2 H2 (Ext.refl _ _) rs2 w r4
    | false =>
      rw [if_neg Bool.false_ne_true] at p1 ⊢
      exact p1 m1 H1 (Ext.refl _ _) rs1 σ env1
/-- x op= e -/
theorem ms_aug {o : Operator} {o' : Bop} (ho : (o = .Add ∧ o' = .add) ∨ (o = .Sub ∧ o' = .sub)) {i : Nat} {x : Str} (hN : X.N.Nodup) (hi : X.N[i]? = some x) (hx : Loc X.env.scope x) (hf : X.fn x = true ∨ X.env.scope.names.lookup x = some .local) (he : PE X e (mD Φ G X ie)) : PS X (.AugAssign (.Name x p) o e pos) (mC Φ G W X (.aug i o' ie)) := by
  rcases ho with ⟨rfl, rfl⟩ | ⟨rfl, rfl⟩
  all_goals
    refine PS.mono (ps_aug hN hi hx he (by first | exact ip_add | exact ip_sub) hf) fun D' σ H ⟨ρ, S, m, env, rs, q⟩ => ?_
    simp only [exec] at q
    split at q
    · rename_i d hd
      obtain ⟨v, hv, r⟩ := env.2 i d hd
      refine ⟨v, hv, tF_step env rs q fun m1 H1 S1 y u e1 env1 rs1 r1 p1 => ?_⟩
      have r := Rep.ext e1 d r
      cases d <;> cases y <;> first | exact p1.elim | skip
      rw [Rep.int_] at r r1
      exact ⟨_, _, r, r1, p1 m1 H1 (Ext.refl _ _) rs1 _ (env1.set (Rep.int_.mpr rfl))⟩
    · exact q.elim
theorem denG2 {i j : Nat} {x y : D} {ρ : Rho} {S : Hs} : denG Φ G (.tup (.cons (.var i) (.cons (.var j) .nil))) (.tup [x, y]) ρ S = if i < ρ.length then (if j < ρ.length then .ok ((ρ.set i (some x)).set j (some y)) S else .no) else .no := by
  have h : [x, y].length = cnt (.cons (.var i) (.cons (.var j) .nil)) := rfl
  simp only [denG, if_pos h, denGs]
  by_cases hi : i < ρ.length
  · rw [if_pos hi, if_pos hi, R.bind_ok, List.length_set]
    by_cases hj : j < ρ.length
    · rw [if_pos hj]; rfl
    · rw [if_neg hj]; rfl
  · rw [if_neg hi, if_neg hi]; rfl
theorem denG3 {i j l : Nat} {x y z : D} {ρ : Rho} {S : Hs} : denG Φ G (.tup (.cons (.var i) (.cons (.var j) (.cons (.var l) .nil)))) (.tup [x, y, z]) ρ S = if i < ρ.length then (if j < ρ.length then (if l < ρ.length then .ok (((ρ.set i (some x)).set j (some y)).set l (some z)) S else .no) else .no) else .no := by
  have h : [x, y, z].length = cnt (.cons (.var i) (.cons (.var j) (.cons (.var l) .nil))) := rfl
  simp only [denG, if_pos h, denGs]
  by_cases hi : i < ρ.length
  · rw [if_pos hi, if_pos hi, R.bind_ok, List.length_set]
    by_cases hj : j < ρ.length
    · rw [if_pos hj, if_pos hj, R.bind_ok, List.length_set, List.length_set]
      by_cases hl : l < ρ.length
      · rw [if_pos hl]; rfl
      · rw [if_neg hl]; rfl
    · rw [if_neg hj, if_neg hj]; rfl
  · rw [if_neg hi, if_neg hi]; rfl
theorem lim2 {x y : D} {S : Hs} : lim [x, y].length (.ok (D.tup [x, y]) S) = .ok (D.tup [x, y]) S := if_pos (by show 2 ≤ sizeLine; decide)
theorem lim3 {x y z : D} {S : Hs} : lim [x, y, z].length (.ok (D.tup [x, y, z]) S) = .ok (D.tup [x, y, z]) S := if_pos (by show 3 ≤ sizeLine; decide)
theorem PostF.biteF {K : PySem.W.Frag} {m : List Addr} {H : Hp} {c : Prop} [Decidable c] {r : R Rho} {g : Rho → Hs → R Fl} {D' : Ends} (h : PostF K m H ((if c then r else .no).bind g) D') : PostF K m H (r.bind g) D' := by
  by_cases e : c
  · rw [if_pos e] at h; exact h
  · rw [if_neg e] at h; exact h.elim
/-- a, b = x, y: no pair is made -/
theorem ms_par {i j : Nat} {x y : Str} {px py pt pt2 : Pos} {kt k2 : Nat} (hc : X.calm = true) (hN : X.N.Nodup) (hi : X.N[i]? = some x) (hj : X.N[j]? = some y) (hij : i ≠ j) (hx : X.env.scope.names.lookup x = some .local) (hy : X.env.scope.names.lookup y = some .local)
    (hsa : notStar a = true) (hsb : notStar b = true) (ha : PE X a (mD Φ G X ia)) (hb : PE X b (mD Φ G X ib)) (hw : swappedStores [.Tuple [.Name x px, .Name y py] kt pt] (.Tuple [a, b] k2 pt2) X.env = pure (some [x, y])) :
    PS X (.Assign [.Tuple [.Name x px, .Name y py] kt pt] (.Tuple [a, b] k2 pt2) pos) (mC Φ G W X (.asg (.tup (.cons (.var i) (.cons (.var j) .nil))) (.tup (.cons ia (.cons ib .nil))))) := by
  refine PS.mono (ps_par hc hN hi hj hij hx hy (pa_cons ha (pa_cons hb pa_nil (star_cons hsb)) (star_cons hsa)) hw) fun D' σ H ⟨ρ, S, m, env, rs, q⟩ => ?_
  simp only [exec, den, denL, R.bind_assoc, R.bind_ok] at q
  refine tF_step env rs q fun m1 H1 S1 x v e1 env1 rs1 r1 p1 => tF_step env1 rs1 p1 fun m2 H2 S2 y u e2 env2 rs2 r2 p2 => ?_
  refine ⟨v, u, rfl, ?_⟩
  rw [lim2, R.bind_ok, denG2] at p2
  have p2 := p2.biteF.biteF
  exact p2 m2 H2 (Ext.refl _ _) rs2 _ ((env2.set (Rep.ext e2 x r1)).set r2)
theorem ms_par3 {i j l : Nat} {x y z : Str} {px py pz pt pt2 : Pos} {kt k2 : Nat} (hc : X.calm = true) (hN : X.N.Nodup) (hi : X.N[i]? = some x) (hj : X.N[j]? = some y) (hl : X.N[l]? = some z) (hij : i ≠ j) (hil : i ≠ l) (hjl : j ≠ l) (hx : X.env.scope.names.lookup x = some .local) (hy : X.env.scope.names.lookup y = some .local) (hz : X.env.scope.names.lookup z = some .local)
    (hsa : notStar a = true) (hsb : notStar b = true) (hsd : notStar d = true) (ha : PE X a (mD Φ G X ia)) (hb : PE X b (mD Φ G X ib)) (hd : PE X d (mD Φ G X id)) (hw : swappedStores [.Tuple [.Name x px, .Name y py, .Name z pz] kt pt] (.Tuple [a, b, d] k2 pt2) X.env = pure (some [x, y, z])) :
    PS X (.Assign [.Tuple [.Name x px, .Name y py, .Name z pz] kt pt] (.Tuple [a, b, d] k2 pt2) pos) (mC Φ G W X (.asg (.tup (.cons (.var i) (.cons (.var j) (.cons (.var l) .nil)))) (.tup (.cons ia (.cons ib (.cons id .nil)))))) := by
  refine PS.mono (ps_par3 hc hN hi hj hl hij hil hjl hx hy hz (pa_cons ha (pa_cons hb (pa_cons hd pa_nil (star_cons hsd)) (star_cons hsb)) (star_cons hsa)) hw) fun D' σ H ⟨ρ, S, m, env, rs, q⟩ => ?_
  simp only [exec, den, denL, R.bind_assoc, R.bind_ok] at q
  refine tF_step env rs q fun m1 H1 S1 x v e1 env1 rs1 r1 p1 => tF_step env1 rs1 p1 fun m2 H2 S2 y u e2 env2 rs2 r2 p2 => tF_step env2 rs2 p2 fun m3 H3 S3 z w e3 env3 rs3 r3 p3 => ?_
  refine ⟨v, u, w, rfl, ?_⟩
  rw [lim3, R.bind_ok, denG3] at p3
  have p3 := p3.biteF.biteF.biteF
  exact p3 m3 H3 (Ext.refl _ _) rs3 _ (((env3.set (Rep.ext (e2.trans e3) x r1)).set (Rep.ext e3 y r2)).set r3)
end
end
end RS

namespace RS
open PySem PySem.Spec L2
variable {Φ : Nat → List D → Hs → R D} {G : Nat → D} {k : Nat}
/-! ### comprehensions -/
section
variable {K : PySem.W.Frag} {m m' : List Addr} {H H' : Hp} {S : Hs}
/-- a list that is not numbered changes -/
theorem Ext0.side {d : Addr} {xs ys : List V} (h : H d = some (.lst xs)) : Ext0 m m H (upd H d (.lst ys)) := ⟨fun h => h, fun a zs e => by
  rw [upd_ne (ne_of e h (by intro z; cases z))]
  exact e⟩
theorem RepS.side (rs : RepS K m H S) {d : Addr} {xs ys : List V} (h : H d = some (.lst xs)) (hd : d ∉ m) : RepS K m (upd H d (.lst ys)) S := by
  refine ⟨rs.len, rs.inj, fun n u a e1 e2 => (rs.obj n u a e1 e2).ext0 (Ext0.side h) (upd_ne fun q => hd (q ▸ List.mem_of_getElem? e2))⟩
/-- what was side is numbered -/
theorem RepS.adopt (rs : RepS K m H S) {d : Addr} {xs : List V} {ds : List D} (h : H d = some (.lst xs)) (hd : d ∉ m) (r : Reps K m H ds xs) : RepS K (m ++ [d]) H (S ++ [.lst ds]) := by
  have e : Ext0 m (m ++ [d]) H H := ⟨fun {n a} h => by rw [List.getElem?_append_left (List.getElem?_eq_some_iff.mp h).1]; exact h, fun _ _ e => e⟩
  refine ⟨by simp [rs.len], ?_, fun n v a e1 e2 => ?_⟩
  · rw [List.nodup_append]
    exact ⟨rs.inj, by simp, fun a ha b hb => by simp at hb; rw [hb]; exact fun q => hd (q ▸ ha)⟩
  · by_cases hn : n < S.length
    · rw [List.getElem?_append_left hn] at e1
      rw [List.getElem?_append_left (by rw [rs.len]; exact hn)] at e2
      exact (rs.obj n v a e1 e2).ext0 e rfl
    · have hn2 : n = S.length := by
        have := (List.getElem?_eq_some_iff.mp e1).1
        simp at this
        omega
      subst hn2
      rw [List.getElem?_append_right (Nat.le_refl _)] at e1
      rw [List.getElem?_append_right (by rw [rs.len]; exact Nat.le_refl _)] at e2
      simp [rs.len] at e1 e2
      rw [← e1, ← e2]
      exact ⟨xs, h, Reps.ext0 e ds r⟩
theorem Ext.side {m0 : List Addr} {H0 : Hp} (e : Ext m0 m H0 H) {d : Addr} {o : HO} (h0 : H0 d = none) (h : H d ≠ none) : Ext m0 m H0 (upd H d o) :=
  ⟨e.pre, fun a u ha q => by rw [upd_ne (ne_of_none q h0)]; exact e.fr a u ha q, fun a xs q => by rw [upd_ne (ne_of_none q h0)]; exact e.tup a xs q, fun a q => by
    by_cases z : a = d
    · rw [z, upd_same] at q; cases q
    · rw [upd_ne z] at q; exact e.al a q⟩
theorem Ext.adopt {m0 : List Addr} {H0 : Hp} (e : Ext m0 m H0 H) {d : Addr} (h0 : H0 d = none) : Ext m0 (m ++ [d]) H0 H := by
  obtain ⟨ms, rfl, h⟩ := e.pre
  refine ⟨⟨ms ++ [d], by simp, fun a ha => ?_⟩, e.fr, e.tup, e.al⟩
  rcases List.mem_append.mp ha with ha | ha
  · exact h a ha
  · simp at ha; rw [ha]; exact h0
theorem Ext.keepSide (e : Ext m m' H H') {d : Addr} {xs : List V} (h : H d = some (.lst xs)) (hd : d ∉ m) : H' d = some (.lst xs) ∧ d ∉ m' := by
  refine ⟨e.fr d _ hd h, fun q => ?_⟩
  obtain ⟨ms, rfl, hm⟩ := e.pre
  rcases List.mem_append.mp q with q | q
  · exact hd q
  · rw [hm d q] at h; cases h
end
theorem wipe_get (σ : St) : ∀ (vs : List Nat) (j : Nat), (L2.wipe σ vs)[j]? = if j ∈ vs ∧ j < σ.length then some none else σ[j]?
  | [], j => by simp [L2.wipe]
  | v :: vs, j => by
    simp only [L2.wipe]
    by_cases h : v = j
    · subst h
      by_cases hl : v < σ.length
      · rw [List.getElem?_set_self (by rw [L2.wipe_length]; exact hl)]
        simp [hl]
      · rw [List.getElem?_eq_none (by simp [L2.wipe_length]; omega)]
        rw [if_neg (by simp; omega), List.getElem?_eq_none (by omega)]
    · rw [List.getElem?_set_ne h, wipe_get σ vs j]
      by_cases h2 : j ∈ vs
      · simp [h2]
      · have : ¬ j = v := fun e => h e.symm
        simp [h2, this]
theorem wipe_eq {σ τ : St} {vs sl : List Nat} (hl : σ.length = τ.length) (h : ∀ j, j ∉ sl → σ[j]? = (L2.wipe τ vs)[j]?) (hs : ∀ j ∈ sl, j ∈ vs) : L2.wipe σ vs = L2.wipe τ vs := by
  apply List.ext_getElem?
  intro j
  rw [wipe_get, wipe_get, hl]
  by_cases hj : j ∈ vs
  · by_cases hlt : j < τ.length
    · rw [if_pos ⟨hj, hlt⟩, if_pos ⟨hj, hlt⟩]
    · rw [if_neg (fun z => hlt z.2), if_neg (fun z => hlt z.2)]
      rw [List.getElem?_eq_none (by omega), List.getElem?_eq_none (by omega)]
  · rw [if_neg (fun z => hj z.1), if_neg (fun z => hj z.1)]
    rw [h j fun z => hj (hs j z), wipe_get, if_neg (fun z => hj z.1)]
section
variable {X : Cx} {elt tg iter : Expr} {ifs : List Expr} {scope : Scope} {own : List (Str × Nat)} {pos : Pos} {ie itg it ic : E}
theorem lc_of (hsl : ∀ j ∈ slotsG itg, j ∈ own.map (·.2)) {σ : St} {H : Hp} {Q : VK} (h : mD Φ G X (.lc (own.map (·.2)) ie itg it ic) σ H Q) :
    tLc (mI Φ G X it) (mG Φ G X itg) (mT Φ G X ic) (mD Φ G X ie) (own.map (·.2)) σ H Q := by
  obtain ⟨ρ, S, m, env, rs, q⟩ := h
  generalize own.map (·.2) = vs at *
  simp only [den] at q
  refine tG_step (relF := relI X.K) env rs q fun m1 H1 S1 src J e1 env1 rs1 wd p1 => ?_
  intro dd hdd
  let turn : D → Hs → R (Option D) := fun d S' => (denG Φ G itg d (wipeR ρ vs) S').bind fun ρ' S2 => (den Φ G ic ρ' S2).bind fun k S3 => tst k ((den Φ G ie ρ' S3).bind fun x S4 => .ok (some x) S4) (.ok none S3)
  refine ⟨fun i k H => k = src.its.length - i ∧ i ≤ src.its.length ∧ ∃ S' m' acc accD, Ext m1 m' H1 H ∧ RepS X.K m' H S' ∧ H dd = some (.lst acc) ∧ dd ∉ m' ∧ Reps X.K m' H accD acc ∧ acc.length ≤ i ∧ src.its.length ≤ sizeLine ∧
    EnvR X.K m' H ρ σ ∧ Post X.K m1 H1 (Rep X.K) ((lcGo src.gs turn (src.its.drop i) S').bind fun r S2 => newO (.lst (accD ++ r)) S2) Q, ⟨_, rfl, Nat.zero_le _, ?_⟩, ?_⟩
  · have hz : src.its.length ≤ sizeLine ∧ Post X.K m1 H1 (Rep X.K) ((lcGo src.gs turn src.its S1).bind fun r S2 => newO (.lst r) S2) Q := by
      cases el : lcGo src.gs turn src.its S1 with
      | ok r S2 =>
        have p2 := p1
        simp only [turn] at el
        rw [el] at p2
        simp only [R.bind_ok] at p2 ⊢
        exact p2.lim
      | ex => have p2 := p1; simp only [turn] at el; rw [el] at p2; exact p2.elim
      | no => have p2 := p1; simp only [turn] at el; rw [el] at p2; exact p2.elim
    refine ⟨S1, m1, [], [], Ext.tupNew rs1 hdd, rs1.tupNew hdd, upd_same, rs1.free hdd, Reps.nil_.mpr rfl, Nat.le_refl _, hz.1, env1.ext (Ext.tupNew rs1 hdd), ?_⟩
    simpa using hz.2
  rintro i k' H ⟨rfl, hi, S', m', acc, accD, e', rs', hd', hdm, racc, hacc, hz, env', p'⟩
  by_cases hlt : i < src.its.length
  · rw [List.drop_eq_getElem_cons hlt] at p'
    simp only [lcGo] at p'
    have hh : held S' src.gs = true := by
      by_cases hh : held S' src.gs = true
      · exact hh
      · rw [if_neg hh] at p'; exact p'.elim
    rw [if_pos hh] at p'
    refine .inr ⟨wd.goes i H hlt ⟨m', S', e', rs', hh⟩, fun H' => ∃ S' m' acc accD, Ext m1 m' H1 H' ∧ RepS X.K m' H' S' ∧ H' dd = some (.lst acc) ∧ dd ∉ m' ∧ Reps X.K m' H' accD acc ∧ acc.length ≤ i + 1 ∧ src.its.length ≤ sizeLine ∧
      EnvR X.K m' H' ρ σ ∧ Post X.K m1 H1 (Rep X.K) ((lcGo src.gs turn (src.its.drop (i + 1)) S').bind fun r S2 => newO (.lst (accD ++ r)) S2) Q, fun H' h => ⟨src.its.length - (i + 1), by omega, rfl, hlt, h⟩, fun x H' y => ?_⟩
    obtain ⟨d, hd, e2, rs2, r2⟩ := wd.yields i H x H' hlt y m' S' e' rs' hh
    have hdi : src.its[i] = d := by
      rw [List.getElem?_eq_getElem hlt] at hd
      exact Option.some.inj hd
    rw [hdi] at p'
    simp only [turn, R.bind_assoc] at p'
    have env2 := env'.ext e2
    refine ⟨d, wipeR ρ vs, S', m', env2.wipe vs, rs2, r2, p'.bindB fun m3 H3 S3 ρ3 σ3 e3 rs3 env3 p3 => ⟨?_, ?_⟩⟩
    · exact wipe_eq (env3.2.1.trans (L2.wipe_length _ _)) env3.2.2 hsl
    obtain ⟨k1, k2⟩ := (e2.trans e3).keepSide hd' hdm
    have r3 := Reps.ext (e2.trans e3) accD racc
    have env0 := env'.ext (e2.trans e3)
    have p3' : Post X.K m1 H1 (Rep X.K) ((den Φ G ic ρ3 S3).bind fun k S3 => tst k ((den Φ G ie ρ3 S3).bind fun x S4 => (lcGo src.gs turn (src.its.drop (i + 1)) S4).bind fun r S2 => newO (.lst (accD ++ x :: r)) S2) ((lcGo src.gs turn (src.its.drop (i + 1)) S3).bind fun r S2 => newO (.lst (accD ++ r)) S2)) Q := by
      revert p3
      cases den Φ G ic ρ3 S3 with
      | ok kk S4 =>
        simp only [R.bind_ok]
        cases kk with
        | bl c => cases c <;> simp only [tst_t, tst_f, R.bind_ok, R.bind_assoc] <;> exact fun p => p
        | _ => exact fun p => p
      | ex => exact fun p => p
      | no => exact fun p => p
    refine tT_stepB env3.1 rs3 p3' fun m4 H4 S4 c e4 env4 rs4 p4 => ?_
    obtain ⟨k3, k4⟩ := e4.keepSide k1 k2
    have r4 := Reps.ext e4 accD r3
    have env5 := env0.ext e4
    have e14 : Ext m1 m4 H1 H4 := e'.trans (e2.trans (e3.trans e4))
    cases c with
    | true =>
      rw [if_pos rfl] at p4 ⊢
      refine ⟨ρ3, S4, m4, env4, rs4, p4.bindB fun m5 H5 S5 z zv e5 rs5 rz p5 => ?_⟩
      obtain ⟨k5, k6⟩ := e5.keepSide k3 k4
      have r5 := Reps.ext e5 accD r4
      have side : Ext0 m5 m5 H5 (upd H5 dd (.lst (acc ++ [zv]))) := Ext0.side k5
      refine ⟨acc, k5, by omega, S5, m5, acc ++ [zv], accD ++ [z], (e14.trans e5).side hdd (by rw [k5]; exact fun z => nomatch z), rs5.side k5 k6, upd_same, k6, Reps.ext0 side _ (r5.append (Reps.one rz)), by simp; exact hacc, hz, (env5.ext e5).ext0 side, ?_⟩
      simpa using p5
    | false =>
      rw [if_neg Bool.false_ne_true] at p4 ⊢
      exact ⟨S4, m4, acc, accD, e14, rs4, k3, k4, r4, by omega, hz, env5, p4⟩
  · have ei : i = src.its.length := by omega
    subst ei
    rw [List.drop_length] at p'
    simp only [lcGo] at p'
    have hh : held S' src.gs = true := by
      by_cases hh : held S' src.gs = true
      · exact hh
      · rw [if_neg hh] at p'; exact p'.elim
    rw [if_pos hh] at p'
    simp only [R.bind_ok, List.append_nil] at p'
    refine .inl ⟨wd.stops H ⟨m', S', e', rs', hh⟩, p' (.ref dd) (m' ++ [dd]) H (e'.adopt hdd) (rs'.adopt hd' hdm racc) ?_⟩
    rw [Rep.ref_]
    exact ⟨dd, by rw [← rs'.len, List.getElem?_append_right (Nat.le_refl _)]; simp, rfl⟩
end
end RS

namespace RS
open PySem PySem.Spec L2
variable {Φ : Nat → List D → Hs → R D} {G : Nat → D} {k : Nat}
/-! ### facts of stores -/
theorem blockKind_of {env : PySem.Env} (h : kindF env.scope = true) : env.scope.kind = .function ∧ env.blockKind = .function := by
  unfold kindF at h
  split at h
  · rename_i e
    exact ⟨e, by unfold PySem.Env.blockKind; rw [e]; rfl⟩
  · cases h
theorem swaps_lc {elt : Expr} {gs : List Comprehension} {scope : Scope} {pos py : Pos} {y : Str} {l : Nat} {env : PySem.Env} (hk : kindF env.scope = true) : swapsWith (.ListComp elt gs scope pos) (some (.Name y py)) l env = pure (swB env.scope y py scope pos) := by
  have hb := (blockKind_of hk).2
  unfold swapsWith swB
  simp only [hb, Expr.pos, PySem.Env.kindOf]
  rfl
theorem swappedStores_eq {ts vs : List Expr} {k k2 : Nat} {p p2 : Pos} {env : PySem.Env} : swappedStores [.Tuple ts k p] (.Tuple vs k2 p2) env =
    (if (!(ts.length == 2 || ts.length == 3) || vs.length != ts.length || env.blockKind != .function) = true then pure none else if starAny vs = true then pure none else
     if ((swNames env.scope ts).length != ts.length || (swNames env.scope ts).eraseDups.length != (swNames env.scope ts).length) = true then pure none else if vs.all (foldedForSure 8) = true then pure none else
     if vs.all (constantsAlone 8) = true then (do unsupported "assign.tuple-of-constant-expressions:order-of-the-stores"; pure (some (swNames env.scope ts))) else pure (some (swNames env.scope ts))) := rfl
theorem swn_of {ts vs : List Expr} {k k2 : Nat} {p p2 : Pos} {env : PySem.Env} {r : Option (List Str)} (hk : kindF env.scope = true) (h : swN env.scope ts vs = some r) : swappedStores [.Tuple ts k p] (.Tuple vs k2 p2) env = pure r := by
  have hb := (blockKind_of hk).2
  rw [swappedStores_eq, hb]
  unfold swN at h
  by_cases c1 : (!(ts.length == 2 || ts.length == 3) || vs.length != ts.length) = true
  · rw [if_pos c1] at h
    cases h
    rw [if_pos (by rw [c1]; rfl)]
  · rw [if_neg c1] at h
    rw [if_neg (by rw [Bool.eq_false_iff.mpr c1]; simp)]
    by_cases c2 : starAny vs = true
    · rw [if_pos c2] at h ⊢
      cases h; rfl
    · rw [if_neg c2] at h ⊢
      by_cases c3 : ((swNames env.scope ts).length != ts.length || (swNames env.scope ts).eraseDups.length != (swNames env.scope ts).length) = true
      · rw [if_pos c3] at h ⊢
        cases h; rfl
      · rw [if_neg c3] at h ⊢
        by_cases c4 : vs.all (foldedForSure 8) = true
        · rw [if_pos c4] at h ⊢
          cases h; rfl
        · rw [if_neg c4] at h ⊢
          by_cases c5 : vs.all (constantsAlone 8) = true
          · rw [if_pos c5] at h; cases h
          · rw [if_neg c5] at h ⊢
            cases h; rfl
theorem sw_none {tg e : Expr} {env : PySem.Env} (h : (isTup tg && isTup e) = false) (h2 : isLst tg = false) : swappedStores [tg] e env = pure none := by
  unfold swappedStores
  cases tg <;> first | rfl | (simp [isLst] at h2; done) | (cases e <;> first | rfl | (simp [isTup] at h))
/-! ### what holds in a block -/
theorem Good.blk {X : Cx} {T : Tab} (g : Good X T Φ G k) (s : Shared) (H : Hp) (scope : Scope) (cl : List (Str × Addr)) (C : Addr) (fp : List Addr) : Good (X.blk s H scope (compEnvC scope cl C X.env) fp) T Φ G k :=
  ⟨g.calm, g.nd, g.room, PassesOwn.never, g.fns, g.blt, g.con⟩
theorem mem_ownNames {scope : Scope} {x : Str} (h : (ownNames scope).contains x = true) : ∃ kk, (x, kk) ∈ scope.names ∧ (kk = .local ∨ kk = .cell) := by
  rw [List.contains_iff_mem] at h
  unfold ownNames at h
  obtain ⟨⟨y, kk⟩, hm, e⟩ := List.mem_filterMap.mp h
  cases kk <;> simp at e <;> subst e
  · exact ⟨_, hm, .inl rfl⟩
  · exact ⟨_, hm, .inr rfl⟩
theorem GC.blk {X : Cx} {c : Cc} (gc : GC X c) {scope : Scope} (ok : BlkOk X.N X.env.scope scope (ownOf c.N scope)) (s : Shared) (H : Hp) (cl : List (Str × Addr)) (C : Addr) (fp : List Addr) :
    GC (X.blk s H scope (compEnvC scope cl C X.env) fp) { c with sc := relS scope c.sc, wr := ownNames scope } := by
  refine ⟨gc.N, ?_, fun x hx => ?_⟩
  · show relabel scope X.env = relS scope c.sc
    rw [← gc.sc]
    rfl
  · obtain ⟨kk, hm, hk⟩ := mem_ownNames hx
    have hu := ok.uniq _ hm
    have hr : (relS scope X.env.scope).names.lookup x = some kk := lookup_relS_keep (sc := X.env.scope) (names := scope.names) (by rcases hk with e | e <;> rw [e] <;> exact fun z => nomatch z) hu
    rcases hk with rfl | rfl
    · exact ⟨.inl hr, .inr hr⟩
    · refine ⟨.inr hr, .inl ?_⟩
      show (scope.names.lookup x == some .cell) = true
      rw [hu]; rfl

/-! ### the whole -/
theorem compL_stars : ∀ {es : List Expr} {n : Nat} {c : Cc} {il : E}, compL n c es = some il → noStars es
  | [], _, _, _, _ => fun _ h => by cases h
  | e :: es, 0, c, il, h => by simp [compL] at h
  | e :: es, n + 1, c, il, h => by
    simp only [compL] at h
    split at h
    · rename_i hs
      split at h
      · rename_i a b h1 h2
        intro e' he
        rcases List.mem_cons.mp he with rfl | he
        · exact hs
        · exact compL_stars h2 _ he
      · cases h
    · cases h
theorem biOf_nm {x : Str} {b : Bi} (h : biOf x = some b) : x = b.nm ∧ b ∈ [Bi.len, .int, .list, .tuple, .sum, .all, .any, .max, .min] := by
  unfold biOf at h
  repeat' split at h
  all_goals first | (cases h; done) | (cases h; rename_i e; exact ⟨e, by decide⟩)
section
variable {X : Cx} {c : Cc}
structure OkN (Φ : Nat → List D → Hs → R D) (G : Nat → D) (k n : Nat) : Prop where
  Ex : ∀ (X : Cx) (c : Cc), Good X c.T Φ G k → GC X c → ∀ e ir, compE n c e = some ir → PE X e (mD Φ G X ir) ∧ PT X e (mT Φ G X ir) ∧ (∀ o es p, e = .BoolOp o es p → PW X e (mT Φ G X ir))
  Ls : ∀ (X : Cx) (c : Cc), Good X c.T Φ G k → GC X c → ∀ es ir, compL n c es = some ir → PA X es (mL Φ G X ir)
  Sl : ∀ (X : Cx) (c : Cc), Good X c.T Φ G k → GC X c → ∀ e ir, compO n c e = some ir → PO X e (mO Φ G X ir)
  Ts : ∀ (X : Cx) (c : Cc), Good X c.T Φ G k → GC X c → ∀ es ir, compT n c es = some ir → PTs X es (mT Φ G X ir)
  Tg : ∀ (X : Cx) (c : Cc), Good X c.T Φ G k → GC X c → ∀ e ir, compG n c e = some ir → PG X e (mG Φ G X ir)
  Tgs : ∀ (X : Cx) (c : Cc), Good X c.T Φ G k → GC X c → ∀ es ir, compGs n c es = some ir → PGs X es (mGs Φ G X ir)
  It : ∀ (X : Cx) (c : Cc), Good X c.T Φ G k → GC X c → ∀ tg e ir, compI n c tg e = some ir → PI X tg e (mI Φ G X ir)
theorem Good.hu {T : Tab} (g : Good X T Φ G k) : X.A.units + 64 < cLine := g.room.units
theorem okn0 : OkN Φ G k 0 := ⟨fun _ _ _ _ e ir h => by simp [compE] at h, fun _ _ _ _ e ir h => by simp [compL] at h, fun _ _ _ _ e ir h => by simp [compO] at h, fun _ _ _ _ e ir h => by simp [compT] at h, fun _ _ _ _ e ir h => by simp [compG] at h, fun _ _ _ _ e ir h => by simp [compGs] at h, fun _ _ _ _ tg e ir h => by simp [compI] at h⟩
/-- a value that is no test of its own kind -/
theorem both {e : Expr} {ir : E} (h : PE X e (mD Φ G X ir)) (hp : plainTest e = true) : PE X e (mD Φ G X ir) ∧ PT X e (mT Φ G X ir) ∧ (∀ o es p, e = .BoolOp o es p → PW X e (mT Φ G X ir)) :=
  ⟨h, mt_plain h hp, fun o es p q => by subst q; simp [plainTest] at hp⟩
/-- a built-in's call -/
theorem me_blt (g : Good X c.T Φ G k) {b : Bi} (hb : b ∈ [Bi.len, .int, .list, .tuple, .sum, .all, .any, .max, .min]) (hg : Gl X b.nm) (hf : c.T.fns.contains b.nm = false) (hc : c.T.cons.contains b.nm = false) {e : Expr} {es : List Expr} {il : E} {p pos : Pos} (hs : noStars (e :: es)) (h : PA X (e :: es) (mL Φ G X il)) :
    PE X (.Call (.Name b.nm p) (e :: es) [] pos) (mD Φ G X (.bi b il)) := by
  have hm : ∀ b : Bi, b ∈ [Bi.len, .int, .list, .tuple, .sum, .all, .any, .max, .min] → b.nm ∈ bltNames ∧ nameOk b.nm = true := by decide +kernel
  have hm1 := g.blt b.nm (hm b hb).1 hf hc
  have hn := (hm b hb).2
  simp only [List.mem_cons, List.mem_nil_iff, or_false] at hb
  rcases hb with rfl | rfl | rfl | rfl | rfl | rfl | rfl | rfl | rfl
  · exact me_biB call_len' hg hm1 (by first | exact PyProof.Rows.boot_len | exact PySem.boot_len) hn hs h
  · exact me_biT call_int' hg hm1 (by first | exact PyProof.Rows.boot_int | exact PySem.boot_int) hn hs h
  · exact me_biT (call_list' g.calm) hg hm1 (by first | exact PyProof.Rows.boot_list | exact PySem.boot_list) hn hs h
  · exact me_biT call_tuple' hg hm1 (by first | exact PyProof.Rows.boot_tuple | exact PySem.boot_tuple) hn hs h
  · exact me_biB (call_sum' g.calm) hg hm1 (by first | exact PyProof.Rows.boot_sum | exact PySem.boot_sum) hn hs h
  · exact me_biB (call_all' g.calm) hg hm1 (by first | exact PyProof.Rows.boot_all | exact PySem.boot_all) hn hs h
  · exact me_biB (call_any' g.calm) hg hm1 (by first | exact PyProof.Rows.boot_any | exact PySem.boot_any) hn hs h
  · exact me_biB (call_max' g.calm) hg hm1 (by first | exact PyProof.Rows.boot_max | exact PySem.boot_max) hn hs h
  · exact me_biB (call_min' g.calm) hg hm1 (by first | exact PyProof.Rows.boot_min | exact PySem.boot_min) hn hs h
end
end RS

namespace RS
open PySem PySem.Spec L2
variable {Φ : Nat → List D → Hs → R D} {G : Nat → D} {k : Nat}
section
variable {X : Cx} {a b d e tg : Expr} {ia ib id ie : E} {pos p : Pos} {es : List Expr} {il : E}
/-! ### list(range(..)), zip -/
theorem rg_rep {K : PySem.W.Frag} {m : List Addr} {H : Hp} {lo hi : Int} : Reps K m H (rangeD lo (hi - lo).toNat) (rgV lo hi) := by
  have : rgV lo hi = (List.range (hi - lo).toNat).map fun (i : Nat) => V.int (lo + i) := by
    unfold rgV
    rfl
  rw [this]
  unfold rangeD
  generalize List.range (hi - lo).toNat = l
  induction l with
  | nil => simp [Reps.nil_]
  | cons c l ih => simp only [List.map_cons]; rw [Reps.cons_]; exact ⟨_, _, rfl, Rep.int_.mpr rfl, ih⟩
theorem me_lrg1 (hc : X.calm = true) (hg : Gl X "range") (hm : X.mg "range" = none) (hg2 : Gl X "list") (hm2 : X.mg "list" = none) (hs : notStar a = true) (ha : PE X a (mD Φ G X ia)) {p2 pos2 : Pos} :
    PE X (.Call (.Name "list" p2) [.Call (.Name "range" p) [a] [] pos] [] pos2) (mD Φ G X (.lrg (.cons ia .nil))) := by
  refine PE.mono (pe_listRg hc hg2 hm2 (prg_1 hg hm ha (star_cons hs)) (star_cons rfl)) fun σ H Q ⟨ρ, S, m, env, rs, q⟩ => ?_
  simp only [den, denL, R.bind_assoc, R.bind_ok] at q
  refine tG_step env rs q fun m1 H1 S1 x v e1 env1 rs1 r1 p1 => ?_
  cases x with
  | int j =>
    rw [Rep.int_] at r1
    subst r1
    simp only [lrD] at p1
    obtain ⟨⟨hb, hz⟩, p1⟩ := p1.ite
    obtain ⟨h1, h2⟩ := big62_ok hb
    have hr : Reps X.K m1 H1 (rangeD 0 j.toNat) (rgV 0 j) := by simpa using rg_rep (K := X.K) (m := m1) (H := H1) (lo := 0) (hi := j)
    refine ⟨j, rfl, ⟨by decide, by decide, h1, h2, by simpa using hz⟩, fun q hq => p1.lstNew rs1 hr hq⟩
  | _ => exact p1.elim
theorem me_lrg2 (hc : X.calm = true) (hg : Gl X "range") (hm : X.mg "range" = none) (hg2 : Gl X "list") (hm2 : X.mg "list" = none) (hs : notStar a = true) (hs2 : notStar b = true) (ha : PE X a (mD Φ G X ia)) (hb : PE X b (mD Φ G X ib)) {p2 pos2 : Pos} :
    PE X (.Call (.Name "list" p2) [.Call (.Name "range" p) [a, b] [] pos] [] pos2) (mD Φ G X (.lrg (.cons ia (.cons ib .nil)))) := by
  refine PE.mono (pe_listRg hc hg2 hm2 (prg_2 hg hm ha hb (star_cons hs) (star_cons hs2) (star_any fun e' he' => by simp at he'; rw [he']; exact hs2)) (star_cons rfl)) fun σ H Q ⟨ρ, S, m, env, rs, q⟩ => ?_
  simp only [den, denL, R.bind_assoc, R.bind_ok] at q
  refine tG_step env rs q fun m1 H1 S1 x v e1 env1 rs1 r1 p1 => tG_step env1 rs1 p1 fun m2 H2 S2 y u e2 env2 rs2 r2 p2 => ?_
  cases x <;> cases y <;> first | exact p2.elim | skip
  rename_i i j
  rw [Rep.int_] at r1 r2
  subst r1 r2
  simp only [lrD] at p2
  obtain ⟨⟨hb1, hb2, hz⟩, p2⟩ := p2.ite
  obtain ⟨h1, h2⟩ := big62_ok hb1
  obtain ⟨h3, h4⟩ := big62_ok hb2
  exact ⟨i, j, rfl, rfl, ⟨h1, h2, h3, h4, hz⟩, fun q hq => p2.lstNew rs2 rg_rep hq⟩
theorem wd_zipT {K : PySem.W.Frag} {m : List Addr} {H : Hp} {ad bd : Addr} {xs ys : List V} {ds es : List D} (t : TupAt K H ad xs) (r : Reps K m H ds xs) (t' : TupAt K H bd ys) (r' : Reps K m H es ys) : WD K m H (RZ.ItzT K ad bd) ⟨[], pairsUp ds es⟩ := by
  refine ⟨fun i H1 hi ⟨m', S', e, rs, hh⟩ => ?_, fun H1 ⟨m', S', e, rs, hh⟩ => ?_, fun i H1 x H' hi y m' S' e rs hh => ?_⟩
  · have hi' : i < min ds.length es.length := by simpa [pairsUp_len] using hi
    have i1 : i < xs.length := by rw [← r.len]; omega
    have i2 : i < ys.length := by rw [← r'.len]; omega
    exact ⟨xs, ys, xs[i], ys[i], (t.ext e).sq, (t'.ext e).sq, by simp [i1], by simp [i2]⟩
  · refine ⟨xs, ys, (t.ext e).sq, (t'.ext e).sq, ?_⟩
    show xs.length ≤ (pairsUp ds es).length ∨ ys.length ≤ (pairsUp ds es).length
    rw [pairsUp_len, ← r.len, ← r'.len]
    omega
  · obtain ⟨T, z, w, rfl, hT, rfl, y1, y2⟩ := y
    have hi' : i < min ds.length es.length := by simpa [pairsUp_len] using hi
    have hd : ds[i]? = some (ds[i]'(by omega)) := List.getElem?_eq_getElem _
    have he : es[i]? = some (es[i]'(by omega)) := List.getElem?_eq_getElem _
    obtain ⟨v, r1, r2⟩ := (Reps.ext e ds r).get hd
    obtain ⟨u, r3, r4⟩ := (Reps.ext e es r').get he
    have z1 := y1 xs (t.ext e).sq
    have z2 := y2 ys (t'.ext e).sq
    rw [r1] at z1; rw [r3] at z2
    cases z1; cases z2
    obtain ⟨p1, p2, p3⟩ := pair_new rs hT r2 r4
    exact ⟨_, pairsUp_get ds es i _ _ hd he, p1, p2, p3⟩
theorem mi_zip {elts : List Expr} {kk : Nat} {tpos : Pos} (hg : Gl X "zip") (hm : X.mg "zip" = none) (hs : notStar a = true) (hs2 : notStar b = true) (ha : PE X a (mD Φ G X ia)) (hb : PE X b (mD Φ G X ib)) : PI X (.Tuple elts kk tpos) (.Call (.Name "zip" p) [a, b] [] pos) (mI Φ G X (.zip false (.cons ia (.cons ib .nil)))) := by
  refine PI.mono (RZ.pi_zipA hg hm (pa_cons ha (pa_cons hb pa_nil (star_cons hs2)) (star_cons hs)) (star_cons hs) (star_any fun e' he' => by simp at he'; rw [he']; exact hs2)) fun σ H RR ⟨ρ, S, m, env, rs, q⟩ => ?_
  simp only [denI, denL, R.bind_assoc, R.bind_ok] at q
  refine tG_step env rs q fun m1 H1 S1 x v e1 env1 rs1 r1 p1 => tG_step env1 rs1 p1 fun m2 H2 S2 y u e2 env2 rs2 r2 p2 => ?_
  have r1 := Rep.ext e2 x r1
  simp only [zpD] at p2
  cases x with
  | tup ds =>
    cases y with
    | tup es =>
      rw [Rep.tup_] at r1 r2
      obtain ⟨ad, xs, rfl, t, r⟩ := r1
      obtain ⟨bd, ys, rfl, t', r'⟩ := r2
      refine ⟨ad, bd, xs, ys, rfl, .inr ⟨t.sq, t'.sq, ?_⟩⟩
      simp only [zpD_, Bool.false_and, Bool.false_eq_true, if_false, ofO] at p2
      exact p2.ok0 rs2 (wd_zipT t r t' r')
    | _ => exact p2.elim
  | ref n =>
    cases y with
    | ref n' =>
      have f : ∀ n ds gs, srcOf S2 (.ref n) = some ⟨gs, ds⟩ → gs = [(n, ds)] ∧ seqOf S2 (.ref n) = some ds := by
        intro n ds gs h
        simp only [srcOf] at h
        split at h
        · rename_i es e; cases h; exact ⟨rfl, by simp only [seqOf, e]⟩
        · rename_i es e; cases h; exact ⟨rfl, by simp only [seqOf, e]⟩
        · cases h
      simp only [zpD] at p2
      split at p2
      · rename_i s t hs ht
        obtain ⟨g1, i1⟩ := s
        obtain ⟨g2, i2⟩ := t
        obtain ⟨rfl, q1⟩ := f _ _ _ hs
        obtain ⟨rfl, q2⟩ := f _ _ _ ht
        have r1' := r1
        have r2' := r2
        rw [Rep.ref_] at r1 r2
        obtain ⟨ad, hn, rfl⟩ := r1
        obtain ⟨bd, hn', rfl⟩ := r2
        obtain ⟨_, xs, z1, z2, z3⟩ := seqL_rep rs2 r1' q1
        obtain ⟨_, ys, w1, w2, w3⟩ := seqL_rep rs2 r2' q2
        cases z1; cases w1
        refine ⟨ad, bd, xs, ys, rfl, .inl ⟨z2, w2, ?_⟩⟩
        simp only [zpD_, Bool.false_and, Bool.false_eq_true, if_false, ofO] at p2
        exact p2.ok0 rs2 (wd_zip hn hn')
      · exact p2.elim
    | _ => exact p2.elim
  | _ => exact (by cases y <;> exact p2 : False).elim
end

/-! ### the induction -/
theorem blt_free {X : Cx} {c : Cc} (g : Good X c.T Φ G k) (gc : GC X c) {x : Str} (h : bltB c x = true) (hx : x ∈ bltNames) : Gl X x ∧ X.mg x = none := by
  simp only [bltB, Bool.and_eq_true, Bool.not_eq_true'] at h
  obtain ⟨⟨h1, h2⟩, h3⟩ := h
  rw [← gc.sc] at h1
  exact ⟨glB_gl h1, g.blt x hx h2 h3⟩
theorem compL_one {n : Nat} {c : Cc} {a : Expr} {il : E} (h : compL n c [a] = some il) : ∃ m ia, n = m + 2 ∧ il = .cons ia .nil ∧ compE (m + 1) c a = some ia ∧ notStar a = true := by
  cases n with
  | zero => simp [compL] at h
  | succ n =>
    simp only [compL] at h
    split at h
    · rename_i hs
      cases n with
      | zero => simp [compE] at h
      | succ m =>
        split at h
        · rename_i x y h1 h2
          cases h
          simp only [compL, Option.some.injEq] at h2
          subst h2
          exact ⟨m, x, rfl, rfl, h1, hs⟩
        · cases h
    · cases h
theorem compL_two {n : Nat} {c : Cc} {a b : Expr} {il : E} (h : compL n c [a, b] = some il) : ∃ m ia ib, n = m + 3 ∧ il = .cons ia (.cons ib .nil) ∧ compE (m + 2) c a = some ia ∧ compE (m + 1) c b = some ib ∧ notStar a = true ∧ notStar b = true := by
  cases n with
  | zero => simp [compL] at h
  | succ n =>
    simp only [compL] at h
    split at h
    · rename_i hs
      split at h
      · rename_i x y h1 h2
        cases h
        obtain ⟨m, ib, rfl, rfl, h3, h4⟩ := compL_one h2
        exact ⟨m, x, ib, rfl, rfl, h1, h3, hs, h4⟩
      · cases h
    · cases h
theorem compL_three {n : Nat} {c : Cc} {a b d : Expr} {il : E} (h : compL n c [a, b, d] = some il) : ∃ m ia ib id, n = m + 4 ∧ il = .cons ia (.cons ib (.cons id .nil)) ∧ compE (m + 3) c a = some ia ∧ compE (m + 2) c b = some ib ∧ compE (m + 1) c d = some id ∧ notStar a = true ∧ notStar b = true ∧ notStar d = true := by
  cases n with
  | zero => simp [compL] at h
  | succ n =>
    simp only [compL] at h
    split at h
    · rename_i hs
      split at h
      · rename_i x y h1 h2
        cases h
        obtain ⟨m, ib, id, rfl, rfl, h3, h4, h5, h6⟩ := compL_two h2
        exact ⟨m, x, ib, id, rfl, rfl, h1, h3, h4, hs, h5, h6⟩
      · cases h
    · cases h
/-- all that is smaller holds -/
def OkB (Φ : Nat → List D → Hs → R D) (G : Nat → D) (k n : Nat) : Prop := ∀ j, j ≤ n → OkN Φ G k j
section
variable {X : Cx} {c : Cc} {n : Nat}
theorem ixOf_none {x : Str} : ∀ {l : List Str} {i : Nat}, ixOf x l i = none → l.contains x = false
  | [], _, _ => rfl
  | y :: ys, i, h => by
    simp only [ixOf] at h
    split at h
    · cases h
    · rename_i hne
      have := ixOf_none h
      rw [List.contains_cons, this, Bool.or_false]
      exact beq_eq_false_iff_ne.mpr fun e => hne e.symm
theorem step_call (ok : OkB Φ G k n) (g : Good X c.T Φ G k) (gc : GC X c) {x : Str} {p pos : Pos} {es : List Expr} {ir : E} (h : compE (n + 1) c (.Call (.Name x p) es [] pos) = some ir) : PE X (.Call (.Name x p) es [] pos) (mD Φ G X ir) := by
  simp only [compE] at h
  split at h
  · rename_i hc
    rw [Bool.and_eq_true] at hc
    have hgl : Gl X x := by have := hc.2; rw [← gc.sc] at this; exact glB_gl this
    split at h
    · rename_i f hf
      have hf' := ixOf_get0 hf
      cases es with
      | nil =>
        cases n with
        | zero => simp [compL] at h
        | succ n =>
          simp only [compL, Option.map_some, Option.some.injEq] at h
          subst h
          exact me_cal0 g hf' hgl hc.1
      | cons e es =>
        obtain ⟨il, h1, rfl⟩ := Option.map_eq_some_iff.mp h
        exact me_cal g hf' hgl hc.1 (compL_stars h1) ((ok n (Nat.le_refl _)).Ls X c g gc _ _ h1)
    · rename_i hf
      split at h
      · cases h
      · rename_i hcon
        have hfns : c.T.fns.contains x = false := ixOf_none hf
        have hcons : c.T.cons.contains x = false := Bool.eq_false_iff.mpr hcon
        split at h
        · rename_i hl
          obtain ⟨rfl, hr⟩ := hl
          have hm2 := g.blt "list" (by decide +kernel) hfns hcons
          have rg : ∀ y p2 es2 pos2, isRange c [.Call (.Name y p2) es2 [] pos2] = true → y = ("range" : Str) ∧ Gl X y ∧ X.mg y = none := by
            intro y p2 es2 pos2 hr
            simp only [isRange, Bool.and_eq_true, decide_eq_true_eq] at hr
            obtain ⟨rfl, hb⟩ := hr
            exact ⟨rfl, blt_free g gc hb (by decide +kernel)⟩
          split at h
          · rename_i y p2 a pos2
            obtain ⟨rfl, hg2, hm3⟩ := rg _ _ _ _ hr
            obtain ⟨il, h1, rfl⟩ := Option.map_eq_some_iff.mp h
            obtain ⟨m, ia, rfl, rfl, h2, h3⟩ := compL_one h1
            exact me_lrg1 g.calm hg2 hm3 hgl hm2 h3 ((ok (m + 1) (by omega)).Ex X c g gc _ _ h2).1
          · rename_i y p2 a b pos2
            obtain ⟨rfl, hg2, hm3⟩ := rg _ _ _ _ hr
            obtain ⟨il, h1, rfl⟩ := Option.map_eq_some_iff.mp h
            obtain ⟨m, ia, ib, rfl, rfl, h2, h3, h4, h5⟩ := compL_two h1
            exact me_lrg2 g.calm hg2 hm3 hgl hm2 h4 h5 ((ok (m + 2) (by omega)).Ex X c g gc _ _ h2).1 ((ok (m + 1) (by omega)).Ex X c g gc _ _ h3).1
          · cases h
        · split at h
          · rename_i hx
            subst hx
            have hm2 := g.blt "isinstance" (by decide +kernel) hfns hcons
            match es, h with
            | [], h => cases h
            | [_], h => cases h
            | _ :: _ :: _ :: _, h => cases h
            | [a, t], h =>
              simp only at h
              split at h
              · rename_i ia ts h1 h2
                have hs : notStar a = true := by
                  cases a <;> first | rfl | (cases n <;> simp [compE] at h1)
                have ha := ((ok n (Nat.le_refl _)).Ex X c g gc _ _ h1).1
                by_cases hz : (ts.isEmpty || decide (1000 < ts.length)) = true
                · rw [if_pos hz] at h; cases h
                · rw [if_neg hz] at h
                  cases h
                  simp only [Bool.or_eq_true, List.isEmpty_iff, decide_eq_true_eq, not_or, Nat.not_lt] at hz
                  have one : (tyName c t).map (fun t => [t]) = some ts → PE X (.Call (.Name "isinstance" p) [a, t] [] pos) (mD Φ G X (.isi ts ia)) := by
                    intro h2
                    obtain ⟨t', h3, rfl⟩ := Option.map_eq_some_iff.mp h2
                    exact me_isi1 gc g hgl hm2 hs ha h3
                  cases t <;> first | exact one h2 | exact me_isiT gc g hgl hm2 hs ha h2 hz.1 hz.2
              · cases h
          · have fin : ∀ b e es', biOf x = some b → es = e :: es' → (compL n c es).map (.bi b) = some ir → PE X (.Call (.Name x p) es [] pos) (mD Φ G X ir) := by
              intro b e es' hb he hh
              obtain ⟨il, h1, rfl⟩ := Option.map_eq_some_iff.mp hh
              obtain ⟨hx1, hb2⟩ := biOf_nm hb
              subst hx1 he
              exact me_blt g hb2 hgl hfns hcons (compL_stars h1) ((ok n (Nat.le_refl _)).Ls X c g gc _ _ h1)
            split at h
            · exact fin _ _ [] (by assumption) rfl h
            · exact fin _ _ [_] (by assumption) rfl h
            · exact fin _ _ [_] (by assumption) rfl h
            · cases h
  · cases h
theorem mtOf_nm {x : Str} {m : Mt} (h : mtOf x = some m) : (x = "append" ∧ m = .append) ∨ (x = "insert" ∧ m = .insert) ∨ (x = "pop" ∧ m = .pop) ∨ (x = "extend" ∧ m = .extend) ∨ (x = "join" ∧ m = .join) := by
  unfold mtOf at h
  split at h
  · cases h; exact .inl ⟨by assumption, rfl⟩
  · split at h
    · cases h; exact .inr (.inl ⟨by assumption, rfl⟩)
    · split at h
      · cases h; exact .inr (.inr (.inl ⟨by assumption, rfl⟩))
      · split at h
        · cases h; exact .inr (.inr (.inr (.inl ⟨by assumption, rfl⟩)))
        · split at h
          · cases h; exact .inr (.inr (.inr (.inr ⟨by assumption, rfl⟩)))
          · cases h
theorem step_meth (ok : OkB Φ G k n) (g : Good X c.T Φ G k) (gc : GC X c) {o : Expr} {nm : Str} {apos pos : Pos} {es : List Expr} {ir : E} (h : compE (n + 1) c (.Call (.Attribute o nm apos) es [] pos) = some ir) : PE X (.Call (.Attribute o nm apos) es [] pos) (mD Φ G X ir) := by
  simp only [compE] at h
  split at h
  · rename_i hc
    simp only [Bool.and_eq_true, decide_eq_true_eq] at hc
    obtain ⟨hb, hl⟩ := hc
    split at h
    · rename_i io il h1 h2 h3
      have ho := ((ok n (Nat.le_refl _)).Ex X c g gc _ _ h2).1
      have hL := (ok n (Nat.le_refl _)).Ls X c g gc _ _ h3
      rcases mtOf_nm h1 with ⟨rfl, q⟩ | ⟨rfl, q⟩ | ⟨rfl, q⟩ | ⟨rfl, q⟩ | ⟨rfl, q⟩ <;> (try cases q)
      split at h
      · cases n with
        | zero => simp [compL] at h3
        | succ n =>
          simp only [compL, Option.some.injEq] at h3
          subst h3
          cases h
          exact me_mt0 F.plainAttrs_list F.slot_list_pop F.type_list_pop mt_pop' (.inr ⟨by decide, rfl⟩) ho hb hl
      · cases h
        exact me_mt F.plainAttrs_list F.slot_list_pop F.type_list_pop mt_pop' (.inr ⟨by decide, rfl⟩) ho hb hl (compL_stars h3) (by simp) hL
      · cases h
    · rename_i io il h1 h2 h3
      have ho := ((ok n (Nat.le_refl _)).Ex X c g gc _ _ h2).1
      have hL := (ok n (Nat.le_refl _)).Ls X c g gc _ _ h3
      rcases mtOf_nm h1 with ⟨rfl, q⟩ | ⟨rfl, q⟩ | ⟨rfl, q⟩ | ⟨rfl, q⟩ | ⟨rfl, q⟩ <;> (try cases q)
      split at h
      · cases h
        exact me_mt F.plainAttrs_list F.slot_list_insert F.type_list_insert mt_insert' (.inr ⟨by decide, rfl⟩) ho hb hl (compL_stars h3) (by simp) hL
      · cases h
    · rename_i m io il n1 n2 h1 h2 h3
      have ho := ((ok n (Nat.le_refl _)).Ex X c g gc _ _ h2).1
      have hL := (ok n (Nat.le_refl _)).Ls X c g gc _ _ h3
      split at h
      · cases h
        rcases mtOf_nm h1 with ⟨rfl, rfl⟩ | ⟨rfl, rfl⟩ | ⟨rfl, rfl⟩ | ⟨rfl, rfl⟩ | ⟨rfl, rfl⟩
        · exact me_mt F.plainAttrs_list F.slot_list_append F.type_list_append mt_append' (.inr ⟨by decide, rfl⟩) ho hb hl (compL_stars h3) (by simp) hL
        · exact me_mt F.plainAttrs_list F.slot_list_insert F.type_list_insert mt_insert' (.inr ⟨by decide, rfl⟩) ho hb hl (compL_stars h3) (by simp) hL
        · exact me_mt F.plainAttrs_list F.slot_list_pop F.type_list_pop mt_pop' (.inr ⟨by decide, rfl⟩) ho hb hl (compL_stars h3) (by simp) hL
        · exact me_mt F.plainAttrs_list F.slot_list_extend F.type_list_extend mt_extend' (.inr ⟨by decide, rfl⟩) ho hb hl (compL_stars h3) (by simp) hL
        · exact me_mt F.plainAttrs_str F.slot_str_join F.type_str_join mt_join' (.inl ⟨rfl, rfl⟩) ho hb hl (compL_stars h3) (by simp) hL
      · cases h
    · cases h
  · cases h
theorem step_lc (ok : OkB Φ G k n) (g : Good X c.T Φ G k) (gc : GC X c) {e : Expr} {gs : List Comprehension} {scope : Scope} {pos : Pos} {ir : E} (h : compE (n + 1) c (.ListComp e gs scope pos) = some ir) :
    ∃ tg it ifs itg iit ic ie, gs = [⟨tg, it, ifs, 0⟩] ∧ ir = .lc ((ownOf c.N scope).map (·.2)) ie itg iit ic ∧ notSet it = true ∧ BlkOk X.N X.env.scope scope (ownOf c.N scope) ∧ PI X tg it (mI Φ G X iit) ∧
      (∀ j ∈ slotsG itg, j ∈ (ownOf c.N scope).map (·.2)) ∧
      (∀ (s : Shared) (H : Hp) (C : Addr) (cl : List (Str × Addr)) (fp : List Addr), PG (X.blk s H scope (compEnvC scope cl C X.env) fp) tg (mG Φ G X itg)) ∧
      (∀ (s : Shared) (H : Hp) (C : Addr) (cl : List (Str × Addr)) (fp : List Addr), PTs (X.blk s H scope (compEnvC scope cl C X.env) fp) ifs (mT Φ G X ic)) ∧
      (∀ (s : Shared) (H : Hp) (C : Addr) (cl : List (Str × Addr)) (fp : List Addr), PE (X.blk s H scope (compEnvC scope cl C X.env) fp) e (mD Φ G X ie)) := by
  match gs, h with
  | [⟨tg, it, ifs, asy⟩], h =>
    simp only [compE] at h
    split at h
    · rename_i hc
      rw [Bool.and_eq_true, Bool.and_eq_true, decide_eq_true_eq] at hc
      obtain ⟨⟨rfl, hc1⟩, hc2⟩ := hc
      have hb : BlkOk X.N X.env.scope scope (ownOf c.N scope) := by
        rw [gc.N, gc.sc]
        exact blkOk_by hc2
      split at h
      · rename_i iit itg ic ie h1 h2 h3 h4
        split at h
        · rename_i hs
          cases h
          rw [Bool.and_eq_true] at hs
          refine ⟨tg, it, ifs, itg, iit, ic, ie, rfl, rfl, hc1, hb, (ok n (Nat.le_refl _)).It X c g gc _ _ _ h1, fun j hj => ?_, fun s H C cl fp => ?_, fun s H C cl fp => ?_, fun s H C cl fp => ?_⟩
          · have := List.all_eq_true.mp hs.2 j hj
            simpa using this
          · exact (ok n (Nat.le_refl _)).Tg _ { c with sc := relS scope c.sc, wr := ownNames scope } (g.blk s H scope cl C fp) (gc.blk hb s H cl C fp) _ _ h2
          · exact (ok n (Nat.le_refl _)).Ts _ { c with sc := relS scope c.sc, wr := ownNames scope } (g.blk s H scope cl C fp) (gc.blk hb s H cl C fp) _ _ h3
          · exact ((ok n (Nat.le_refl _)).Ex _ { c with sc := relS scope c.sc, wr := ownNames scope } (g.blk s H scope cl C fp) (gc.blk hb s H cl C fp) _ _ h4).1
        · cases h
      · cases h
    · cases h
  | [], h => simp [compE] at h
  | _ :: _ :: _, h => simp [compE] at h
end
end RS

namespace RS
open PySem PySem.Spec L2
variable {Φ : Nat → List D → Hs → R D} {G : Nat → D} {k : Nat}
section
variable {X : Cx} {c : Cc} {n : Nat}
theorem step_name (g : Good X c.T Φ G k) (gc : GC X c) {x : Str} {pos : Pos} {ir : E} (h : compE (n + 1) c (.Name x pos) = some ir) : PE X (.Name x pos) (mD Φ G X ir) := by
  simp only [compE] at h
  split at h
  · rename_i hn
    split at h
    · rename_i i hi
      split at h
      · rename_i hv
        cases h
        have h1 := ixOf_get0 hi
        rw [← gc.N] at h1
        rw [← gc.sc] at hv
        exact me_var h1 (visB_vis hv) hn
      · cases h
    · split at h
      · rename_i hg
        obtain ⟨j, hj, rfl⟩ := Option.map_eq_some_iff.mp h
        rw [← gc.sc] at hg
        obtain ⟨u, v, h1, h2, h3⟩ := g.con j x (ixOf_get0 hj)
        exact me_glb (glB_gl hg) h1 h2 h3 hn
      · cases h
  · cases h
theorem step_sub (ok : OkB Φ G k n) (g : Good X c.T Φ G k) (gc : GC X c) {a i : Expr} {pos : Pos} {ir : E} (h : compE (n + 1) c (.Subscript a i pos) = some ir) : PE X (.Subscript a i pos) (mD Φ G X ir) := by
  have ix : (if notSlice i then (match compE n c a, compE n c i with | some a, some i => some (E.ix a i) | _, _ => none) else none) = some ir → PE X (.Subscript a i pos) (mD Φ G X ir) := by
    intro h
    split at h
    · rename_i hs
      split at h
      · rename_i x y h1 h2
        cases h
        exact me_ix ((ok n (Nat.le_refl _)).Ex X c g gc _ _ h1).1 ((ok n (Nat.le_refl _)).Ex X c g gc _ _ h2).1 hs
      · cases h
    · cases h
  by_cases hs : notSlice i = true
  · refine ix ?_
    rw [← h]
    cases i <;> first | rfl | (simp [notSlice] at hs)
  · cases i with
    | Slice lo hi st p =>
      cases st with
      | none =>
        simp only [compE] at h
        split at h
        · rename_i x l u h1 h2 h3
          cases h
          exact me_sl ((ok n (Nat.le_refl _)).Ex X c g gc _ _ h1).1 ((ok n (Nat.le_refl _)).Sl X c g gc _ _ h2) ((ok n (Nat.le_refl _)).Sl X c g gc _ _ h3)
        · cases h
      | some st =>
        by_cases hst : lo = none ∧ hi = none ∧ ∃ kk p1 p2, st = .UnaryOp .USub (.Constant (.int 1) kk p1) p2
        · obtain ⟨rfl, rfl, kk, p1, p2, rfl⟩ := hst
          simp only [compE] at h
          obtain ⟨x, h1, rfl⟩ := Option.map_eq_some_iff.mp h
          exact me_rvs ((ok n (Nat.le_refl _)).Ex X c g gc _ _ h1).1
        · unfold compE at h
          split at h <;> rename_i heq <;> (try (cases heq; done)) <;> (try (cases heq; exact absurd ⟨rfl, rfl, _, _, _, rfl⟩ hst)) <;> (try (cases heq; simp [notSlice] at h; done)) <;> (try (cases h; done))
    | _ => exact absurd rfl hs
theorem step_cmp1 (ok : OkB Φ G k n) (g : Good X c.T Φ G k) (gc : GC X c) {a b : Expr} {o : CmpOp} {pos : Pos} {ir : E} (h : compE (n + 1) c (.Compare a [o] [b] pos) = some ir) : PE X (.Compare a [o] [b] pos) (mD Φ G X ir) ∧ PT X (.Compare a [o] [b] pos) (mT Φ G X ir) := by
  have gen : (match copOf o, compE n c a, compE n c b with | some o', some a, some b' => (if behindInMarks o b then none else some (E.cmp o' a b')) | _, _, _ => none) = some ir → PE X (.Compare a [o] [b] pos) (mD Φ G X ir) ∧ PT X (.Compare a [o] [b] pos) (mT Φ G X ir) := by
    intro h
    split at h
    · rename_i o' x y h1 h2 h3
      split at h
      · cases h
      · rename_i hm
        cases h
        have hm := Bool.eq_false_iff.mpr hm
        have ha := ((ok n (Nat.le_refl _)).Ex X c g gc _ _ h2).1
        have hb := ((ok n (Nat.le_refl _)).Ex X c g gc _ _ h3).1
        exact ⟨me_cmp g.hu h1 ha hb hm, mt_cmp g.hu h1 ha hb hm⟩
    · cases h
  by_cases hb : ∃ j p, b = .Constant .none j p
  · obtain ⟨j, p, rfl⟩ := hb
    cases o with
    | Is =>
      simp only [compE] at h
      obtain ⟨x, h1, rfl⟩ := Option.map_eq_some_iff.mp h
      have ha := ((ok n (Nat.le_refl _)).Ex X c g gc _ _ h1).1
      exact ⟨me_isN ha, mt_isN ha⟩
    | IsNot =>
      simp only [compE] at h
      obtain ⟨x, h1, rfl⟩ := Option.map_eq_some_iff.mp h
      have ha := ((ok n (Nat.le_refl _)).Ex X c g gc _ _ h1).1
      exact ⟨me_nsN ha, mt_nsN ha⟩
    | _ => exact gen (by rw [← h]; rfl)
  · refine gen ?_
    rw [← h]
    cases o <;> first | rfl | skip
    all_goals
      cases b <;> first | rfl | skip
      rename_i kk j p
      cases kk <;> first | rfl | (exact absurd ⟨_, _, rfl⟩ hb)
theorem mt_ife {t a b : Expr} {it ia ib : E} {pos : Pos} (ht : PT X t (mT Φ G X it)) (ha : PT X a (mT Φ G X ia)) (hb : PT X b (mT Φ G X ib)) : PT X (.IfExp t a b pos) (mT Φ G X (.ife it ia ib)) := by
  refine ⟨fun pins s σ H Q I h => ?_⟩
  obtain ⟨ρ, S, m, env, rs, p⟩ := h
  simp only [den] at p
  show wpAny _ _ (do if ← isTrue t X.env (eval t X.env) then isTrue a X.env (eval a X.env) else isTrue b X.env (eval b X.env)) _ _ _
  refine wpAny_bind (thn (ht.run pins s σ H _ I (tT_stepT env rs p (Q' := fun c H1 => if c = true then mT Φ G X ia σ H1 Q else mT Φ G X ib σ H1 Q) fun m1 H1 S1 c e1 env1 rs1 p1 => ?_)) fun c s1 ⟨H1, I1, q1⟩ => ?_)
  · cases c with
    | true => rw [if_pos rfl] at p1 ⊢; exact ⟨ρ, S1, m1, env1, rs1, p1⟩
    | false => rw [if_neg Bool.false_ne_true] at p1 ⊢; exact ⟨ρ, S1, m1, env1, rs1, p1⟩
  · cases c with
    | true => exact ha.run pins s1 σ H1 Q I1 q1
    | false => exact hb.run pins s1 σ H1 Q I1 q1
theorem step_E (ok : OkB Φ G k n) (g : Good X c.T Φ G k) (gc : GC X c) (e : Expr) (ir : E) (h : compE (n + 1) c e = some ir) : PE X e (mD Φ G X ir) ∧ PT X e (mT Φ G X ir) ∧ (∀ o es p, e = .BoolOp o es p → PW X e (mT Φ G X ir)) := by
  have okn := ok n (Nat.le_refl _)
  cases e with
  | Name x pos => exact both (step_name g gc h) rfl
  | Constant kk j pos =>
    simp only [compE] at h
    split at h
    · cases h; exact both me_non rfl
    · cases h; exact both me_bl rfl
    · cases h; exact both me_int rfl
    · cases h; exact both me_str rfl
    · cases h
  | Tuple es j pos =>
    simp only [compE] at h
    obtain ⟨il, h1, rfl⟩ := Option.map_eq_some_iff.mp h
    exact both (me_tup (okn.Ls X c g gc _ _ h1)) rfl
  | List es pos =>
    simp only [compE] at h
    obtain ⟨il, h1, rfl⟩ := Option.map_eq_some_iff.mp h
    exact both (me_lst (okn.Ls X c g gc _ _ h1)) rfl
  | BinOp a o b pos =>
    simp only [compE] at h
    split at h
    · rename_i o' x y h1 h2 h3
      cases h
      exact both (me_bin h1 (okn.Ex X c g gc _ _ h2).1 (okn.Ex X c g gc _ _ h3).1) rfl
    · cases h
  | UnaryOp o a pos =>
    simp only [compE] at h
    split at h
    · rename_i x h1
      cases h
      exact both (me_neg (okn.Ex X c g gc _ _ h1).1) rfl
    · rename_i x h1
      cases h
      obtain ⟨h2, h3, _⟩ := okn.Ex X c g gc _ _ h1
      exact ⟨me_not h2, mt_not h3, fun _ _ _ z => nomatch z⟩
    · cases h
  | Compare a ops bs pos =>
    match ops, bs, h with
    | [o], [b], h =>
      obtain ⟨h1, h2⟩ := step_cmp1 ok g gc h
      exact ⟨h1, h2, fun _ _ _ z => nomatch z⟩
    | [o, p], [b, d], h =>
      simp only [compE] at h
      split at h
      · rename_i o' p' x y z h1 h2 h3 h4 h5
        split at h
        · cases h
        · rename_i hm
          cases h
          have hm := Bool.eq_false_iff.mpr hm
          have ha := (okn.Ex X c g gc _ _ h3).1
          have hb := (okn.Ex X c g gc _ _ h4).1
          have hd := (okn.Ex X c g gc _ _ h5).1
          exact ⟨me_chn g.hu h1 h2 ha hb hd hm, mt_chn g.hu h1 h2 ha hb hd hm, fun _ _ _ z => nomatch z⟩
      · cases h
    | [], _, h => simp [compE] at h
    | [_], [], h => simp [compE] at h
    | [_], _ :: _ :: _, h => simp [compE] at h
    | [_, _], [], h => simp [compE] at h
    | [_, _], [_], h => simp [compE] at h
    | [_, _], _ :: _ :: _ :: _, h => simp [compE] at h
    | _ :: _ :: _ :: _, _, h => simp [compE] at h
  | BoolOp o es pos =>
    match es, h with
    | [], h => simp [compE] at h
    | [a], h =>
      simp only [compE] at h
      obtain ⟨h1, h2, _⟩ := okn.Ex X c g gc _ _ h
      have w : PW X (.BoolOp o [a] pos) (mT Φ G X ir) := by
        cases o
        · exact pw_and1 h2
        · exact pw_or1 h2
      exact ⟨pe_one h1, w.pt, fun _ _ _ _ => w⟩
    | a :: b :: es, h =>
      simp only [compE] at h
      split at h
      · rename_i x y h1 h2
        cases h
        obtain ⟨p1, p2, _⟩ := okn.Ex X c g gc _ _ h1
        obtain ⟨q1, _, q3⟩ := okn.Ex X c g gc _ _ h2
        have q3 := q3 _ _ _ rfl
        cases o
        · have w := mw_and p2 q3
          exact ⟨me_and p1 q1, w.pt, fun _ _ _ _ => w⟩
        · have w := mw_or p2 q3
          exact ⟨me_or p1 q1, w.pt, fun _ _ _ _ => w⟩
      · cases h
  | IfExp t a b pos =>
    simp only [compE] at h
    split at h
    · rename_i x y z h1 h2 h3
      cases h
      have he := me_ife (pos := pos) (okn.Ex X c g gc _ _ h1).2.1 (okn.Ex X c g gc _ _ h2).1 (okn.Ex X c g gc _ _ h3).1
      exact ⟨he, mt_ife (okn.Ex X c g gc _ _ h1).2.1 (okn.Ex X c g gc _ _ h2).2.1 (okn.Ex X c g gc _ _ h3).2.1, fun _ _ _ z => nomatch z⟩
    · cases h
  | Call f es ks pos =>
    cases ks with
    | cons kk ks => cases f <;> simp [compE] at h
    | nil =>
      cases f with
      | Name x p => exact both (step_call ok g gc h) rfl
      | Attribute o m p => exact both (step_meth ok g gc h) rfl
      | _ => simp [compE] at h
  | Subscript a i pos => exact both (step_sub ok g gc h) rfl
  | ListComp e gs scope pos =>
    obtain ⟨tg, it, ifs, itg, iit, ic, ie, rfl, rfl, h1, h2, h3, h4, h5, h6, h7⟩ := step_lc ok g gc h
    exact both (PE.mono (pe_lc g.calm g.nd h3 h2 h5 h6 h7 (not_set h1)) fun σ H Q q => lc_of h4 q) rfl
  | _ => simp [compE] at h
theorem step_I (ok : OkB Φ G k n) (g : Good X c.T Φ G k) (gc : GC X c) (tg e : Expr) (ir : E) (h : compI (n + 1) c tg e = some ir) : PI X tg e (mI Φ G X ir) := by
  have okn := ok n (Nat.le_refl _)
  have gen : (compE n c e).map (fun e => E.cons e .nil) = some ir → PI X tg e (mI Φ G X ir) := by
    intro h
    obtain ⟨x, h1, rfl⟩ := Option.map_eq_some_iff.mp h
    exact mi_val (okn.Ex X c g gc _ _ h1).1
  cases e with
  | Call f es ks pos =>
    cases f with
    | Name x p =>
      simp only [compI] at h
      split at h
      · rename_i hc
        simp only [Bool.and_eq_true, decide_eq_true_eq] at hc
        obtain ⟨⟨hb, _⟩, rfl⟩ := hc
        obtain ⟨hg, hm⟩ := blt_free g gc hb (by decide +kernel)
        split at h
        · obtain ⟨il, h1, rfl⟩ := Option.map_eq_some_iff.mp h
          obtain ⟨m, ia, rfl, rfl, h2, h3⟩ := compL_one h1
          exact mi_rng1 hg hm h3 ((ok (m + 1) (by omega)).Ex X c g gc _ _ h2).1
        · obtain ⟨il, h1, rfl⟩ := Option.map_eq_some_iff.mp h
          obtain ⟨m, ia, ib, rfl, rfl, h2, h3, h4, h5⟩ := compL_two h1
          exact mi_rng2 hg hm h4 h5 ((ok (m + 2) (by omega)).Ex X c g gc _ _ h2).1 ((ok (m + 1) (by omega)).Ex X c g gc _ _ h3).1
        · obtain ⟨il, h1, rfl⟩ := Option.map_eq_some_iff.mp h
          obtain ⟨m, ia, ib, id, rfl, rfl, h2, h3, h4, h5, h6, h7⟩ := compL_three h1
          exact mi_rng3 hg hm h5 h6 h7 ((ok (m + 3) (by omega)).Ex X c g gc _ _ h2).1 ((ok (m + 2) (by omega)).Ex X c g gc _ _ h3).1 ((ok (m + 1) (by omega)).Ex X c g gc _ _ h4).1
        · cases h
      · split at h
        · rename_i hc
          simp only [Bool.and_eq_true, decide_eq_true_eq] at hc
          obtain ⟨⟨⟨hb, _⟩, rfl⟩, ht⟩ := hc
          obtain ⟨hg, hm⟩ := blt_free g gc hb (by decide +kernel)
          split at h
          · obtain ⟨il, h1, rfl⟩ := Option.map_eq_some_iff.mp h
            obtain ⟨m, ia, rfl, rfl, h2, h3⟩ := compL_one h1
            cases tg <;> simp [isTupE] at ht
            exact mi_enm hg hm h3 ((ok (m + 1) (by omega)).Ex X c g gc _ _ h2).1
          · cases h
        · split at h
          · rename_i hc
            simp only [Bool.and_eq_true, decide_eq_true_eq] at hc
            obtain ⟨⟨⟨hb, _⟩, rfl⟩, ht⟩ := hc
            obtain ⟨hg, hm⟩ := blt_free g gc hb (by decide +kernel)
            split at h
            · obtain ⟨il, h1, rfl⟩ := Option.map_eq_some_iff.mp h
              obtain ⟨m, ia, ib, rfl, rfl, h2, h3, h4, h5⟩ := compL_two h1
              cases tg <;> simp [isTupE] at ht
              exact mi_zip hg hm h4 h5 ((ok (m + 2) (by omega)).Ex X c g gc _ _ h2).1 ((ok (m + 1) (by omega)).Ex X c g gc _ _ h3).1
            · cases h
          · exact gen h
    | _ => exact gen (by simpa only [compI] using h)
  | _ => exact gen (by simpa only [compI] using h)
theorem step_all (ok : OkB Φ G k n) : OkN Φ G k (n + 1) := by
  have okn := ok n (Nat.le_refl _)
  refine ⟨fun X c g gc e ir h => step_E ok g gc e ir h, fun X c g gc es ir h => ?_, fun X c g gc e ir h => ?_, fun X c g gc es ir h => ?_, fun X c g gc e ir h => ?_, fun X c g gc es ir h => ?_, fun X c g gc tg e ir h => step_I ok g gc tg e ir h⟩
  · cases es with
    | nil =>
      simp only [compL, Option.some.injEq] at h
      subst h
      exact ml_nil
    | cons e es =>
      simp only [compL] at h
      split at h
      · rename_i hs
        split at h
        · rename_i x y h1 h2
          cases h
          exact ml_cons hs (okn.Ex X c g gc _ _ h1).1 (okn.Ls X c g gc _ _ h2)
        · cases h
      · cases h
  · cases e with
    | none =>
      simp only [compO, Option.some.injEq] at h
      subst h
      exact mo_none
    | some e =>
      simp only [compO] at h
      obtain ⟨x, h1, rfl⟩ := Option.map_eq_some_iff.mp h
      exact mo_some (okn.Ex X c g gc _ _ h1).1
  · match es, h with
    | [], h =>
      simp only [compT, Option.some.injEq] at h
      subst h
      exact ⟨fun pins s σ H Q I ⟨ρ, S, m, env, rs, p⟩ => pts_nil.run pins s σ H Q I (PostT.ok0 p rs)⟩
    | [e], h =>
      simp only [compT] at h
      exact pts_one (okn.Ex X c g gc _ _ h).2.1
    | _ :: _ :: _, h => simp [compT] at h
  · cases e with
    | Name x pos =>
      simp only [compG] at h
      split at h
      · rename_i hw
        obtain ⟨i, hi, rfl⟩ := Option.map_eq_some_iff.mp h
        have h1 := ixOf_get0 hi
        rw [← gc.N] at h1
        obtain ⟨w1, w2⟩ := gc.wr x hw
        exact mg_name g.nd h1 w1 w2
      · cases h
    | Tuple es j pos =>
      simp only [compG] at h
      obtain ⟨il, h1, rfl⟩ := Option.map_eq_some_iff.mp h
      obtain ⟨q1, q2⟩ := cnt_gs h1
      exact mg_tup g.calm q2 q1 (okn.Tgs X c g gc _ _ h1)
    | Subscript a i pos =>
      simp only [compG] at h
      split at h
      · rename_i hs
        split at h
        · rename_i x y h1 h2
          cases h
          exact mg_sub (okn.Ex X c g gc _ _ h1).1 (okn.Ex X c g gc _ _ h2).1 hs
        · cases h
      · cases h
    | _ => simp [compG] at h
  · cases es with
    | nil =>
      simp only [compGs, Option.some.injEq] at h
      subst h
      exact mgs_nil
    | cons e es =>
      simp only [compGs] at h
      split at h
      · rename_i hs
        split at h
        · rename_i x y h1 h2
          cases h
          exact mgs_cons hs (okn.Tg X c g gc _ _ h1) (okn.Tgs X c g gc _ _ h2)
        · cases h
      · cases h
theorem okB : ∀ n, OkB Φ G k n
  | 0, j, hj => by
    have : j = 0 := by omega
    subst this
    exact okn0
  | n + 1, j, hj => by
    by_cases h : j ≤ n
    · exact okB n j h
    · have : j = n + 1 := by omega
      subst this
      exact step_all (okB n)
/-- every expression that is carried runs by its meaning -/
theorem sound_all (n : Nat) : OkN Φ G k n := okB n n (Nat.le_refl _)

/-! ### statements -/
theorem sound_lc {W : Nat} (g : Good X c.T Φ G k) (gc : GC X c) (hk : kindF c.sc = true) {e : Expr} {gs : List Comprehension} {scope : Scope} {p py pos : Pos} {y : Str} {i : Nat} {ie : E} (hy : c.wr.contains y = true) (hi : ixOf y c.N 0 = some i) (h : compE n c (.ListComp e gs scope p) = some ie) :
    PS X (.Assign [.Name y py] (.ListComp e gs scope p) pos) (mC Φ G W X (.asg (.var i) ie)) := by
  cases n with
  | zero => simp [compE] at h
  | succ n =>
    have hN := ixOf_get0 hi
    rw [← gc.N] at hN
    obtain ⟨w1, w2⟩ := gc.wr y hy
    have hk' : kindF X.env.scope = true := by rw [gc.sc]; exact hk
    cases hb : swB X.env.scope y py scope p with
    | false =>
      have he := (sound_all (Φ := Φ) (G := G) (k := k) (n + 1)).Ex X c g gc _ _ h
      refine ms_asg he.1 (mg_name g.nd hN w1 w2) ?_ ?_ rfl
      · have e1 : swapsWithSole [.Name y py] (.ListComp e gs scope p) pos.line X.env = swapsWith (.ListComp e gs scope p) (some (.Name y py)) pos.line X.env := rfl
        rw [e1, swaps_lc hk', hb]
      · exact sw_none rfl rfl
    | true =>
      obtain ⟨tg, it, ifs, itg, iit, ic, ie', rfl, rfl, h1, h2, h3, h4, h5, h6, h7⟩ := step_lc (okB n) g gc h
      have hyl : X.env.scope.names.lookup y = some .local := by
        simp only [swB, Bool.and_eq_true] at hb
        simpa using hb.1.1
      refine PS.mono (ps_setLc g.calm g.nd hN hyl (by rw [swaps_lc hk', hb]) h3 h2 h5 h6 h7 (not_set h1)) fun D' σ H q => ?_
      have q2 := asg_of q
      obtain ⟨ρ, S, m, env, rs, qq⟩ := q
      have : mD Φ G X (.lc ((ownOf c.N scope).map (·.2)) ie' itg iit ic) σ H (fun x H1 => gName i x σ H1 D'.nx) := by
        refine ⟨ρ, S, m, env, rs, ?_⟩
        simp only [exec] at qq
        refine qq.bind (relF := Rep X.K) fun m1 H1 S1 x v e1 rs1 r1 p1 => ?_
        simp only [denG, R.bind_assoc] at p1
        by_cases hl : i < ρ.length
        · rw [if_pos hl] at p1
          simp only [R.bind_ok] at p1
          exact p1 m1 H1 (Ext.refl _ _) rs1 _ ((env.ext e1).set r1)
        · rw [if_neg hl] at p1
          exact p1.elim
      exact lc_of h4 this
structure OkS (Φ : Nat → List D → Hs → R D) (G : Nat → D) (k W n : Nat) : Prop where
  St : ∀ (X : Cx) (c : Cc), Good X c.T Φ G k → GC X c → ∀ s ir, compS n c s = some ir → PS X s (mC Φ G W X ir)
  Bl : ∀ (X : Cx) (c : Cc), Good X c.T Φ G k → GC X c → ∀ ss ir, compB n c ss = some ir → PSs X ss (mC Φ G W X ir)
theorem name_tgt {n : Nat} {x : Str} {p : Pos} {ir : E} (h : compG n c (.Name x p) = some ir) : ∃ i, ir = .var i ∧ ixOf x c.N 0 = some i ∧ c.wr.contains x = true := by
  cases n with
  | zero => simp [compG] at h
  | succ n =>
    simp only [compG] at h
    split at h
    · rename_i hw
      obtain ⟨i, hi, rfl⟩ := Option.map_eq_some_iff.mp h
      exact ⟨i, rfl, hi, hw⟩
    · cases h
theorem compGs_cons {n : Nat} {e : Expr} {es : List Expr} {ir : E} (h : compGs n c (e :: es) = some ir) : ∃ m a b, n = m + 1 ∧ ir = .cons a b ∧ compG m c e = some a ∧ compGs m c es = some b := by
  cases n with
  | zero => simp [compGs] at h
  | succ n =>
    simp only [compGs] at h
    split at h
    · split at h
      · rename_i a b h1 h2
        cases h
        exact ⟨n, a, b, rfl, rfl, h1, h2⟩
      · cases h
    · cases h
theorem compGs_nil {n : Nat} {ir : E} (h : compGs n c [] = some ir) : ir = .nil := by
  cases n with
  | zero => simp [compGs] at h
  | succ n => simp only [compGs, Option.some.injEq] at h; exact h.symm
theorem compG_tup {n : Nat} {es : List Expr} {j : Nat} {p : Pos} {ir : E} (h : compG n c (.Tuple es j p) = some ir) : ∃ m il, n = m + 1 ∧ ir = .tup il ∧ compGs m c es = some il := by
  cases n with
  | zero => simp [compG] at h
  | succ n =>
    simp only [compG] at h
    obtain ⟨il, h1, rfl⟩ := Option.map_eq_some_iff.mp h
    exact ⟨n, il, rfl, rfl, h1⟩
theorem compE_tup {n : Nat} {es : List Expr} {j : Nat} {p : Pos} {ir : E} (h : compE n c (.Tuple es j p) = some ir) : ∃ m il, n = m + 1 ∧ ir = .tup il ∧ compL m c es = some il := by
  cases n with
  | zero => simp [compE] at h
  | succ n =>
    simp only [compE] at h
    obtain ⟨il, h1, rfl⟩ := Option.map_eq_some_iff.mp h
    exact ⟨n, il, rfl, rfl, h1⟩
theorem ne_ix {N : List Str} {x y : Str} {i j : Nat} (h1 : ixOf x N 0 = some i) (h2 : ixOf y N 0 = some j) (h : x ≠ y) : i ≠ j := fun e => by
  have a := ixOf_get0 h1
  have b := ixOf_get0 h2
  rw [e, b] at a
  exact h (Option.some.inj a).symm
theorem step_asg {W : Nat} (g : Good X c.T Φ G k) (gc : GC X c) {tg e : Expr} {pos : Pos} {ir : C} (h : compA n c tg e = some ir) : PS X (.Assign [tg] e pos) (mC Φ G W X ir) := by
  have okn := sound_all (Φ := Φ) (G := G) (k := k) n
  have gen : (if notComp e && notStar tg && !(isTup tg && isTup e) && !(isLst tg) then (match compG n c tg, compE n c e with | some g, some e => some (C.asg g e) | _, _ => none) else none) = some ir → PS X (.Assign [tg] e pos) (mC Φ G W X ir) := by
    intro h
    split at h
    · rename_i hc
      simp only [Bool.and_eq_true, Bool.not_eq_true'] at hc
      obtain ⟨⟨⟨h1, h2⟩, h3⟩, h4⟩ := hc
      split at h
      · rename_i x y q1 q2
        cases h
        have e1 : swapsWithSole [tg] e pos.line X.env = swapsWith e (some tg) pos.line X.env := rfl
        exact ms_asg (okn.Ex X c g gc _ _ q2).1 (okn.Tg X c g gc _ _ q1) (by rw [e1]; exact not_comp h1) (sw_none h3 h4) h2
      · cases h
    · cases h
  by_cases h1 : ∃ y py e' gs scope p, tg = .Name y py ∧ e = .ListComp e' gs scope p
  · obtain ⟨y, py, e', gs, scope, p, rfl, rfl⟩ := h1
    simp only [compA] at h
    split at h
    · rename_i hc
      rw [Bool.and_eq_true] at hc
      split at h
      · rename_i i ie q1 q2
        cases h
        exact sound_lc g gc hc.1 hc.2 q1 q2
      · cases h
    · cases h
  · by_cases h2 : ∃ ts j p vs j2 p2, tg = .Tuple ts j p ∧ e = .Tuple vs j2 p2
    · obtain ⟨ts, j, p, vs, j2, p2, rfl, rfl⟩ := h2
      simp only [compA] at h
      split at h
      · rename_i hk
        have hk' : kindF X.env.scope = true := by rw [gc.sc]; exact hk
        split at h
        · rename_i x y q1 q2 q3
          cases h
          rw [← gc.sc] at q3
          exact ms_asg (okn.Ex X c g gc _ _ q2).1 (okn.Tg X c g gc _ _ q1) rfl (swn_of hk' q3) rfl
        · rename_i gi ei ns q1 q2 q3
          rw [← gc.sc] at q3
          obtain ⟨m1, il, rfl, rfl, q4⟩ := compG_tup q1
          obtain ⟨m2, jl, hm2, rfl, q5⟩ := compE_tup q2
          split at h
          · rename_i x px y py a b x' y'
            split at h
            · rename_i hd
              cases h
              simp only [Bool.and_eq_true, decide_eq_true_eq] at hd
              obtain ⟨⟨⟨⟨rfl, rfl⟩, hxy⟩, hx⟩, hy⟩ := hd
              obtain ⟨_, g1, r1, rfl, rfl, t1, u1⟩ := compGs_cons q4
              obtain ⟨_, g2, r2, rfl, rfl, t2, u2⟩ := compGs_cons u1
              obtain rfl := compGs_nil u2
              obtain ⟨i, rfl, hi, _⟩ := name_tgt t1
              obtain ⟨i2, rfl, hi2, _⟩ := name_tgt t2
              obtain ⟨m3, ia, ib, rfl, rfl, v1, v2, s1, s2⟩ := compL_two q5
              have n1 := ixOf_get0 hi
              have n2 := ixOf_get0 hi2
              rw [← gc.N] at n1 n2
              rw [← gc.sc] at hx hy
              exact ms_par g.calm g.nd n1 n2 (ne_ix hi hi2 hxy) hx hy s1 s2 ((sound_all _).Ex X c g gc _ _ v1).1 ((sound_all _).Ex X c g gc _ _ v2).1 (swn_of hk' q3)
            · cases h
          · rename_i x px y py z pz a b d x' y' z'
            split at h
            · rename_i hd
              cases h
              simp only [Bool.and_eq_true, decide_eq_true_eq] at hd
              obtain ⟨⟨⟨⟨⟨⟨⟨⟨rfl, rfl⟩, rfl⟩, hxy⟩, hxz⟩, hyz⟩, hx⟩, hy⟩, hz⟩ := hd
              obtain ⟨_, g1, r1, rfl, rfl, t1, u1⟩ := compGs_cons q4
              obtain ⟨_, g2, r2, rfl, rfl, t2, u2⟩ := compGs_cons u1
              obtain ⟨_, g3, r3, rfl, rfl, t3, u3⟩ := compGs_cons u2
              obtain rfl := compGs_nil u3
              obtain ⟨i, rfl, hi, _⟩ := name_tgt t1
              obtain ⟨i2, rfl, hi2, _⟩ := name_tgt t2
              obtain ⟨i3, rfl, hi3, _⟩ := name_tgt t3
              obtain ⟨m3, ia, ib, id, rfl, rfl, v1, v2, v3, s1, s2, s3⟩ := compL_three q5
              have n1 := ixOf_get0 hi
              have n2 := ixOf_get0 hi2
              have n3 := ixOf_get0 hi3
              rw [← gc.N] at n1 n2 n3
              rw [← gc.sc] at hx hy hz
              exact ms_par3 g.calm g.nd n1 n2 n3 (ne_ix hi hi2 hxy) (ne_ix hi hi3 hxz) (ne_ix hi2 hi3 hyz) hx hy hz s1 s2 s3 ((sound_all _).Ex X c g gc _ _ v1).1 ((sound_all _).Ex X c g gc _ _ v2).1 ((sound_all _).Ex X c g gc _ _ v3).1 (swn_of hk' q3)
            · cases h
          · cases h
        · cases h
      · cases h
    · refine gen ?_
      rw [← h]
      cases tg <;> first | rfl | skip
      · cases e <;> first | rfl | (exact absurd ⟨_, _, _, _, _, _, rfl, rfl⟩ h1)
      · cases e <;> first | rfl | (exact absurd ⟨_, _, _, _, _, _, rfl, rfl⟩ h2)
theorem step_S {W : Nat} (ok : OkS Φ G k W n) : OkS Φ G k W (n + 1) := by
  have okn := sound_all (Φ := Φ) (G := G) (k := k) n
  refine ⟨fun X c g gc s ir h => ?_, fun X c g gc ss ir h => ?_⟩
  · cases s with
    | Assign tgs e pos =>
      simp only [compS] at h
      split at h
      · exact step_asg g gc h
      · cases h
    | AugAssign t o e pos =>
      cases t with
      | Name x p =>
        simp only [compS] at h
        split at h
        · rename_i hw
          obtain ⟨w1, w2⟩ := gc.wr x hw
          split at h
          · rename_i i ie q1 q2
            cases h
            have n1 := ixOf_get0 q1
            rw [← gc.N] at n1
            exact ms_aug (.inl ⟨rfl, rfl⟩) g.nd n1 w1 w2 (okn.Ex X c g gc _ _ q2).1
          · rename_i i ie q1 q2
            cases h
            have n1 := ixOf_get0 q1
            rw [← gc.N] at n1
            exact ms_aug (.inr ⟨rfl, rfl⟩) g.nd n1 w1 w2 (okn.Ex X c g gc _ _ q2).1
          · cases h
        · cases h
      | _ => simp [compS] at h
    | Expr e pos =>
      simp only [compS] at h
      split at h
      · rename_i hc
        obtain ⟨ie, q1, rfl⟩ := Option.map_eq_some_iff.mp h
        exact ms_exp (okn.Ex X c g gc _ _ q1).1 hc
      · cases h
    | Return e pos =>
      cases e with
      | none => simp only [compS, Option.some.injEq] at h; subst h; exact ms_retN
      | some e =>
        simp only [compS] at h
        obtain ⟨ie, q1, rfl⟩ := Option.map_eq_some_iff.mp h
        exact ms_ret (okn.Ex X c g gc _ _ q1).1
    | Pass pos => simp only [compS, Option.some.injEq] at h; subst h; exact ms_pas
    | Break pos => simp only [compS, Option.some.injEq] at h; subst h; exact ms_brk
    | Continue pos => simp only [compS, Option.some.injEq] at h; subst h; exact ms_cnt
    | If t a b pos =>
      simp only [compS] at h
      split at h
      · rename_i it ia ib q1 q2 q3
        cases h
        exact ms_ife (okn.Ex X c g gc _ _ q1).2.1 (ok.Bl X c g gc _ _ q2) (ok.Bl X c g gc _ _ q3)
      · cases h
    | For tg it b els pos =>
      cases els with
      | nil =>
        simp only [compS] at h
        split at h
        · rename_i hs
          split at h
          · rename_i gi ii ib q1 q2 q3
            cases h
            exact ms_for g.po g.calm (okn.It X c g gc _ _ _ q2) (okn.Tg X c g gc _ _ q1) (ok.Bl X c g gc _ _ q3) hs
          · cases h
        · cases h
      | cons => simp [compS] at h
    | While t b els pos =>
      cases els with
      | nil =>
        simp only [compS] at h
        split at h
        · rename_i it ib q1 q2
          cases h
          exact ms_whl g.po (okn.Ex X c g gc _ _ q1).2.1 (ok.Bl X c g gc _ _ q2)
        · cases h
      | cons => simp [compS] at h
    | _ => simp [compS] at h
  · cases ss with
    | nil => simp only [compB, Option.some.injEq] at h; subst h; exact mss_nil
    | cons s ss =>
      simp only [compB] at h
      split at h
      · rename_i a b q1 q2
        cases h
        exact mss_cons (ok.St X c g gc _ _ q1) (ok.Bl X c g gc _ _ q2)
      · cases h
theorem sound_S {W : Nat} : ∀ n, OkS Φ G k W n
  | 0 => ⟨fun _ _ _ _ s ir h => by simp [compS] at h, fun _ _ _ _ ss ir h => by simp [compB] at h⟩
  | n + 1 => step_S (sound_S n)
end
end RS

namespace RS
open PySem PySem.Spec L2
/-! ### defs -/
theorem scope_of {N P : List Str} {sc : Scope} (h : scopeB N P sc = true) : FnScope N P sc := by
  unfold scopeB at h
  simp only [Bool.and_eq_true, Bool.not_eq_true', decide_eq_true_eq, List.all_eq_true] at h
  obtain ⟨⟨⟨⟨⟨⟨h1, h2⟩, h3⟩, h4⟩, h5⟩, h6⟩, h7⟩ := h
  refine ⟨?_, h2, h3, h4, h5, fun x hx => ?_, fun y hy e => ?_⟩
  · unfold kindF at h1
    split at h1
    · assumption
    · cases h1
  · have := h6 x hx
    split at this
    · exact .inl (by assumption)
    · exact .inr (by assumption)
    · cases this
  · have := h7 y hy
    rw [e] at this
    cases this
section
variable {P : Program} {w : World} {K : PySem.W.Frag} {mg : Str → Option Value} {base : Heap}
/-- a def: its name, the text, the parameters, all names by slot -/
structure Dfn where
  x : Str
  st : Stmt
  ps : List Str
  N : List Str
/-- a def as it stands behind the top -/
def FnAt (K : PySem.W.Frag) (mg : Str → Option Value) (d : Dfn) : Prop := ∃ (a : Addr) (fd : FuncData), mg d.x = some (.ref a) ∧ Fun K d.x d.x d.st a fd ∧ ∀ us : List Value, us.length = d.ps.length → bindArgs fd ⟨us, []⟩ = pure (d.ps.zip us)
/-- what stands behind the top, for a text -/
structure Top (K : PySem.W.Frag) (mg : Str → Option Value) (T : Tab) (ds : List Dfn) (fs : List Fn) (G : Nat → D) (fuel : Nat) : Prop where
  nm : T.fns = ds.map (·.x)
  fn : ∀ d ∈ ds, FnAt K mg d
  cp : ds.map (fun d => compF fuel T d.N d.ps (defScope d.st) (defBody d.st)) = fs.map some
  blt : ∀ x ∈ bltNames, T.fns.contains x = false → T.cons.contains x = false → mg x = none
  con : ∀ (g : Nat) (x : Str), T.cons[g]? = some x → ∃ (u : Value) (v : V), mg x = some u ∧ RelV v u ∧ ∀ m H, Rep K m H (G g) v
theorem env_start {m : List Addr} {H : Hp} : ∀ {ds : List D} {vs : List V} {N : List Str}, Reps K m H ds vs → ds.length ≤ N.length → EnvR K m H (ds.map some ++ List.replicate (N.length - ds.length) none) (L2.start N vs) := by
  intro ds vs N r hl
  refine ⟨by simp [L2.start, r.len], fun i d h => ?_⟩
  by_cases hi : i < ds.length
  · rw [List.getElem?_append_left (by simpa using hi), List.getElem?_map] at h
    cases e : ds[i]? with
    | none => rw [e] at h; simp at h
    | some d' =>
      rw [e] at h
      simp at h
      subst h
      obtain ⟨v, q1, q2⟩ := r.get e
      refine ⟨v, ?_, q2⟩
      unfold L2.start
      rw [List.getElem?_append_left (by rw [List.length_map, ← r.len]; exact hi), List.getElem?_map, q1]
      rfl
  · rw [List.getElem?_append_right (by simpa using hi), List.getElem?_replicate] at h
    split at h <;> cases h
theorem cp_at {T : Tab} {ds : List Dfn} {fs : List Fn} {fuel f : Nat} {d : Dfn} (h : ds.map (fun d => compF fuel T d.N d.ps (defScope d.st) (defBody d.st)) = fs.map some) (hd : ds[f]? = some d) : ∃ fn, compF fuel T d.N d.ps (defScope d.st) (defBody d.st) = some fn ∧ fs[f]? = some fn := by
  have e := congrArg (fun l => l[f]?) h
  simp only [List.getElem?_map, hd, Option.map_some] at e
  cases q : fs[f]? with
  | none => rw [q] at e; cases e
  | some fn => rw [q] at e; exact ⟨fn, Option.some.inj e, rfl⟩
theorem fns_ok {T : Tab} {ds : List Dfn} {fs : List Fn} {G : Nat → D} {W fuel : Nat} (t : Top K mg T ds fs G fuel) : ∀ (n : Nat), ∀ (f : Nat) (d : Dfn), ds[f]? = some d → ∃ (a : Addr) (fd : FuncData), mg d.x = some (.ref a) ∧ PySem.W.keepIn K (.ref a) = true ∧ (∀ us : List Value, us.length = d.ps.length → bindArgs fd ⟨us, []⟩ = pure (d.ps.zip us)) ∧ (∀ vs S, run fs G W n f vs S = .no ∨ vs.length = d.ps.length) ∧
    ∀ base : Heap, FnOk P w K mg base CX0 n a fd d.ps (spD K d.ps.length (run fs G W n f))
  | 0, f, d, hf => by
    obtain ⟨a, fd, h1, h2, h3⟩ := t.fn d (List.mem_of_getElem? hf)
    refine ⟨a, fd, h1, h2.kp, h3, fun _ _ => .inl rfl, fun base => ⟨fun vs H Q E h => h.1, fun A outer s H args us vs Q E hr e0 hb r h => ?_⟩⟩
    obtain ⟨_, ds, S, m, _, _, p⟩ := h
    exact p.elim
  | n + 1, f, d, hf => by
    obtain ⟨a, fd, h1, h2, h3⟩ := t.fn d (List.mem_of_getElem? hf)
    obtain ⟨fn, h4, h5⟩ := cp_at t.cp hf
    unfold compF at h4
    split at h4
    · rename_i hs
      obtain ⟨cb, h6, rfl⟩ := Option.map_eq_some_iff.mp h4
      have sc := scope_of hs
      have hpl : d.ps.length ≤ d.N.length := by have := congrArg List.length sc.pre; rw [List.length_take] at this; omega
      have hrun : ∀ vs S, run fs G W (n + 1) f vs S = runF (run fs G W n) G W ⟨d.ps.length, d.N.length, cb⟩ vs S := fun vs S => by
        show (match fs[f]? with | some f => runF (run fs G W n) G W f vs S | none => R.no) = _
        rw [h5]
      refine ⟨a, fd, h1, h2.kp, h3, fun vs S => ?_, fun base => ?_⟩
      · rw [hrun]
        unfold runF
        by_cases e : vs.length = d.ps.length
        · exact .inr e
        · rw [if_neg e]; exact .inl rfl
      refine h2.ok sc (fun vs H Q E h => h.1) fun cdv A outer s H vs Q E hr h => ?_
      obtain ⟨hl, ds', S, m, rs, r, p⟩ := h
      have g : Good (cxOf CX0 P w K mg base d.N d.x (defScope d.st) a cdv A outer s H E).nox T (run fs G W n) G n :=
        ⟨rfl, sc.nd, hr, PassesOwn.never, fun f' x' hf' => by
          rw [t.nm, List.getElem?_map] at hf'
          cases q : ds[f']? with
          | none => rw [q] at hf'; cases hf'
          | some d' =>
            rw [q] at hf'
            cases Option.some.inj hf'
            obtain ⟨a', fd', z1, z2, z3, z4, z5⟩ := fns_ok t n f' d' q
            exact ⟨a', fd', d'.ps, z1, z2, .all z3, z4, z5 base⟩, t.blt, t.con⟩
      have gc : GC (cxOf CX0 P w K mg base d.N d.x (defScope d.st) a cdv A outer s H E).nox { T := T, N := d.N, sc := defScope d.st, wr := d.N.filter fun x => locB (defScope d.st) x } := by
        refine ⟨rfl, rfl, fun y hy => ?_⟩
        rw [List.contains_iff_mem, List.mem_filter] at hy
        refine ⟨?_, .inl rfl⟩
        have hy2 := hy.2
        unfold locB at hy2
        split at hy2
        · exact .inl (by assumption)
        · exact .inr (by assumption)
        · cases hy2
      refine ⟨_, (sound_S (Φ := run fs G W n) (G := G) (k := n) (W := W) fuel).Bl _ _ g gc _ _ h6, ?_⟩
      rw [hrun] at p
      unfold runF at p
      obtain ⟨he, p⟩ := p.ite
      have he : ds'.length = d.ps.length := he
      refine ⟨_, S, m, env_start r (by omega), rs, ?_⟩
      revert p
      cases exec (run fs G W n) G W cb (ds'.map some ++ List.replicate (d.N.length - ds'.length) none) S with
      | ok fl S1 =>
        intro p m1 H1 e1 rs1
        cases fl with
        | nx ρ => exact fun σ1 _ => p .non m1 H1 e1 rs1 (Rep.non_.mpr rfl)
        | rt d => exact fun v rv => p v m1 H1 e1 rs1 rv
        | bk ρ => exact p.elim
        | ct ρ => exact p.elim
      | ex => exact fun p => p
      | no => exact fun p => p
    · cases h4
end
/-- no list is written in the part -/
def noLists (K : PySem.W.Frag) : Bool := K.all fun p => match p.2.cls with
  | .type "list" => false
  | _ => true
theorem lookup_mem {K : PySem.W.Frag} {a : Addr} {o : Obj} (h : K.lookup a = some o) : ∃ p ∈ K, p.2 = o := by
  induction K with
  | nil => simp at h
  | cons q K ih =>
    obtain ⟨b, u⟩ := q
    rw [List.lookup_cons] at h
    split at h
    · cases h; exact ⟨_, List.mem_cons_self, rfl⟩
    · obtain ⟨p, hp, e⟩ := ih h
      exact ⟨p, List.mem_cons_of_mem _ hp, e⟩
theorem noLists_of {K : PySem.W.Frag} (h : noLists K = true) {a : Addr} {o : Obj} (hl : K.lookup a = some o) : o.cls ≠ .type "list" := fun e => by
  obtain ⟨p, hp, rfl⟩ := lookup_mem hl
  have := List.all_eq_true.mp h p hp
  rw [e] at this
  cases this
/-- the law's promise: the script in, True out -/
def spLaw (K : PySem.W.Frag) : Sp := fun vs H Q _ => ∃ (a : Addr) (ns : List Int), vs = [.ref a] ∧ Only H ∧ SqL K H a (ns.map V.int) ∧ ns.length ≤ 63 ∧ ∀ H', Q (.bl true) H'
theorem ints_reps {K : PySem.W.Frag} {m : List Addr} {H : Hp} : ∀ ns : List Int, Reps K m H (ns.map D.int) (ns.map V.int)
  | [] => by simp [Reps.nil_]
  | n :: ns => by simp only [List.map_cons]; rw [Reps.cons_]; exact ⟨_, _, rfl, Rep.int_.mpr rfl, ints_reps ns⟩
theorem law_ok {P : Program} {w : World} {K : PySem.W.Frag} {mg : Str → Option Value} {T : Tab} {ds : List Dfn} {fs : List Fn} {G : Nat → D} {W fuel n f : Nat} {d : Dfn} {x : Str} {fa : Addr} (t : Top K mg T ds fs G fuel) (nl : noLists K = true) (hf : ds[f]? = some d) (hp : d.ps = [x]) (hm : mg d.x = some (.ref fa))
    (hrun : ∀ ns : List Int, ns.length ≤ 63 → ∃ S, run fs G W n f [.ref 0] [.scr (ns.map D.int)] = .ok (.bl true) S) :
    ∃ fd : FuncData, (∀ (s : Shared) (u : Value), BindsTo s fd ⟨[u], []⟩ [(x, u)]) ∧ ∀ base : Heap, FnOk P w K mg base CX0 n fa fd [x] (spLaw K) := by
  obtain ⟨a, fd, h1, h2, h3, h4, F⟩ := fns_ok (P := P) (w := w) (W := W) t n f d hf
  rw [hm] at h1
  cases h1
  refine ⟨fd, fun s u => .of_eq (by rw [h3 [u] (by rw [hp]; rfl), hp]; rfl), fun base => ?_⟩
  rw [← hp]
  refine (F base).imp fun vs H Q E h => ?_
  obtain ⟨b, ns, rfl, hO, hS, hn, q⟩ := h
  obtain ⟨S, hr⟩ := hrun ns hn
  have hl : ([.ref 0] : List D).length = d.ps.length := by rw [hp]; rfl
  have hfz : ∃ o, H b = some (.frz o (.lst (ns.map V.int))) := by
    rcases hS with (h | ⟨o, h⟩) | ⟨o, its, k, hk, hc, _⟩
    · rcases hO b with z | ⟨o, xs, z⟩
      · rw [h] at z; cases z
      · rw [h] at z; cases z
    · exact ⟨o, h⟩
    · exact absurd hc (noLists_of nl hk)
  obtain ⟨o, ho⟩ := hfz
  refine ⟨hl, [.ref 0], [.scr (ns.map D.int)], [b], ⟨rfl, by simp, fun i u c h1 h2 => ?_⟩, ?_, ?_⟩
  · cases i with
    | zero =>
      simp at h1 h2
      subst h1 h2
      exact ⟨o, _, ho, ints_reps ns⟩
    | succ i => simp at h1
  · exact Reps.one (Rep.ref_.mpr ⟨b, rfl, rfl⟩)
  · rw [hr]
    intro v m1 H1 e1 rs1 r1
    rw [Rep.bl_] at r1
    subst r1
    exact q H1
/-- a def from its facts -/
theorem fnAt_mk {K : PySem.W.Frag} {h : Heap} {mg : Str → Option Value} (X : K.In h) (Gn : h.Ns mainGlobals mg) {d : Dfn} {a : Addr} {oc : Value} {od an : Option Addr} {osl : Array (Option Value)} {kV doc pm cdv ct : Value}
    (hb : ∀ (us : List Value), us.length = d.ps.length → bindArgs (PySem.W.fnOf d.x d.x (defArgs d.st) (defBody d.st) (defScope d.st) .none kV doc pm an cdv ct) ⟨us, []⟩ = pure (d.ps.zip us))
    (e : PySem.W.nsIn K mainGlobals d.x = some (some (.ref a))) (l : K.lookup a = some ⟨oc, od, .func (PySem.W.fnOf d.x d.x (defArgs d.st) (defBody d.st) (defScope d.st) .none kV doc pm an cdv ct), osl⟩)
    (c : PySem.W.codeIn K cdv d.x = true) (k : PySem.W.keepIn K (.ref a) = true) : FnAt K mg d :=
  ⟨a, _, PySem.W.mg_of X Gn e, fun_mk l c k, hb⟩
/-- names that are the built-ins' -/
def freeB (K : PySem.W.Frag) (x : Str) : Bool := match PySem.W.nsIn K mainGlobals x with
  | some none => true
  | _ => false
theorem free_of {K : PySem.W.Frag} {h : Heap} {mg : Str → Option Value} (X : K.In h) (Gn : h.Ns mainGlobals mg) {x : Str} (e : freeB K x = true) : mg x = none := by
  unfold freeB at e
  split at e
  · exact PySem.W.mg_none_of X Gn (by assumption)
  · cases e
end RS

namespace RS
open PySem PySem.Spec L2
/-- the end of a law's proof, from the run of the language -/
theorem ends {l : PySem.W.OpenLaw} {n f : Nat} {q : Program} {loose : List Str} {XP : (Str → Option Value) → Heap → Prop} {YP : World → Heap → Prop} {r : PySem.DefRec} {K : PySem.Params → PySem.W.Frag} {T : Tab} {ds : List Dfn} {fs : List Fn} {G : Nat → D} {W fuel : Nat} {d : Dfn} {x : Str}
    (hn : l.most = some 63) (hdf : r.params.defaults = []) (hr : Room n callerA) (hY : ∀ (w : World) (h : Heap), YP w h → (K w.params).In h)
    (hf : ds[f]? = some d) (hp : d.ps = [x]) (hx : d.x = r.name)
    (F : ∀ (w : World) (mg : Str → Option Value) (h : Heap), (K w.params).In h → h.Ns mainGlobals mg → Top (K w.params) mg T ds fs G fuel)
    (nl : ∀ w : World, noLists (K w.params) = true)
    (hrun : ∀ ns : List Int, ns.length ≤ 63 → ∃ S, run fs G W n f [.ref 0] [.scr (ns.map D.int)] = .ok (.bl true) S) :
    PySem.W.WalkO q loose XP YP l.row.toRowW r [] (fun f vs => PySem.call f vs) := by
  refine L2.walk_of (n := 63) (k := n) (x := x) (CX := fun _ => CX0) (sp := fun w => spLaw (K w.params)) hn (by decide) hdf hr hY ?_ (fun _ _ a ns hl hO hS => ⟨a, ns, rfl, hO, hS, hl, fun _ => rfl⟩) (fun _ _ _ _ _ z => z)
  intro w mg fa h KX Gn hmg
  obtain ⟨fd, h1, h2⟩ := law_ok (P := l.prog) (w := w) (W := W) (F w mg h KX Gn) (nl w) hf hp (by rw [hx]; exact hmg) hrun
  exact ⟨fd, h1, fun base _ _ => h2 base⟩
/-- the built-ins' names, all at once -/
def bltsFree (K : PySem.W.Frag) (T : Tab) : Bool := bltNames.all fun x => T.fns.contains x || T.cons.contains x || freeB K x
theorem blts_of {K : PySem.W.Frag} {h : Heap} {mg : Str → Option Value} {T : Tab} (X : K.In h) (Gn : h.Ns mainGlobals mg) (e : bltsFree K T = true) : ∀ x ∈ bltNames, T.fns.contains x = false → T.cons.contains x = false → mg x = none := fun x hx h1 h2 => by
  have := List.all_eq_true.mp e x hx
  rw [h1, h2, Bool.false_or, Bool.false_or] at this
  exact free_of X Gn this
end RS

namespace RS
/-! ### what a run gives, by what is wanted of it -/
/-- a step that is told to be one (no silent unfolding where it is used) -/
theorem nrfl {α : Sort _} {a : α} : a = a := of_eq_true (eq_self a)
def Ok {α : Type} (r : R α) (Q : α → Hs → Prop) : Prop := match r with
  | .ok a S => Q a S
  | _ => False
theorem Ok_ok {α : Type} {a : α} {S : Hs} {Q : α → Hs → Prop} : Ok (.ok a S) Q = Q a S := nrfl
theorem Ok_no {α : Type} {Q : α → Hs → Prop} : Ok .no Q = False := nrfl
theorem Ok_bind {α β : Type} {r : R α} {f : α → Hs → R β} {Q : β → Hs → Prop} : Ok (r.bind f) Q = Ok r fun a S => Ok (f a S) Q := by cases r <;> exact nrfl
theorem Ok.imp {α : Type} {r : R α} {P Q : α → Hs → Prop} (h : Ok r P) (k : ∀ a S, P a S → Q a S) : Ok r Q := by
  cases r with
  | ok a S => exact k a S h
  | ex => exact h
  | no => exact h
theorem Ok.out {α : Type} {r : R α} {Q : α → Hs → Prop} (h : Ok r Q) : ∃ a S, r = .ok a S ∧ Q a S := by
  cases r with
  | ok a S => exact ⟨a, S, rfl, h⟩
  | ex => exact h.elim
  | no => exact h.elim
theorem Ok_ite {α : Type} {c : Prop} [Decidable c] {a b : R α} {Q : α → Hs → Prop} : Ok (if c then a else b) Q = if c then Ok a Q else Ok b Q := by split <;> rfl
theorem Ok_tst {α : Type} {c : Bool} {a b : R α} {Q : α → Hs → Prop} : Ok (tst (.bl c) a b) Q = if c = true then Ok a Q else Ok b Q := by cases c <;> rfl
theorem Ok_tstP {α : Type} {c : Prop} [Decidable c] {a b : R α} {Q : α → Hs → Prop} : Ok (tst (.bl (decide c)) a b) Q = if c then Ok a Q else Ok b Q := by by_cases h : c <;> simp [h, tst]
theorem Ok_tstN {α : Type} {c : Bool} {a b : R α} {Q : α → Hs → Prop} : Ok (tst (.bl (!c)) a b) Q = if c = true then Ok b Q else Ok a Q := by cases c <;> rfl
theorem Ok_lim {α : Type} {n : Nat} {r : R α} {Q : α → Hs → Prop} (h : n ≤ 1000000) : Ok (lim n r) Q = Ok r Q := by
  unfold lim
  rw [if_pos (Nat.le_trans h (by decide))]
/-- statements: what follows -/
def nxQ (k : Rho → Hs → Prop) (Q : Fl → Hs → Prop) : Fl → Hs → Prop := fun f S => match f with
  | .nx ρ => k ρ S
  | f => Q f S
theorem nxQ_nx {k : Rho → Hs → Prop} {Q : Fl → Hs → Prop} {ρ : Rho} {S : Hs} : nxQ k Q (.nx ρ) S = k ρ S := nrfl
theorem nxQ_rt {k : Rho → Hs → Prop} {Q : Fl → Hs → Prop} {d : D} {S : Hs} : nxQ k Q (.rt d) S = Q (.rt d) S := nrfl
theorem nxQ_bk {k : Rho → Hs → Prop} {Q : Fl → Hs → Prop} {ρ : Rho} {S : Hs} : nxQ k Q (.bk ρ) S = Q (.bk ρ) S := nrfl
theorem nxQ_ct {k : Rho → Hs → Prop} {Q : Fl → Hs → Prop} {ρ : Rho} {S : Hs} : nxQ k Q (.ct ρ) S = Q (.ct ρ) S := nrfl
def rtQ (Q : D → Hs → Prop) : Fl → Hs → Prop := fun f S => match f with
  | .nx _ => Q .non S
  | .rt d => Q d S
  | _ => False
theorem rtQ_nx {Q : D → Hs → Prop} {ρ : Rho} {S : Hs} : rtQ Q (.nx ρ) S = Q .non S := nrfl
theorem rtQ_rt {Q : D → Hs → Prop} {d : D} {S : Hs} : rtQ Q (.rt d) S = Q d S := nrfl
section
variable {Φ : Nat → List D → Hs → R D} {G : Nat → D} {W : Nat} {ρ : Rho} {S : Hs} {Q : Fl → Hs → Prop}
theorem x_nil : Ok (exec Φ G W .nil ρ S) Q = Q (.nx ρ) S := nrfl
theorem x_cons {a b : C} : Ok (exec Φ G W (.cons a b) ρ S) Q = Ok (exec Φ G W a ρ S) (nxQ (fun ρ1 S1 => Ok (exec Φ G W b ρ1 S1) Q) Q) := by
  simp only [exec, Ok_bind]
  congr 1
  funext f S1
  cases f <;> rfl
theorem x_asg {tg e : E} : Ok (exec Φ G W (.asg tg e) ρ S) Q = Ok (den Φ G e ρ S) fun d S1 => Ok (denG Φ G tg d ρ S1) fun ρ1 S2 => Q (.nx ρ1) S2 := by simp only [exec, Ok_bind, Ok_ok]
theorem x_exp {e : E} : Ok (exec Φ G W (.exp e) ρ S) Q = Ok (den Φ G e ρ S) fun _ S1 => Q (.nx ρ) S1 := by simp only [exec, Ok_bind, Ok_ok]
theorem x_ret {e : E} : Ok (exec Φ G W (.ret e) ρ S) Q = Ok (den Φ G e ρ S) fun d S1 => Q (.rt d) S1 := by simp only [exec, Ok_bind, Ok_ok]
theorem x_retN : Ok (exec Φ G W .retN ρ S) Q = Q (.rt .non) S := nrfl
theorem x_pas : Ok (exec Φ G W .pas ρ S) Q = Q (.nx ρ) S := nrfl
theorem x_brk : Ok (exec Φ G W .brk ρ S) Q = Q (.bk ρ) S := nrfl
theorem x_cnt : Ok (exec Φ G W .cnt ρ S) Q = Q (.ct ρ) S := nrfl
theorem x_ife {c : E} {a b : C} : Ok (exec Φ G W (.ife c a b) ρ S) Q = Ok (den Φ G c ρ S) fun x S1 => Ok (tst x (exec Φ G W a ρ S1) (exec Φ G W b ρ S1)) Q := by simp only [exec, Ok_bind]
theorem x_aug {i : Nat} {o : Bop} {e : E} {x : D} (h : ρ[i]? = some (some x)) : Ok (exec Φ G W (.aug i o e) ρ S) Q = Ok (den Φ G e ρ S) fun y S1 => Ok (augD S1 o x y) fun z S2 => Q (.nx (ρ.set i (some z))) S2 := by simp only [exec, h, Ok_bind, Ok_ok]
theorem x_for {tg it : E} {b : C} : Ok (exec Φ G W (.for_ tg it b) ρ S) Q = Ok (denI Φ G it ρ S) fun src S1 => Ok (forGo src.gs (fun d ρ' S' => (denG Φ G tg d ρ' S').bind fun ρ1 S2 => exec Φ G W b ρ1 S2) src.its ρ S1) Q := by simp only [exec, Ok_bind]
theorem x_whl {c : E} {b : C} : Ok (exec Φ G W (.whl c b) ρ S) Q = Ok (whlGo (den Φ G c) (exec Φ G W b) W ρ S) Q := by simp only [exec]
end
section
variable {Φ : Nat → List D → Hs → R D} {G : Nat → D} {ρ : Rho} {S : Hs} {Q : D → Hs → Prop}
theorem d_var {i : Nat} {d : D} (h : ρ[i]? = some (some d)) : Ok (den Φ G (.var i) ρ S) Q = Q d S := by simp only [den, h, Ok_ok]
theorem d_non : Ok (den Φ G .non ρ S) Q = Q .non S := by simp only [den, Ok_ok]
theorem d_bl {b : Bool} : Ok (den Φ G (.bl b) ρ S) Q = Q (.bl b) S := by simp only [den, Ok_ok]
theorem d_int {b : Int} : Ok (den Φ G (.int b) ρ S) Q = Q (.int b) S := by simp only [den, Ok_ok]
theorem d_str {b : PySem.Str} : Ok (den Φ G (.str b) ρ S) Q = Q (.str b) S := by simp only [den, Ok_ok]
theorem d_glb {b : Nat} : Ok (den Φ G (.glb b) ρ S) Q = Q (G b) S := by simp only [den, Ok_ok]
theorem d_tup {es : E} : Ok (den Φ G (.tup es) ρ S) Q = Ok (denL Φ G es ρ S) fun ds S1 => Ok (lim ds.length (.ok (.tup ds) S1)) Q := by simp only [den, Ok_bind]
theorem d_lst {es : E} : Ok (den Φ G (.lst es) ρ S) Q = Ok (denL Φ G es ρ S) fun ds S1 => Ok (lim ds.length (newO (.lst ds) S1)) Q := by simp only [den, Ok_bind]
theorem d_bin {o : Bop} {a b : E} : Ok (den Φ G (.bin o a b) ρ S) Q = Ok (den Φ G a ρ S) fun x S1 => Ok (den Φ G b ρ S1) fun y S2 => Ok (binD S2 o x y) Q := by simp only [den, Ok_bind]
theorem d_cmp {o : Cop} {a b : E} : Ok (den Φ G (.cmp o a b) ρ S) Q = Ok (den Φ G a ρ S) fun x S1 => Ok (den Φ G b ρ S1) fun y S2 => Ok (cmpD S2 o x y) Q := by simp only [den, Ok_bind]
def negD (S : Hs) : D → R D
  | .int i => .ok (.int (-i)) S
  | _ => .no
def notD (S : Hs) : D → R D
  | .bl b => .ok (.bl (!b)) S
  | _ => .no
def isiD (S : Hs) (ts : List Ty) (x : D) : R D := match tysAre S x ts with
  | some b => .ok (.bl b) S
  | none => .no
theorem d_neg {a : E} : Ok (den Φ G (.neg a) ρ S) Q = Ok (den Φ G a ρ S) fun x S1 => Ok (negD S1 x) Q := by
  simp only [den, Ok_bind]; first | rfl | (congr 1; funext x S1; cases x <;> rfl)
theorem d_nt {a : E} : Ok (den Φ G (.nt a) ρ S) Q = Ok (den Φ G a ρ S) fun x S1 => Ok (notD S1 x) Q := by
  simp only [den, Ok_bind]; first | rfl | (congr 1; funext x S1; cases x <;> rfl)
theorem d_isN {a : E} : Ok (den Φ G (.isN a) ρ S) Q = Ok (den Φ G a ρ S) fun x S1 => Q (.bl (isN x)) S1 := by simp only [den, Ok_bind, Ok_ok]
theorem d_nsN {a : E} : Ok (den Φ G (.nsN a) ρ S) Q = Ok (den Φ G a ρ S) fun x S1 => Q (.bl (!isN x)) S1 := by simp only [den, Ok_bind, Ok_ok]
theorem d_chn {o p : Cop} {a b c : E} : Ok (den Φ G (.chn o p a b c) ρ S) Q = Ok (den Φ G a ρ S) fun x S1 => Ok (den Φ G b ρ S1) fun y S2 => Ok (cmpD S2 o x y) fun k S3 => Ok (tst k ((den Φ G c ρ S3).bind fun z S4 => cmpD S4 p y z) (.ok (.bl false) S3)) Q := by simp only [den, Ok_bind]
theorem d_and {a b : E} : Ok (den Φ G (.and a b) ρ S) Q = Ok (den Φ G a ρ S) fun x S1 => Ok (tst x (den Φ G b ρ S1) (.ok (.bl false) S1)) Q := by simp only [den, Ok_bind]
theorem d_or {a b : E} : Ok (den Φ G (.or a b) ρ S) Q = Ok (den Φ G a ρ S) fun x S1 => Ok (tst x (.ok (.bl true) S1) (den Φ G b ρ S1)) Q := by simp only [den, Ok_bind]
theorem d_ife {a b c : E} : Ok (den Φ G (.ife c a b) ρ S) Q = Ok (den Φ G c ρ S) fun x S1 => Ok (tst x (den Φ G a ρ S1) (den Φ G b ρ S1)) Q := by simp only [den, Ok_bind]
theorem d_cal {f : Nat} {es : E} : Ok (den Φ G (.cal f es) ρ S) Q = Ok (denL Φ G es ρ S) fun ds S1 => Ok (Φ f ds S1) Q := by simp only [den, Ok_bind]
theorem d_bi {f : Bi} {es : E} : Ok (den Φ G (.bi f es) ρ S) Q = Ok (denL Φ G es ρ S) fun ds S1 => Ok (biF S1 f ds) Q := by simp only [den, Ok_bind]
theorem d_isi {ts : List Ty} {a : E} : Ok (den Φ G (.isi ts a) ρ S) Q = Ok (den Φ G a ρ S) fun x S1 => Ok (isiD S1 ts x) Q := by
  simp only [den, Ok_bind, isiD]; all_goals rfl
theorem d_mth {m : Mt} {o es : E} : Ok (den Φ G (.mth m o es) ρ S) Q = Ok (den Φ G o ρ S) fun x S1 => if mtK S1 m x = true then Ok (denL Φ G es ρ S1) (fun ds S2 => Ok (mtF S2 m x ds) Q) else False := by
  simp only [den, Ok_bind]; congr 1; funext x S1; split <;> simp only [Ok_bind, Ok_no]
theorem d_ix {a i : E} : Ok (den Φ G (.ix a i) ρ S) Q = Ok (den Φ G a ρ S) fun x S1 => Ok (den Φ G i ρ S1) fun y S2 => Ok (ixD S2 x y) Q := by simp only [den, Ok_bind]
theorem d_sl {a lo hi : E} : Ok (den Φ G (.sl a lo hi) ρ S) Q = Ok (den Φ G a ρ S) fun x S1 => Ok (denO Φ G lo ρ S1) fun l S2 => Ok (denO Φ G hi ρ S2) fun h S3 => Ok (slD S3 x l h) Q := by simp only [den, Ok_bind]
theorem d_rvs {a : E} : Ok (den Φ G (.rvs a) ρ S) Q = Ok (den Φ G a ρ S) fun x S1 => Ok (rvD S1 x) Q := by simp only [den, Ok_bind]
theorem d_lrg {es : E} : Ok (den Φ G (.lrg es) ρ S) Q = Ok (denL Φ G es ρ S) fun ds S1 => Ok (lrD S1 ds) Q := by simp only [den, Ok_bind]
/-- one turn of a comprehension -/
def lcT (Φ : Nat → List D → Hs → R D) (G : Nat → D) (vs : List Nat) (e tg c : E) (ρ : Rho) (d : D) (S : Hs) : R (Option D) := (denG Φ G tg d (wipeR ρ vs) S).bind fun ρ' S2 => (den Φ G c ρ' S2).bind fun k S3 => tst k ((den Φ G e ρ' S3).bind fun x S4 => .ok (some x) S4) (.ok none S3)
theorem d_lc {vs : List Nat} {e tg it c : E} : Ok (den Φ G (.lc vs e tg it c) ρ S) Q = Ok (denI Φ G it ρ S) fun src S1 => Ok (lcGo src.gs (lcT Φ G vs e tg c ρ) src.its S1) fun r S2 => Ok (lim src.its.length (newO (.lst r) S2)) Q := by
  simp only [den, Ok_bind]; rfl
theorem lcT_eq {vs : List Nat} {e tg c : E} {d : D} {Q : Option D → Hs → Prop} : Ok (lcT Φ G vs e tg c ρ d S) Q = Ok (denG Φ G tg d (wipeR ρ vs) S) fun ρ' S2 => Ok (den Φ G c ρ' S2) fun k S3 => Ok (tst k ((den Φ G e ρ' S3).bind fun x S4 => .ok (some x) S4) (.ok none S3)) Q := by
  simp only [lcT, Ok_bind]
theorem l_nil {Q : List D → Hs → Prop} : Ok (denL Φ G .nil ρ S) Q = Q [] S := by simp only [denL, Ok_ok]
theorem l_cons {a b : E} {Q : List D → Hs → Prop} : Ok (denL Φ G (.cons a b) ρ S) Q = Ok (den Φ G a ρ S) fun x S1 => Ok (denL Φ G b ρ S1) fun xs S2 => Q (x :: xs) S2 := by simp only [denL, Ok_bind, Ok_ok]
theorem o_nil {Q : Option Int → Hs → Prop} : Ok (denO Φ G .nil ρ S) Q = Q none S := by simp only [denO, Ok_ok]
def oiD (S : Hs) : D → R (Option Int)
  | .int i => .ok (some i) S
  | _ => .no
theorem o_cons {a b : E} {Q : Option Int → Hs → Prop} : Ok (denO Φ G (.cons a b) ρ S) Q = Ok (den Φ G a ρ S) fun x S1 => Ok (oiD S1 x) Q := by
  simp only [denO, Ok_bind]; first | rfl | (congr 1; funext x S1; cases x <;> rfl)
theorem i_rng {es : E} {Q : Src → Hs → Prop} : Ok (denI Φ G (.rng es) ρ S) Q = Ok (denL Φ G es ρ S) fun ds S1 => Ok (rgD S1 ds) Q := by simp only [denI, Ok_bind]
theorem i_enm {es : E} {Q : Src → Hs → Prop} : Ok (denI Φ G (.enm es) ρ S) Q = Ok (denL Φ G es ρ S) fun ds S1 => Ok (enD S1 ds) Q := by simp only [denI, Ok_bind]
theorem i_zip {st : Bool} {es : E} {Q : Src → Hs → Prop} : Ok (denI Φ G (.zip st es) ρ S) Q = Ok (denL Φ G es ρ S) fun ds S1 => Ok (zpD st S1 ds) Q := by simp only [denI, Ok_bind]
theorem i_cons {a b : E} {Q : Src → Hs → Prop} : Ok (denI Φ G (.cons a b) ρ S) Q = Ok (den Φ G a ρ S) fun x S1 => Ok (ofO S1 (srcOf S1 x)) Q := by simp only [denI, Ok_bind]
theorem g_var {i : Nat} {d : D} {Q : Rho → Hs → Prop} (h : i < ρ.length) : Ok (denG Φ G (.var i) d ρ S) Q = Q (ρ.set i (some d)) S := by simp only [denG, if_pos h, Ok_ok]
theorem g_tup {es : E} {ds : List D} {Q : Rho → Hs → Prop} (h : ds.length = cnt es) : Ok (denG Φ G (.tup es) (.tup ds) ρ S) Q = Ok (denGs Φ G es ds ρ S) Q := by simp only [denG, if_pos h]
theorem g_ix {a i : E} {d : D} {Q : Rho → Hs → Prop} : Ok (denG Φ G (.ix a i) d ρ S) Q = Ok (den Φ G a ρ S) fun x S1 => Ok (den Φ G i ρ S1) fun y S2 => Ok (setIx S2 x y d) fun _ S3 => Q ρ S3 := by simp only [denG, Ok_bind, Ok_ok]
theorem gs_nil {Q : Rho → Hs → Prop} : Ok (denGs Φ G .nil [] ρ S) Q = Q ρ S := by simp only [denGs, Ok_ok]
theorem gs_cons {a b : E} {d : D} {ds : List D} {Q : Rho → Hs → Prop} : Ok (denGs Φ G (.cons a b) (d :: ds) ρ S) Q = Ok (denG Φ G a d ρ S) fun ρ1 S1 => Ok (denGs Φ G b ds ρ1 S1) Q := by simp only [denGs, Ok_bind]
end
theorem Ok_runF {Φ : Nat → List D → Hs → R D} {G : Nat → D} {W np nn : Nat} {b : C} {ds : List D} {S : Hs} {Q : D → Hs → Prop} (h : ds.length = np) (hb : Ok (exec Φ G W b (ds.map some ++ List.replicate (nn - ds.length) none) S) (rtQ Q)) : Ok (runF Φ G W ⟨np, nn, b⟩ ds S) Q := by
  unfold runF
  rw [if_pos h, Ok_bind]
  exact hb.imp fun f S q => by cases f <;> first | exact q | exact q.elim
theorem Ok_run {fs : List Fn} {G : Nat → D} {W n i np nn : Nat} {b : C} {ds : List D} {S : Hs} {Q : D → Hs → Prop} (e : fs[i]? = some ⟨np, nn, b⟩) (h : ds.length = np) (hb : Ok (exec (run fs G W n) G W b (ds.map some ++ List.replicate (nn - ds.length) none) S) (rtQ Q)) : Ok (run fs G W (n + 1) i ds S) Q := by
  show Ok (match fs[i]? with | some f => runF (run fs G W n) G W f ds S | none => .no) Q
  rw [e]
  exact Ok_runF h hb
/-! ### walks -/
theorem forGo_ok {gs : List (Nat × List D)} {turn : D → Rho → Hs → R Fl} {ds : List D} {ρ : Rho} {S : Hs} {Q : Fl → Hs → Prop} (I : Nat → Rho → Hs → Prop) (h0 : I 0 ρ S) (hh : ∀ i ρ S, i ≤ ds.length → I i ρ S → held S gs = true)
    (ht : ∀ i d ρ S, ds[i]? = some d → I i ρ S → Ok (turn d ρ S) fun f S1 => match f with | .nx ρ1 => I (i + 1) ρ1 S1 | .ct ρ1 => I (i + 1) ρ1 S1 | .bk ρ1 => Q (.nx ρ1) S1 | .rt x => Q (.rt x) S1)
    (hq : ∀ ρ S, I ds.length ρ S → Q (.nx ρ) S) : Ok (forGo gs turn ds ρ S) Q := by
  induction ds generalizing I ρ S with
  | nil =>
    rw [forGo, if_pos (hh 0 _ _ (Nat.le_refl _) h0)]
    exact hq _ _ h0
  | cons d ds ih =>
    rw [forGo, if_pos (hh 0 _ _ (Nat.zero_le _) h0), Ok_bind]
    refine (ht 0 d ρ S rfl h0).imp fun f S1 q => ?_
    cases f with
    | nx ρ1 => exact ih (fun i => I (i + 1)) q (fun i ρ S hi => hh (i + 1) ρ S (Nat.succ_le_succ hi)) (fun i d ρ S hd => ht (i + 1) d ρ S hd) hq
    | ct ρ1 => exact ih (fun i => I (i + 1)) q (fun i ρ S hi => hh (i + 1) ρ S (Nat.succ_le_succ hi)) (fun i d ρ S hd => ht (i + 1) d ρ S hd) hq
    | bk ρ1 => exact q
    | rt x => exact q
/-- a comprehension, by an invariant of the items done and what was found -/
theorem lcGo_ok {gs : List (Nat × List D)} {turn : D → Hs → R (Option D)} {ds : List D} {S : Hs} {Q : List D → Hs → Prop} (I : Nat → List D → Hs → Prop) (h0 : I 0 [] S) (hh : ∀ i r S, i ≤ ds.length → I i r S → held S gs = true)
    (ht : ∀ i d r S, ds[i]? = some d → I i r S → Ok (turn d S) fun o S1 => I (i + 1) (r ++ o.toList) S1)
    (hq : ∀ r S, I ds.length r S → Q r S) : Ok (lcGo gs turn ds S) Q := by
  induction ds generalizing I S Q with
  | nil =>
    rw [lcGo, if_pos (hh 0 _ _ (Nat.le_refl _) h0)]
    exact hq _ _ h0
  | cons d ds ih =>
    rw [lcGo, if_pos (hh 0 _ _ (Nat.zero_le _) h0), Ok_bind]
    refine (ht 0 d [] S rfl h0).imp fun o S1 q => ?_
    rw [Ok_bind]
    refine ih (fun i r S => I (i + 1) ([] ++ o.toList ++ r) S) (by simpa using q) (fun i r S hi => hh (i + 1) _ S (Nat.succ_le_succ hi)) (fun i d r S hd h => ?_) fun r S h => ?_
    · refine (ht (i + 1) d _ S hd h).imp fun o' S1 q => by simpa using q
    · rw [Ok_ok]
      have := hq _ S h
      cases o <;> simpa using this
/-- a comprehension whose turns leave an invariant alone and give what g tells -/
theorem lcGo_pure {gs : List (Nat × List D)} {turn : D → Hs → R (Option D)} {ds : List D} {S : Hs} {Q : List D → Hs → Prop} (I : Hs → Prop) (g : D → Option D) (h0 : I S) (hh : ∀ S, I S → held S gs = true)
    (ht : ∀ d ∈ ds, ∀ S, I S → Ok (turn d S) fun o S1 => o = g d ∧ I S1) (hq : ∀ S, I S → Q (ds.filterMap g) S) : Ok (lcGo gs turn ds S) Q := by
  refine lcGo_ok (fun i r S => r = (ds.take i).filterMap g ∧ I S) ⟨by simp, h0⟩ (fun i r S _ h => hh S h.2) (fun i d r S hd h => ?_) (fun r S h => ?_)
  · refine (ht d (List.mem_of_getElem? hd) S h.2).imp fun o S1 q => ⟨?_, q.2⟩
    rw [h.1, q.1, List.take_succ, hd, List.filterMap_append]
    cases e : g d <;> simp [e]
  · rw [h.1, List.take_length]
    exact hq S h.2
theorem whlGo_ok {cond : Rho → Hs → R D} {turn : Rho → Hs → R Fl} {W : Nat} {ρ : Rho} {S : Hs} {Q : Fl → Hs → Prop} (I : Nat → Rho → Hs → Prop) (m : Nat) (hm : m < W) (h0 : I m ρ S)
    (ht : ∀ k ρ S, I k ρ S → Ok (cond ρ S) fun x S1 => ∃ b, x = .bl b ∧ (b = true → 0 < k ∧ Ok (turn ρ S1) fun f S2 => match f with | .nx ρ1 => I (k - 1) ρ1 S2 | .ct ρ1 => I (k - 1) ρ1 S2 | .bk ρ1 => Q (.nx ρ1) S2 | .rt x => Q (.rt x) S2) ∧ (b = false → Q (.nx ρ) S1)) : Ok (whlGo cond turn W ρ S) Q := by
  induction W generalizing m ρ S with
  | zero => omega
  | succ W ih =>
    rw [whlGo, Ok_bind]
    refine (ht m ρ S h0).imp fun x S1 h => ?_
    obtain ⟨b, rfl, h1, h2⟩ := h
    cases b with
    | true =>
      obtain ⟨hk, h1⟩ := h1 rfl
      rw [tst_t, Ok_bind]
      refine h1.imp fun f S2 q => ?_
      cases f with
      | nx ρ1 => exact ih (m - 1) (by omega) q
      | ct ρ1 => exact ih (m - 1) (by omega) q
      | bk ρ1 => exact q
      | rt x => exact q
    | false => exact h2 rfl
/-! ### what stays -/
/-- but for the things named, all that there was stays -/
def Fr (mod : List Nat) (S S' : Hs) : Prop := S.length ≤ S'.length ∧ ∀ i, i < S.length → i ∉ mod → S'[i]? = S[i]?
theorem Fr.refl {mod : List Nat} {S : Hs} : Fr mod S S := ⟨Nat.le_refl _, fun _ _ _ => rfl⟩
theorem Fr.trans {mod : List Nat} {S S1 S2 : Hs} (a : Fr mod S S1) (b : Fr mod S1 S2) : Fr mod S S2 := ⟨Nat.le_trans a.1 b.1, fun i hi hm => (b.2 i (Nat.lt_of_lt_of_le hi a.1) hm).trans (a.2 i hi hm)⟩
theorem Fr.mono {mod mod' : List Nat} {S S1 : Hs} (a : Fr mod S S1) (h : ∀ i ∈ mod, i ∈ mod') : Fr mod' S S1 := ⟨a.1, fun i hi hm => a.2 i hi fun z => hm (h i z)⟩
theorem Fr.any {mod : List Nat} {S S1 : Hs} (a : Fr [] S S1) : Fr mod S S1 := a.mono fun _ h => by cases h
theorem Fr.new {mod : List Nat} {S : Hs} {o : O} : Fr mod S (S ++ [o]) := ⟨by simp, fun i hi _ => List.getElem?_append_left hi⟩
theorem Fr.app {mod : List Nat} {S T : Hs} : Fr mod S (S ++ T) := ⟨by simp, fun i hi _ => List.getElem?_append_left hi⟩
theorem Fr.set {mod : List Nat} {S : Hs} {i : Nat} {o : O} (h : i ∈ mod) : Fr mod S (S.set i o) := ⟨by simp, fun j hj hm => by
  rw [List.getElem?_set_ne]
  intro e
  subst e
  exact hm h⟩
theorem lt_of_get {S : Hs} {i : Nat} {o : O} (h : S[i]? = some o) : i < S.length := (List.getElem?_eq_some_iff.mp h).1
theorem Fr.get {mod : List Nat} {S S' : Hs} {i : Nat} {o : O} (f : Fr mod S S') (h : S[i]? = some o) (hm : i ∉ mod) : S'[i]? = some o := by rw [f.2 i (lt_of_get h) hm]; exact h
theorem Fr.get0 {S S' : Hs} {i : Nat} {o : O} (f : Fr [] S S') (h : S[i]? = some o) : S'[i]? = some o := f.get h (by simp)
/-- a thing that was made since S -/
theorem Fr.since {mod : List Nat} {S S1 S2 : Hs} {j : Nat} (a : Fr mod S S1) (b : Fr (j :: mod) S1 S2) (hj : S.length ≤ j) : Fr mod S S2 := ⟨Nat.le_trans a.1 b.1, fun i hi hm => by
  rw [b.2 i (Nat.lt_of_lt_of_le hi a.1) (by
    intro z
    rcases List.mem_cons.mp z with e | e
    · omega
    · exact hm e)]
  exact a.2 i hi hm⟩
theorem Ok_new {o : O} {S : Hs} {Q : D → Hs → Prop} : Ok (newO o S) Q = Q (.ref S.length) (S ++ [o]) := nrfl
theorem Ok_newA {o : O} {S : Hs} {Q : D → Hs → Prop} (h : ∀ a S', S'[a]? = some o → a = S.length → S'.length = S.length + 1 → Fr [] S S' → Q (.ref a) S') : Ok (newO o S) Q := h _ _ (by simp) rfl (by simp) .new
/-! ### steps, one by one -/
section
variable {Φ : Nat → List D → Hs → R D} {G : Nat → D} {W : Nat} {ρ : Rho} {S : Hs}
/-- the statements behind are hidden while the first one is walked -/
theorem x_step {a b : C} {Q : Fl → Hs → Prop} (h : ∀ K : Rho → Hs → Prop, (∀ ρ S, Ok (exec Φ G W b ρ S) Q → K ρ S) → Ok (exec Φ G W a ρ S) (nxQ K Q)) : Ok (exec Φ G W (.cons a b) ρ S) Q := by
  rw [x_cons]
  exact h _ fun _ _ h => h
theorem x_one {a : C} {Q : Fl → Hs → Prop} : Ok (exec Φ G W (.cons a .nil) ρ S) Q = Ok (exec Φ G W a ρ S) Q := by
  rw [x_cons]
  congr 1
  funext f S1
  cases f <;> rfl
def gv (S : Hs) : Option (Option D) → R D
  | some (some d) => .ok d S
  | _ => .no
theorem gv_some {d : D} {Q : D → Hs → Prop} : Ok (gv S (some (some d))) Q = Q d S := nrfl
theorem d_var' {i : Nat} {Q : D → Hs → Prop} : Ok (den Φ G (.var i) ρ S) Q = Ok (gv S ρ[i]?) Q := by
  simp only [den]
  rcases ρ[i]? with _ | _ | d <;> rfl
end
section
variable {S : Hs} {Q : D → Hs → Prop} {i j : Int}
theorem b_add : Ok (binD S .add (.int i) (.int j)) Q = Q (.int (i + j)) S := nrfl
theorem b_sub : Ok (binD S .sub (.int i) (.int j)) Q = Q (.int (i - j)) S := nrfl
theorem b_mul : Ok (binD S .mul (.int i) (.int j)) Q = if mulOk i j = true then Q (.int (i * j)) S else False := by simp only [binD, Ok_ite, Ok_ok, Ok_no]
theorem b_mod : Ok (binD S .mod (.int i) (.int j)) Q = if j ≠ 0 then Q (.int (i.fmod j)) S else False := by simp only [binD, Ok_ite, Ok_ok, Ok_no]
theorem b_fdv : Ok (binD S .fdv (.int i) (.int j)) Q = if j ≠ 0 ∧ j.natAbs < 1073741824 then Q (.int (i.fdiv j)) S else False := by simp only [binD, Ok_ite, Ok_ok, Ok_no]
theorem b_pow : Ok (binD S .pow (.int i) (.int j)) Q = if 0 ≤ j ∧ j ≤ 1000000 ∧ i.natAbs < 2 ^ 64 then Q (.int (i ^ j.toNat)) S else False := by simp only [binD, Ok_ite, Ok_ok, Ok_no]
theorem b_adds {x y : PySem.Str} : Ok (binD S .add (.str x) (.str y)) Q = Ok (lim (x.length + y.length) (.ok (.str (x ++ y)) S)) Q := nrfl
theorem b_addt {x y : List D} : Ok (binD S .add (.tup x) (.tup y)) Q = Ok (lim (x.length + y.length) (.ok (.tup (x ++ y)) S)) Q := nrfl
def addL (S : Hs) : Option O → Option O → R D
  | some (.lst xs), some (.lst ys) => lim (xs.length + ys.length) (newO (.lst (xs ++ ys)) S)
  | _, _ => .no
theorem b_addl {a b : Nat} : Ok (binD S .add (.ref a) (.ref b)) Q = Ok (addL S S[a]? S[b]?) Q := by
  simp only [binD]
  rcases S[a]? with _ | o
  · rfl
  · rcases S[b]? with _ | p
    · cases o <;> rfl
    · cases o <;> cases p <;> rfl
theorem addL_eq {x y : List D} : Ok (addL S (some (.lst x)) (some (.lst y))) Q = Ok (lim (x.length + y.length) (newO (.lst (x ++ y)) S)) Q := nrfl
def mulL (S : Hs) (k : Int) : Option O → R D
  | some (.lst xs) => if -(2 ^ 63) ≤ k ∧ k < 2 ^ 63 ∧ xs.length * k.toNat ≤ PySem.sizeLine then newO (.lst (rep k.toNat xs)) S else .no
  | _ => .no
theorem b_mull {a : Nat} {k : Int} : Ok (binD S .mul (.ref a) (.int k)) Q = Ok (mulL S k S[a]?) Q := by
  simp only [binD]
  rcases S[a]? with _ | o
  · rfl
  · cases o <;> rfl
theorem c_lt : Ok (cmpD S .lt (.int i) (.int j)) Q = Q (.bl (decide (i < j))) S := nrfl
theorem c_le : Ok (cmpD S .le (.int i) (.int j)) Q = Q (.bl (decide (i ≤ j))) S := nrfl
theorem c_gt : Ok (cmpD S .gt (.int i) (.int j)) Q = Q (.bl (decide (j < i))) S := nrfl
theorem c_ge : Ok (cmpD S .ge (.int i) (.int j)) Q = Q (.bl (decide (j ≤ i))) S := nrfl
def eqO (S : Hs) (n : Bool) : Option Bool → R D
  | some b => .ok (.bl (n != b)) S
  | none => .no
theorem c_eq {x y : D} : Ok (cmpD S .eq x y) Q = Ok (eqO S false (eqD S x y)) Q := by
  have : cmpD S .eq x y = eqO S false (eqD S x y) := by
    simp only [cmpD]
    cases eqD S x y with
    | none => rfl
    | some b => cases b <;> rfl
  rw [this]
theorem c_ne {x y : D} : Ok (cmpD S .ne x y) Q = Ok (eqO S true (eqD S x y)) Q := by
  have : cmpD S .ne x y = eqO S true (eqD S x y) := by
    simp only [cmpD]
    cases eqD S x y with
    | none => rfl
    | some b => cases b <;> rfl
  rw [this]
theorem eqO_f {b : Bool} : Ok (eqO S false (some b)) Q = Q (.bl b) S := by cases b <;> rfl
theorem eqO_t {b : Bool} : Ok (eqO S true (some b)) Q = Q (.bl (!b)) S := by cases b <;> rfl
theorem eq_ii : eqD S (.int i) (.int j) = some (decide (i = j)) := nrfl
theorem eq_ss {x y : PySem.Str} : eqD S (.str x) (.str y) = some (decide (x = y)) := nrfl
def lenD (S : Hs) : Option Nat → R D
  | some n => .ok (.int n) S
  | none => .no
theorem bi_len {d : D} : Ok (biF S .len [d]) Q = Ok (lenD S (lenOf S d)) Q := by
  simp only [biF]
  cases lenOf S d <;> rfl
theorem lenD_some {n : Nat} : Ok (lenD S (some n)) Q = Q (.int n) S := nrfl
theorem len_t {ds : List D} : lenOf S (.tup ds) = some ds.length := nrfl
def seqO : Option O → Option (List D)
  | some (.lst ds) => some ds
  | some (.scr ds) => some ds
  | _ => none
theorem seq_r {a : Nat} : seqOf S (.ref a) = seqO S[a]? := by
  simp only [seqOf]
  rcases S[a]? with _ | o
  · rfl
  · cases o <;> rfl
theorem seqO_l {ds : List D} : seqO (some (.lst ds)) = some ds := nrfl
theorem seqO_s {ds : List D} : seqO (some (.scr ds)) = some ds := nrfl
theorem len_r {a : Nat} : lenOf S (.ref a) = (seqO S[a]?).map List.length := by rw [← seq_r]; rfl
theorem len_s {x : PySem.Str} (h : x.length ≤ 1000000) : lenOf S (.str x) = some x.length := by
  show (if x.length ≤ PySem.sizeLine then some x.length else none) = _
  rw [if_pos (Nat.le_trans h (by decide))]
theorem bi_int : Ok (biF S .int [.int i]) Q = Q (.int i) S := nrfl
theorem bi_intb {b : Bool} : Ok (biF S .int [.bl b]) Q = Q (.int (if b then 1 else 0)) S := nrfl
theorem bi_maxii : Ok (biF S .max [.int i, .int j]) Q = Q (.int (if j > i then j else i)) S := nrfl
theorem bi_minii : Ok (biF S .min [.int i, .int j]) Q = Q (.int (if j < i then j else i)) S := nrfl
def ofS (S : Hs) (f : List D → R D) : Option (List D) → R D
  | some ds => f ds
  | none => .no
theorem ofS_some {f : List D → R D} {ds : List D} : Ok (ofS S f (some ds)) Q = Ok (f ds) Q := nrfl
theorem bi_listr {a : Nat} : Ok (biF S .list [.ref a]) Q = Ok (ofS S (fun ds => newO (.lst ds) S) (seqO S[a]?)) Q := by
  have : biF S .list [.ref a] = ofS S (fun ds => newO (.lst ds) S) (seqOf S (.ref a)) := by
    simp only [biF]
    cases seqOf S (.ref a) <;> rfl
  rw [this, seq_r]
theorem bi_listt {ds : List D} : Ok (biF S .list [.tup ds]) Q = Ok (newO (.lst ds) S) Q := nrfl
theorem bi_lists {x : PySem.Str} : Ok (biF S .list [.str x]) Q = Ok (lim x.length (newO (.lst (signs x)) S)) Q := nrfl
theorem bi_tupr {a : Nat} : Ok (biF S .tuple [.ref a]) Q = Ok (ofS S (fun ds => .ok (.tup ds) S) (seqO S[a]?)) Q := by
  have : biF S .tuple [.ref a] = ofS S (fun ds => .ok (.tup ds) S) (seqOf S (.ref a)) := by
    simp only [biF]
    cases seqOf S (.ref a) <;> rfl
  rw [this, seq_r]
theorem bi_tupt {ds : List D} : Ok (biF S .tuple [.tup ds]) Q = Q (.tup ds) S := nrfl
theorem bi_sum {a : Nat} {ds : List D} {ns : List Int} (h : S[a]? = some (.lst ds)) (e : intsOf ds = some ns) : Ok (biF S .sum [.ref a]) Q = Q (.int ns.sum) S := by
  simp only [biF, seq_r, h, seqO_l, Option.bind_some, e]; rfl
theorem bi_all {a : Nat} {ds : List D} {ns : List Bool} (h : S[a]? = some (.lst ds)) (e : boolsOf ds = some ns) : Ok (biF S .all [.ref a]) Q = Q (.bl (ns.all id)) S := by
  simp only [biF, seq_r, h, seqO_l, Option.bind_some, e]; rfl
theorem bi_any {a : Nat} {ds : List D} {ns : List Bool} (h : S[a]? = some (.lst ds)) (e : boolsOf ds = some ns) : Ok (biF S .any [.ref a]) Q = Q (.bl (ns.any id)) S := by
  simp only [biF, seq_r, h, seqO_l, Option.bind_some, e]; rfl
theorem bi_maxl {a : Nat} {ds : List D} {ns : List Int} {n : Int} (h : S[a]? = some (.lst ds)) (e : intsOf ds = some ns) (m : maxL ns = some n) : Ok (biF S .max [.ref a]) Q = Q (.int n) S := by
  simp only [biF, seq_r, h, seqO_l, Option.bind_some, e, m]; rfl
theorem bi_minl {a : Nat} {ds : List D} {ns : List Int} {n : Int} (h : S[a]? = some (.lst ds)) (e : intsOf ds = some ns) (m : minL ns = some n) : Ok (biF S .min [.ref a]) Q = Q (.int n) S := by
  simp only [biF, seq_r, h, seqO_l, Option.bind_some, e, m]; rfl
def ixO (S : Hs) : Option D → R D
  | some d => .ok d S
  | none => .no
theorem ixO_some {d : D} : Ok (ixO S (some d)) Q = Q d S := nrfl
theorem ix_t {ds : List D} : Ok (ixD S (.tup ds) (.int i)) Q = Ok (ixO S (L2.atI ds i)) Q := by
  have : ixD S (.tup ds) (.int i) = ixO S (L2.atI ds i) := by
    simp only [ixD, ixS, seqOf]
    cases L2.atI ds i <;> rfl
  rw [this]
theorem ix_r {a : Nat} : Ok (ixD S (.ref a) (.int i)) Q = Ok (ofS S (fun ds => ixO S (L2.atI ds i)) (seqO S[a]?)) Q := by
  have : ixD S (.ref a) (.int i) = ofS S (fun ds => ixO S (L2.atI ds i)) (seqOf S (.ref a)) := by
    simp only [ixD, ixS]
    cases seqOf S (.ref a) with
    | none => rfl
    | some ds => simp only [ofS]; cases L2.atI ds i <;> rfl
  rw [this, seq_r]
def ixC (S : Hs) : Option Nat → R D
  | some c => .ok (.str ⟨#[c]⟩) S
  | none => .no
theorem ix_s {x : PySem.Str} (h : x.length ≤ 1000000) : Ok (ixD S (.str x) (.int i)) Q = Ok (ixC S (L2.atI x.cps.toList i)) Q := by
  simp only [ixD]
  rw [if_pos (Nat.le_trans h (by decide))]
  cases L2.atI x.cps.toList i <;> rfl
theorem at_0 {d : D} {ds : List D} : L2.atI (d :: ds) 0 = some d := by
  unfold L2.atI L2.ixN
  rw [if_pos (by decide), if_pos (by simp only [List.length_cons]; omega)]; rfl
theorem at_1 {c d : D} {ds : List D} : L2.atI (c :: d :: ds) 1 = some d := by
  unfold L2.atI L2.ixN
  rw [if_pos (by decide), if_pos (by simp only [List.length_cons]; omega)]; rfl
theorem at_2 {b c d : D} {ds : List D} : L2.atI (b :: c :: d :: ds) 2 = some d := by
  unfold L2.atI L2.ixN
  rw [if_pos (by decide), if_pos (by simp only [List.length_cons]; omega)]; rfl
theorem at_3 {a b c d : D} {ds : List D} : L2.atI (a :: b :: c :: d :: ds) 3 = some d := by
  unfold L2.atI L2.ixN
  rw [if_pos (by decide), if_pos (by simp only [List.length_cons]; omega)]; rfl
theorem sl_t {ds : List D} {lo hi : Option Int} : Ok (slD S (.tup ds) lo hi) Q = Q (.tup (cutD ds lo hi)) S := nrfl
theorem sl_r {a : Nat} {lo hi : Option Int} : Ok (slD S (.ref a) lo hi) Q = Ok (ofS S (fun ds => newO (.lst (cutD ds lo hi)) S) (seqO S[a]?)) Q := by
  have : slD S (.ref a) lo hi = ofS S (fun ds => newO (.lst (cutD ds lo hi)) S) (seqOf S (.ref a)) := by
    simp only [slD]
    cases seqOf S (.ref a) <;> rfl
  rw [this, seq_r]
theorem sl_s {x : PySem.Str} {lo hi : Option Int} (h : x.length ≤ 1000000) : Ok (slD S (.str x) lo hi) Q = Q (.str ⟨(cutD x.cps.toList lo hi).toArray⟩) S := by
  simp only [slD]
  rw [if_pos (Nat.le_trans h (by decide))]; rfl
theorem rv_r {a : Nat} : Ok (rvD S (.ref a)) Q = Ok (ofS S (fun ds => newO (.lst ds.reverse) S) (seqO S[a]?)) Q := by
  have : rvD S (.ref a) = ofS S (fun ds => newO (.lst ds.reverse) S) (seqOf S (.ref a)) := by
    simp only [rvD]
    cases seqOf S (.ref a) <;> rfl
  rw [this, seq_r]
def setO (S : Hs) (a : Nat) (k : Int) (d : D) : Option O → R Unit
  | some (.lst xs) => match L2.ixN xs.length k with
    | some j => .ok () (S.set a (.lst (xs.set j d)))
    | none => .no
  | _ => .no
theorem set_r {a : Nat} {d : D} {Q : Unit → Hs → Prop} : Ok (setIx S (.ref a) (.int i) d) Q = Ok (setO S a i d S[a]?) Q := by
  have : setIx S (.ref a) (.int i) d = setO S a i d S[a]? := by
    simp only [setIx, lstAt]
    rcases S[a]? with _ | o
    · rfl
    · cases o <;> rfl
  rw [this]
theorem setO_eq {a : Nat} {d : D} {xs : List D} {j : Nat} {Q : Unit → Hs → Prop} (h : L2.ixN xs.length i = some j) : Ok (setO S a i d (some (.lst xs))) Q = Q () (S.set a (.lst (xs.set j d))) := by
  simp only [setO, h]; rfl
end
section
variable {S : Hs} {Q : D → Hs → Prop} {a : Nat} {xs ys : List D} {d : D} {i : Int}
theorem lstAt_of (h : S[a]? = some (.lst xs)) : lstAt S a = some xs := by simp only [lstAt, h]
theorem mk_append (h : S[a]? = some (.lst xs)) : mtK S .append (.ref a) = true := by simp only [mtK, lstAt_of h, Option.isSome]
theorem mk_pop (h : S[a]? = some (.lst xs)) : mtK S .pop (.ref a) = true := by simp only [mtK, lstAt_of h, Option.isSome]
theorem mk_insert (h : S[a]? = some (.lst xs)) : mtK S .insert (.ref a) = true := by simp only [mtK, lstAt_of h, Option.isSome]
theorem mk_extend (h : S[a]? = some (.lst xs)) : mtK S .extend (.ref a) = true := by simp only [mtK, lstAt_of h, Option.isSome]
theorem mk_join {x : PySem.Str} : mtK S .join (.str x) = true := nrfl
theorem m_append (h : S[a]? = some (.lst xs)) (hl : xs.length < 1000000) : Ok (mtF S .append (.ref a) [d]) Q = Q .non (S.set a (.lst (xs ++ [d]))) := by
  simp only [mtF, lstAt_of h, Ok_ite]
  rw [if_pos (Nat.lt_of_lt_of_le hl (by decide))]; rfl
theorem m_extend {b : Nat} (h : S[a]? = some (.lst xs)) (h2 : S[b]? = some (.lst ys)) (hl : xs.length + ys.length ≤ 1000000) : Ok (mtF S .extend (.ref a) [.ref b]) Q = Q .non (S.set a (.lst (xs ++ ys))) := by
  simp only [mtF, lstAt_of h, lstAt_of h2]
  rw [Ok_lim hl]; rfl
theorem m_insert (h : S[a]? = some (.lst xs)) (hl : xs.length < 1000000) (h0 : 0 ≤ i) (h1 : i < 2 ^ 63) : Ok (mtF S .insert (.ref a) [.int i, d]) Q = Q .non (S.set a (.lst (xs.take i.toNat ++ [d] ++ xs.drop i.toNat))) := by
  simp only [mtF, lstAt_of h, Ok_ite]
  rw [if_pos ⟨Nat.lt_of_lt_of_le hl (by decide), h0, h1⟩]; rfl
theorem m_pop (h : S[a]? = some (.lst xs)) (e : xs[xs.length - 1]? = some d) : Ok (mtF S .pop (.ref a) []) Q = Q d (S.set a (.lst xs.dropLast)) := by
  simp only [mtF, lstAt_of h, e]; rfl
theorem m_popi {k : Nat} (h : S[a]? = some (.lst xs)) (e : xs[k]? = some d) (hk : k < 2 ^ 63) : Ok (mtF S .pop (.ref a) [.int (k : Int)]) Q = Q d (S.set a (.lst (xs.eraseIdx k))) := by
  have hl := (List.getElem?_eq_some_iff.mp e).1
  have hx : L2.ixN xs.length (k : Int) = some k := by
    unfold L2.ixN
    rw [if_pos (Int.natCast_nonneg k), if_pos (by omega)]; simp
  simp only [mtF, lstAt_of h]
  rw [if_pos ⟨by omega, by omega⟩, hx]
  simp only [e]; rfl
theorem m_join {x : PySem.Str} {ds : List D} {zs : List PySem.Str} (h : seqOf S d = some ds) (e : strsOf ds = some zs) (hl : (zs.map (·.length)).sum + zs.length * x.length ≤ 16777216) : Ok (mtF S .join (.str x) [d]) Q = Q (.str (PySem.Txt.join x zs)) S := by
  simp only [mtF, h, Option.bind_some, e, Ok_ite]
  rw [if_pos hl]; rfl
end
section
variable {S : Hs} {Q : Src → Hs → Prop} {a : Nat} {ds : List D} {i j : Int}
theorem ofO_some {α : Type} {x : α} {Q : α → Hs → Prop} : Ok (ofO S (some x)) Q = Q x S := nrfl
theorem src_t : srcOf S (.tup ds) = some ⟨[], ds⟩ := nrfl
theorem src_s {x : PySem.Str} : srcOf S (.str x) = some ⟨[], signs x⟩ := nrfl
theorem src_l (h : S[a]? = some (.lst ds)) : srcOf S (.ref a) = some ⟨[(a, ds)], ds⟩ := by simp only [srcOf, h]
theorem src_c (h : S[a]? = some (.scr ds)) : srcOf S (.ref a) = some ⟨[(a, ds)], ds⟩ := by simp only [srcOf, h]
theorem en_l (h : S[a]? = some (.lst ds)) : Ok (enD S [.ref a]) Q = Q ⟨[(a, ds)], numbered 0 ds⟩ S := by simp only [enD, src_l h]; rfl
theorem en_t : Ok (enD S [.tup ds]) Q = Q ⟨[], numbered 0 ds⟩ S := nrfl
theorem en_s {x : PySem.Str} : Ok (enD S [.str x]) Q = Q ⟨[], numbered 0 (signs x)⟩ S := nrfl
theorem zp_tt {xs ys : List D} : Ok (zpD false S [.tup xs, .tup ys]) Q = Q ⟨[], pairsUp xs ys⟩ S := by simp [zpD, zpD_, ofO, Ok]
theorem zp_ll {b : Nat} {xs ys : List D} (h : S[a]? = some (.lst xs)) (h2 : S[b]? = some (.lst ys)) : Ok (zpD false S [.ref a, .ref b]) Q = Q ⟨[(a, xs), (b, ys)], pairsUp xs ys⟩ S := by simp [zpD, src_l h, src_l h2, zpD_, ofO, Ok]
theorem big62_of (h0 : -1000000000000000000 ≤ i) (h1 : i ≤ 1000000000000000000) : big62 i = true := by
  unfold big62
  simp only [Bool.and_eq_true, decide_eq_true_eq]
  have e : (2 : Int) ^ 62 = 4611686018427387904 := by decide
  rw [e]
  omega
theorem rg_1 (h0 : -1000000000000000000 ≤ j) (h1 : j ≤ 1000000000000000000) : Ok (rgD S [.int j]) Q = Q ⟨[], rangeD 0 j.toNat⟩ S := by
  simp only [rgD, big62_of h0 h1, if_true]; rfl
theorem rg_2 (g0 : -1000000000000000000 ≤ i) (g1 : i ≤ 1000000000000000000) (h0 : -1000000000000000000 ≤ j) (h1 : j ≤ 1000000000000000000) : Ok (rgD S [.int i, .int j]) Q = Q ⟨[], rangeD i (j - i).toNat⟩ S := by
  simp only [rgD, big62_of h0 h1, big62_of g0 g1, Bool.and_self, if_true]; rfl
theorem rg_3 (g0 : -1000000000000000000 ≤ i) (g1 : i ≤ 1000000000000000000) (h0 : -1000000000000000000 ≤ j) (h1 : j ≤ 1000000000000000000) : Ok (rgD S [.int i, .int j, .int (-1)]) Q = Q ⟨[], rangeC i (-1) (i - j).toNat⟩ S := by
  simp only [rgD, big62_of h0 h1, big62_of g0 g1, Bool.and_self, decide_true, if_true]; rfl
theorem held_nil : held S [] = true := nrfl
theorem held_l (h : S[a]? = some (.lst ds)) : held S [(a, ds)] = true := by simp [held, heldAt, h]
theorem held_c (h : S[a]? = some (.scr ds)) : held S [(a, ds)] = true := by simp [held, heldAt, h]
theorem held_ll {b : Nat} {es : List D} (h : S[a]? = some (.lst ds)) (h2 : S[b]? = some (.lst es)) : held S [(a, ds), (b, es)] = true := by simp [held, heldAt, h, h2]
theorem lr_1 {Q : D → Hs → Prop} (h1 : j ≤ 16777216) (h0 : -1000000000000000000 ≤ j) : Ok (lrD S [.int j]) Q = Ok (newO (.lst (rangeD 0 j.toNat)) S) Q := by
  simp only [lrD]
  rw [if_pos ⟨big62_of h0 (by omega), by
    have e : (2 : Nat) ^ 24 = 16777216 := by decide
    omega⟩]
theorem rangeD_get {lo : Int} {n k : Nat} {d : D} (h : (rangeD lo n)[k]? = some d) : k < n ∧ d = .int (lo + k) := by
  unfold rangeD at h
  rw [List.getElem?_map] at h
  cases e : (List.range n)[k]? with
  | none => rw [e] at h; cases h
  | some m =>
    rw [e] at h
    obtain ⟨h1, h2⟩ := List.getElem?_eq_some_iff.mp e
    rw [List.getElem_range] at h2
    subst h2
    exact ⟨by simpa using h1, (Option.some.inj h).symm⟩
theorem rangeD_len {lo : Int} {n : Nat} : (rangeD lo n).length = n := by simp [rangeD]
end
theorem cnt_nil : cnt E.nil = 0 := by rw [cnt]; intro a b h; cases h
theorem cnt_cons {a b : E} : cnt (E.cons a b) = cnt b + 1 := by rw [cnt]
section
variable {S : Hs} {Q : D → Hs → Prop} {i j : Int}
theorem b_modP (h : 0 < j) : Ok (binD S .mod (.int i) (.int j)) Q = Q (.int (i.fmod j)) S := by rw [b_mod, if_pos (by omega)]
theorem b_fdvP (h : 0 < j) (h1 : j < 1073741824) : Ok (binD S .fdv (.int i) (.int j)) Q = Q (.int (i.fdiv j)) S := by rw [b_fdv, if_pos ⟨by omega, by omega⟩]
end
end RS

namespace RS
open HT
/-! ### the pen: the defs that every law has -/
def B_law_open : C :=
  (.cons (.asg (.var 1) (.bi .list (.cons (.sl (.var 0) .nil (.cons (.int 12) .nil)) .nil)))
  (.cons (.for_ (.tup (.cons (.var 2) (.cons (.var 3) .nil))) (.enm (.cons (.sl (.var 0) (.cons (.int 12) .nil) (.cons (.int 63) .nil)) .nil))
      (.cons (.asg (.ix (.var 1) (.bin .mod (.bi .int (.cons (.var 2) .nil)) (.int 12))) (.bin .add (.ix (.var 1) (.bin .mod (.bi .int (.cons (.var 2) .nil)) (.int 12))) (.var 3)))
      .nil))
  (.cons (.ret (.lst (.cons (.var 1) (.cons (.int 0) (.cons (.int 0) .nil)))))
  .nil)))

def B_law_spread : C :=
  (.cons (.ife (.cmp .ge (.var 0) (.bin .pow (.int 10) (.int 18)))
      (.cons (.ret (.var 0))
      .nil)
      .nil)
  (.cons (.asg (.var 2) (.lst (.cons (.int 2147483629) (.cons (.int 2147483587) (.cons (.int 2147483579) (.cons (.int 2147483563) (.cons (.int 2147483549) (.cons (.int 2147483543) (.cons (.int 2147483497) (.cons (.int 2147483489) .nil))))))))))
  (.cons (.asg (.var 2) (.bin .add (.var 2) (.lst (.cons (.int 2147483477) (.cons (.int 2147483423) (.cons (.int 2147483399) (.cons (.int 2147483353) (.cons (.int 2147483323) .nil))))))))
  (.cons (.asg (.var 3) (.bin .add (.bin .add (.bin .mul (.bin .mod (.bi .int (.cons (.var 0) .nil)) (.int 1000000007)) (.bin .add (.bin .mul (.int 2) (.var 1)) (.int 69069))) (.bin .mul (.var 1) (.int 40503))) (.int 977)))
  (.cons (.asg (.var 3) (.bin .mod (.bi .int (.cons (.bin .pow (.var 3) (.int 3)) .nil)) (.ix (.var 2) (.bin .mod (.bi .int (.cons (.var 1) .nil)) (.int 13)))))
  (.cons (.asg (.var 4) (.bin .mod (.bi .int (.cons (.bin .pow (.bin .add (.bin .add (.bin .mul (.var 3) (.bin .add (.var 1) (.int 3))) (.bin .mod (.bi .int (.cons (.var 0) .nil)) (.int 65537))) (.int 5)) (.int 5)) .nil)) (.ix (.var 2) (.bin .mod (.bi .int (.cons (.bin .add (.var 1) (.int 5)) .nil)) (.int 13)))))
  (.cons (.asg (.var 5) (.bin .mod (.bi .int (.cons (.bin .pow (.bin .add (.bin .add (.var 4) (.bin .mod (.bi .int (.cons (.var 3) .nil)) (.int 1009))) (.var 1)) (.int 3)) .nil)) (.ix (.var 2) (.bin .mod (.bi .int (.cons (.bin .add (.var 1) (.int 7)) .nil)) (.int 13)))))
  (.cons (.ret (.bin .add (.bin .mul (.bin .add (.bin .mul (.var 3) (.int 2147483647)) (.var 4)) (.int 2147483647)) (.var 5)))
  .nil))))))))

def B_law_take (c_law_spread : Nat) : C :=
  (.cons (.ife (.cmp .lt (.ix (.var 0) (.int 2)) (.var 1))
      (.cons (.asg (.var 3) (.ix (.var 0) (.int 1)))
      (.cons (.asg (.var 4) (.int 0))
      (.cons (.ife (.cmp .lt (.var 3) (.bi .len (.cons (.ix (.var 0) (.int 0)) .nil)))
          (.cons (.asg (.var 4) (.ix (.ix (.var 0) (.int 0)) (.var 3)))
          .nil)
          (.cons (.ife (.cmp .gt (.bi .len (.cons (.ix (.var 0) (.int 0)) .nil)) (.int 0))
              (.cons (.asg (.var 4) (.bin .mod (.bi .int (.cons (.ix (.ix (.var 0) (.int 0)) (.bin .mod (.bi .int (.cons (.bin .add (.bin .mul (.var 3) (.int 5)) (.int 3)) .nil)) (.bi .len (.cons (.ix (.var 0) (.int 0)) .nil)))) .nil)) (.bin .add (.bin .pow (.int 10) (.int 17)) (.var 3))))
              .nil)
              .nil)
          .nil))
      (.cons (.asg (.ix (.var 0) (.int 1)) (.bin .add (.var 3) (.int 1)))
      (.cons (.asg (.ix (.var 0) (.int 2)) (.cal c_law_spread (.cons (.var 4) (.cons (.var 3) .nil))))
      .nil)))))
      .nil)
  (.cons (.asg (.var 2) (.bin .mod (.bi .int (.cons (.ix (.var 0) (.int 2)) .nil)) (.var 1)))
  (.cons (.asg (.ix (.var 0) (.int 2)) (.bin .fdv (.ix (.var 0) (.int 2)) (.var 1)))
  (.cons (.ret (.var 2))
  .nil))))

def B_law_one_of (c_law_take : Nat) : C :=
  (.cons (.ret (.ix (.var 1) (.cal c_law_take (.cons (.var 0) (.cons (.bi .len (.cons (.var 1) .nil)) .nil)))))
  .nil)

def B_law_letters : C :=
  (.cons (.ret (.str "abcdefghijklmnopqrstuvwxyz"))
  .nil)

theorem atI_nat {ds : List D} {k : Nat} {d : D} (h : ds[k]? = some d) : L2.atI ds (k : Int) = some d := by
  have hl := (List.getElem?_eq_some_iff.mp h).1
  unfold L2.atI L2.ixN
  rw [if_pos (Int.natCast_nonneg k), if_pos (by omega)]
  simpa using h
theorem atI_int {ds : List D} {i : Int} (h0 : 0 ≤ i) (h1 : i < ds.length) : ∃ d, L2.atI ds i = some d ∧ d ∈ ds := by
  obtain ⟨k, rfl⟩ := Int.eq_ofNat_of_zero_le h0
  have hk : k < ds.length := by omega
  exact ⟨ds[k], atI_nat (List.getElem?_eq_getElem hk), List.getElem_mem _⟩
theorem fmod_pos {i j : Int} (h : 0 < j) : 0 ≤ i.fmod j ∧ i.fmod j < j := ⟨Int.fmod_nonneg_of_pos i h, Int.fmod_lt_of_pos i h⟩
def primes : List D := [2147483629, 2147483587, 2147483579, 2147483563, 2147483549, 2147483543, 2147483497, 2147483489, 2147483477, 2147483423, 2147483399, 2147483353, 2147483323].map D.int
theorem primes_at (i : Int) : ∃ z : Int, L2.atI primes (i.fmod 13) = some (.int z) ∧ 0 < z ∧ z < 2147483648 := by
  obtain ⟨d, h1, h2⟩ := atI_int (ds := primes) (i := i.fmod 13) (fmod_pos (by decide)).1 (fmod_pos (by decide)).2
  unfold primes at h2
  obtain ⟨z, hz, rfl⟩ := List.mem_map.mp h2
  exact ⟨z, h1, (show ∀ z ∈ ([2147483629, 2147483587, 2147483579, 2147483563, 2147483549, 2147483543, 2147483497, 2147483489, 2147483477, 2147483423, 2147483399, 2147483353, 2147483323] : List Int), 0 < z ∧ z < 2147483648 by decide) z hz⟩
theorem natAbs_lt {i : Int} {n : Nat} (h0 : 0 ≤ i) (h : i < n) : i.natAbs < n := by omega
theorem mulOk_r {i j : Int} (h0 : 0 ≤ j) (h : j < 18446744073709551616) : mulOk i j = true := by
  unfold mulOk
  have e : (18446744073709551616 : Int) = 2 ^ 64 := by decide
  rw [e] at h
  simp only [Bool.or_eq_true, Bool.and_eq_true, decide_eq_true_eq]
  exact .inr ⟨by omega, h⟩
theorem mulOk_l {i j : Int} (h0 : 0 ≤ i) (h : i < 18446744073709551616) : mulOk i j = true := by
  unfold mulOk
  have e : (18446744073709551616 : Int) = 2 ^ 64 := by decide
  rw [e] at h
  simp only [Bool.or_eq_true, Bool.and_eq_true, decide_eq_true_eq]
  exact .inl ⟨by omega, h⟩
theorem mul_bound {a b m n : Int} (a0 : 0 ≤ a) (b0 : 0 ≤ b) (ha : a ≤ m) (hb : b ≤ n) : 0 ≤ a * b ∧ a * b ≤ m * n := ⟨Int.mul_nonneg a0 b0, Int.mul_le_mul ha hb b0 (by omega)⟩
theorem spread_ok {Φ : Nat → List D → Hs → R D} {G : Nat → D} {W : Nat} {cell at_ : Int} {S : Hs} {Q : D → Hs → Prop} (h0 : 0 ≤ at_) (h1 : at_ ≤ 1048576) (q : ∀ z S', Fr [] S S' → Q (.int z) S') :
    Ok (exec Φ G W B_law_spread [some (.int cell), some (.int at_), none, none, none, none] S) (rtQ Q) := by
  unfold B_law_spread
  refine x_step fun K hK => ?_
  simp only [Ok_ok, Ok_bind, x_nil, x_one, x_asg, x_exp, x_ret, x_retN, x_pas, x_brk, x_cnt, x_ife, nxQ_nx, nxQ_rt, nxQ_bk, nxQ_ct, rtQ_nx, rtQ_rt, d_var', gv_some, d_non, d_bl, d_int, d_str, d_glb, d_tup, d_lst, d_bin, d_cmp, d_neg, d_nt, d_isN, d_nsN, d_chn, d_and, d_or, d_ife, d_cal, d_bi, d_isi, d_mth, d_ix, d_sl, d_rvs, d_lrg, d_lc, l_nil, l_cons, o_nil, o_cons, oiD, negD, notD, i_rng, i_enm, i_zip, i_cons, g_var, g_tup, g_ix, gs_nil, gs_cons, b_add, b_sub, b_mul, b_modP, b_fdvP, b_pow, b_adds, b_addt, b_addl, b_mull, addL_eq, c_lt, c_le, c_gt, c_ge, c_eq, c_ne, eqO_f, eqO_t, eq_ii, eq_ss, bi_len, lenD_some, len_t, len_r, seqO_l, seqO_s, bi_int, bi_intb, bi_maxii, bi_minii, ofS_some, bi_listr, bi_listt, bi_tupr, bi_tupt, ixO_some, ix_t, ix_r, at_0, at_1, at_2, at_3, sl_t, sl_r, rv_r, set_r, Ok_lim, decide_eq_true_eq, Ok_tstN, Ok_tstP, Ok_tst, tst_t, tst_f, List.getElem?_cons_zero, List.getElem?_cons_succ, List.set_cons_zero, List.set_cons_succ, List.map_cons, List.map_nil, List.length_cons, List.length_nil, List.replicate_succ, List.replicate_zero, List.cons_append, List.nil_append, isN, cnt_nil, cnt_cons, Bool.not_true, Bool.not_false, if_true, if_false, Option.map_some, Nat.reduceAdd, Nat.reduceSub, Nat.reduceLT, Nat.reduceLeDiff, Int.reduceLT, Bool.false_eq_true]
  rw [if_pos (by decide)]
  split
  · exact q _ _ .refl
  refine hK _ _ (x_step fun K hK => ?_)
  simp only [Ok_ok, Ok_bind, x_nil, x_one, x_asg, x_exp, x_ret, x_retN, x_pas, x_brk, x_cnt, x_ife, nxQ_nx, nxQ_rt, nxQ_bk, nxQ_ct, rtQ_nx, rtQ_rt, d_var', gv_some, d_non, d_bl, d_int, d_str, d_glb, d_tup, d_lst, d_bin, d_cmp, d_neg, d_nt, d_isN, d_nsN, d_chn, d_and, d_or, d_ife, d_cal, d_bi, d_isi, d_mth, d_ix, d_sl, d_rvs, d_lrg, d_lc, l_nil, l_cons, o_nil, o_cons, oiD, negD, notD, i_rng, i_enm, i_zip, i_cons, g_var, g_tup, g_ix, gs_nil, gs_cons, b_add, b_sub, b_mul, b_modP, b_fdvP, b_pow, b_adds, b_addt, b_addl, b_mull, addL_eq, c_lt, c_le, c_gt, c_ge, c_eq, c_ne, eqO_f, eqO_t, eq_ii, eq_ss, bi_len, lenD_some, len_t, len_r, seqO_l, seqO_s, bi_int, bi_intb, bi_maxii, bi_minii, ofS_some, bi_listr, bi_listt, bi_tupr, bi_tupt, ixO_some, ix_t, ix_r, at_0, at_1, at_2, at_3, sl_t, sl_r, rv_r, set_r, Ok_lim, decide_eq_true_eq, Ok_tstN, Ok_tstP, Ok_tst, tst_t, tst_f, List.getElem?_cons_zero, List.getElem?_cons_succ, List.set_cons_zero, List.set_cons_succ, List.map_cons, List.map_nil, List.length_cons, List.length_nil, List.replicate_succ, List.replicate_zero, List.cons_append, List.nil_append, isN, cnt_nil, cnt_cons, Bool.not_true, Bool.not_false, if_true, if_false, Option.map_some, Nat.reduceAdd, Nat.reduceSub, Nat.reduceLT, Nat.reduceLeDiff, Int.reduceLT, Bool.false_eq_true]
  refine Ok_newA fun a S1 ha e el f1 => ?_
  refine hK _ _ (x_step fun K hK => ?_)
  simp only [Ok_ok, Ok_bind, x_nil, x_one, x_asg, x_exp, x_ret, x_retN, x_pas, x_brk, x_cnt, x_ife, nxQ_nx, nxQ_rt, nxQ_bk, nxQ_ct, rtQ_nx, rtQ_rt, d_var', gv_some, d_non, d_bl, d_int, d_str, d_glb, d_tup, d_lst, d_bin, d_cmp, d_neg, d_nt, d_isN, d_nsN, d_chn, d_and, d_or, d_ife, d_cal, d_bi, d_isi, d_mth, d_ix, d_sl, d_rvs, d_lrg, d_lc, l_nil, l_cons, o_nil, o_cons, oiD, negD, notD, i_rng, i_enm, i_zip, i_cons, g_var, g_tup, g_ix, gs_nil, gs_cons, b_add, b_sub, b_mul, b_modP, b_fdvP, b_pow, b_adds, b_addt, b_addl, b_mull, addL_eq, c_lt, c_le, c_gt, c_ge, c_eq, c_ne, eqO_f, eqO_t, eq_ii, eq_ss, bi_len, lenD_some, len_t, len_r, seqO_l, seqO_s, bi_int, bi_intb, bi_maxii, bi_minii, ofS_some, bi_listr, bi_listt, bi_tupr, bi_tupt, ixO_some, ix_t, ix_r, at_0, at_1, at_2, at_3, sl_t, sl_r, rv_r, set_r, Ok_lim, decide_eq_true_eq, Ok_tstN, Ok_tstP, Ok_tst, tst_t, tst_f, List.getElem?_cons_zero, List.getElem?_cons_succ, List.set_cons_zero, List.set_cons_succ, List.map_cons, List.map_nil, List.length_cons, List.length_nil, List.replicate_succ, List.replicate_zero, List.cons_append, List.nil_append, isN, cnt_nil, cnt_cons, Bool.not_true, Bool.not_false, if_true, if_false, Option.map_some, Nat.reduceAdd, Nat.reduceSub, Nat.reduceLT, Nat.reduceLeDiff, Int.reduceLT, Bool.false_eq_true]
  refine Ok_newA fun b S2 hb eb elb f2 => ?_
  simp only [Ok_ok, Ok_bind, x_nil, x_one, x_asg, x_exp, x_ret, x_retN, x_pas, x_brk, x_cnt, x_ife, nxQ_nx, nxQ_rt, nxQ_bk, nxQ_ct, rtQ_nx, rtQ_rt, d_var', gv_some, d_non, d_bl, d_int, d_str, d_glb, d_tup, d_lst, d_bin, d_cmp, d_neg, d_nt, d_isN, d_nsN, d_chn, d_and, d_or, d_ife, d_cal, d_bi, d_isi, d_mth, d_ix, d_sl, d_rvs, d_lrg, d_lc, l_nil, l_cons, o_nil, o_cons, oiD, negD, notD, i_rng, i_enm, i_zip, i_cons, g_var, g_tup, g_ix, gs_nil, gs_cons, b_add, b_sub, b_mul, b_modP, b_fdvP, b_pow, b_adds, b_addt, b_addl, b_mull, addL_eq, c_lt, c_le, c_gt, c_ge, c_eq, c_ne, eqO_f, eqO_t, eq_ii, eq_ss, bi_len, lenD_some, len_t, len_r, seqO_l, seqO_s, bi_int, bi_intb, bi_maxii, bi_minii, ofS_some, bi_listr, bi_listt, bi_tupr, bi_tupt, ixO_some, ix_t, ix_r, at_0, at_1, at_2, at_3, sl_t, sl_r, rv_r, set_r, Ok_lim, decide_eq_true_eq, Ok_tstN, Ok_tstP, Ok_tst, tst_t, tst_f, List.getElem?_cons_zero, List.getElem?_cons_succ, List.set_cons_zero, List.set_cons_succ, List.map_cons, List.map_nil, List.length_cons, List.length_nil, List.replicate_succ, List.replicate_zero, List.cons_append, List.nil_append, isN, cnt_nil, cnt_cons, Bool.not_true, Bool.not_false, if_true, if_false, Option.map_some, Nat.reduceAdd, Nat.reduceSub, Nat.reduceLT, Nat.reduceLeDiff, Int.reduceLT, Bool.false_eq_true, f2.get0 ha, hb]
  refine Ok_newA fun c S3 hc ec elc f3 => ?_
  have hp : S3[c]? = some (.lst primes) := hc
  have F : Fr [] S S3 := (f1.trans f2).trans f3
  clear ha hb hc f1 f2 f3 e eb ec el elb elc
  refine hK _ _ (x_step fun K hK => ?_)
  simp only [Ok_ok, Ok_bind, x_nil, x_one, x_asg, x_exp, x_ret, x_retN, x_pas, x_brk, x_cnt, x_ife, nxQ_nx, nxQ_rt, nxQ_bk, nxQ_ct, rtQ_nx, rtQ_rt, d_var', gv_some, d_non, d_bl, d_int, d_str, d_glb, d_tup, d_lst, d_bin, d_cmp, d_neg, d_nt, d_isN, d_nsN, d_chn, d_and, d_or, d_ife, d_cal, d_bi, d_isi, d_mth, d_ix, d_sl, d_rvs, d_lrg, d_lc, l_nil, l_cons, o_nil, o_cons, oiD, negD, notD, i_rng, i_enm, i_zip, i_cons, g_var, g_tup, g_ix, gs_nil, gs_cons, b_add, b_sub, b_mul, b_modP, b_fdvP, b_pow, b_adds, b_addt, b_addl, b_mull, addL_eq, c_lt, c_le, c_gt, c_ge, c_eq, c_ne, eqO_f, eqO_t, eq_ii, eq_ss, bi_len, lenD_some, len_t, len_r, seqO_l, seqO_s, bi_int, bi_intb, bi_maxii, bi_minii, ofS_some, bi_listr, bi_listt, bi_tupr, bi_tupt, ixO_some, ix_t, ix_r, at_0, at_1, at_2, at_3, sl_t, sl_r, rv_r, set_r, Ok_lim, decide_eq_true_eq, Ok_tstN, Ok_tstP, Ok_tst, tst_t, tst_f, List.getElem?_cons_zero, List.getElem?_cons_succ, List.set_cons_zero, List.set_cons_succ, List.map_cons, List.map_nil, List.length_cons, List.length_nil, List.replicate_succ, List.replicate_zero, List.cons_append, List.nil_append, isN, cnt_nil, cnt_cons, Bool.not_true, Bool.not_false, if_true, if_false, Option.map_some, Nat.reduceAdd, Nat.reduceSub, Nat.reduceLT, Nat.reduceLeDiff, Int.reduceLT, Bool.false_eq_true]
  obtain ⟨x0, x1⟩ := fmod_pos (i := cell) (j := 1000000007) (by decide)
  obtain ⟨y0, y1⟩ := mul_bound x0 (show 0 ≤ 2 * at_ + 69069 by omega) (show cell.fmod 1000000007 ≤ 1000000007 by omega) (show 2 * at_ + 69069 ≤ 3000000 by omega)
  rw [if_pos (mulOk_l (by decide) (by decide)), if_pos (mulOk_r (by omega) (by omega)), if_pos (mulOk_r (by decide) (by decide))]
  refine hK _ _ (x_step fun K hK => ?_)
  simp only [Ok_ok, Ok_bind, x_nil, x_one, x_asg, x_exp, x_ret, x_retN, x_pas, x_brk, x_cnt, x_ife, nxQ_nx, nxQ_rt, nxQ_bk, nxQ_ct, rtQ_nx, rtQ_rt, d_var', gv_some, d_non, d_bl, d_int, d_str, d_glb, d_tup, d_lst, d_bin, d_cmp, d_neg, d_nt, d_isN, d_nsN, d_chn, d_and, d_or, d_ife, d_cal, d_bi, d_isi, d_mth, d_ix, d_sl, d_rvs, d_lrg, d_lc, l_nil, l_cons, o_nil, o_cons, oiD, negD, notD, i_rng, i_enm, i_zip, i_cons, g_var, g_tup, g_ix, gs_nil, gs_cons, b_add, b_sub, b_mul, b_modP, b_fdvP, b_pow, b_adds, b_addt, b_addl, b_mull, addL_eq, c_lt, c_le, c_gt, c_ge, c_eq, c_ne, eqO_f, eqO_t, eq_ii, eq_ss, bi_len, lenD_some, len_t, len_r, seqO_l, seqO_s, bi_int, bi_intb, bi_maxii, bi_minii, ofS_some, bi_listr, bi_listt, bi_tupr, bi_tupt, ixO_some, ix_t, ix_r, at_0, at_1, at_2, at_3, sl_t, sl_r, rv_r, set_r, Ok_lim, decide_eq_true_eq, Ok_tstN, Ok_tstP, Ok_tst, tst_t, tst_f, List.getElem?_cons_zero, List.getElem?_cons_succ, List.set_cons_zero, List.set_cons_succ, List.map_cons, List.map_nil, List.length_cons, List.length_nil, List.replicate_succ, List.replicate_zero, List.cons_append, List.nil_append, isN, cnt_nil, cnt_cons, Bool.not_true, Bool.not_false, if_true, if_false, Option.map_some, Nat.reduceAdd, Nat.reduceSub, Nat.reduceLT, Nat.reduceLeDiff, Int.reduceLT, Bool.false_eq_true]
  obtain ⟨p1, hp1, p10, p11⟩ := primes_at at_
  rw [if_pos ⟨by decide, by decide, by omega⟩]
  simp only [Ok_ok, Ok_bind, x_nil, x_one, x_asg, x_exp, x_ret, x_retN, x_pas, x_brk, x_cnt, x_ife, nxQ_nx, nxQ_rt, nxQ_bk, nxQ_ct, rtQ_nx, rtQ_rt, d_var', gv_some, d_non, d_bl, d_int, d_str, d_glb, d_tup, d_lst, d_bin, d_cmp, d_neg, d_nt, d_isN, d_nsN, d_chn, d_and, d_or, d_ife, d_cal, d_bi, d_isi, d_mth, d_ix, d_sl, d_rvs, d_lrg, d_lc, l_nil, l_cons, o_nil, o_cons, oiD, negD, notD, i_rng, i_enm, i_zip, i_cons, g_var, g_tup, g_ix, gs_nil, gs_cons, b_add, b_sub, b_mul, b_modP, b_fdvP, b_pow, b_adds, b_addt, b_addl, b_mull, addL_eq, c_lt, c_le, c_gt, c_ge, c_eq, c_ne, eqO_f, eqO_t, eq_ii, eq_ss, bi_len, lenD_some, len_t, len_r, seqO_l, seqO_s, bi_int, bi_intb, bi_maxii, bi_minii, ofS_some, bi_listr, bi_listt, bi_tupr, bi_tupt, ixO_some, ix_t, ix_r, at_0, at_1, at_2, at_3, sl_t, sl_r, rv_r, set_r, Ok_lim, decide_eq_true_eq, Ok_tstN, Ok_tstP, Ok_tst, tst_t, tst_f, List.getElem?_cons_zero, List.getElem?_cons_succ, List.set_cons_zero, List.set_cons_succ, List.map_cons, List.map_nil, List.length_cons, List.length_nil, List.replicate_succ, List.replicate_zero, List.cons_append, List.nil_append, isN, cnt_nil, cnt_cons, Bool.not_true, Bool.not_false, if_true, if_false, Option.map_some, Nat.reduceAdd, Nat.reduceSub, Nat.reduceLT, Nat.reduceLeDiff, Int.reduceLT, Bool.false_eq_true, hp, hp1, p10]
  generalize hu : Int.fmod _ p1 = u
  have u0 : 0 ≤ u ∧ u < p1 := by rw [← hu]; exact fmod_pos p10
  refine hK _ _ (x_step fun K hK => ?_)
  simp only [Ok_ok, Ok_bind, x_nil, x_one, x_asg, x_exp, x_ret, x_retN, x_pas, x_brk, x_cnt, x_ife, nxQ_nx, nxQ_rt, nxQ_bk, nxQ_ct, rtQ_nx, rtQ_rt, d_var', gv_some, d_non, d_bl, d_int, d_str, d_glb, d_tup, d_lst, d_bin, d_cmp, d_neg, d_nt, d_isN, d_nsN, d_chn, d_and, d_or, d_ife, d_cal, d_bi, d_isi, d_mth, d_ix, d_sl, d_rvs, d_lrg, d_lc, l_nil, l_cons, o_nil, o_cons, oiD, negD, notD, i_rng, i_enm, i_zip, i_cons, g_var, g_tup, g_ix, gs_nil, gs_cons, b_add, b_sub, b_mul, b_modP, b_fdvP, b_pow, b_adds, b_addt, b_addl, b_mull, addL_eq, c_lt, c_le, c_gt, c_ge, c_eq, c_ne, eqO_f, eqO_t, eq_ii, eq_ss, bi_len, lenD_some, len_t, len_r, seqO_l, seqO_s, bi_int, bi_intb, bi_maxii, bi_minii, ofS_some, bi_listr, bi_listt, bi_tupr, bi_tupt, ixO_some, ix_t, ix_r, at_0, at_1, at_2, at_3, sl_t, sl_r, rv_r, set_r, Ok_lim, decide_eq_true_eq, Ok_tstN, Ok_tstP, Ok_tst, tst_t, tst_f, List.getElem?_cons_zero, List.getElem?_cons_succ, List.set_cons_zero, List.set_cons_succ, List.map_cons, List.map_nil, List.length_cons, List.length_nil, List.replicate_succ, List.replicate_zero, List.cons_append, List.nil_append, isN, cnt_nil, cnt_cons, Bool.not_true, Bool.not_false, if_true, if_false, Option.map_some, Nat.reduceAdd, Nat.reduceSub, Nat.reduceLT, Nat.reduceLeDiff, Int.reduceLT, Bool.false_eq_true]
  obtain ⟨p2, hp2, p20, p21⟩ := primes_at (at_ + 5)
  obtain ⟨x2, x3⟩ := fmod_pos (i := cell) (j := 65537) (by decide)
  obtain ⟨y2, y3⟩ := mul_bound u0.1 (show 0 ≤ at_ + 3 by omega) (show u ≤ 2147483648 by omega) (show at_ + 3 ≤ 3000000 by omega)
  rw [if_pos (mulOk_r (by omega) (by omega)), if_pos ⟨by decide, by decide, by omega⟩]
  simp only [Ok_ok, Ok_bind, x_nil, x_one, x_asg, x_exp, x_ret, x_retN, x_pas, x_brk, x_cnt, x_ife, nxQ_nx, nxQ_rt, nxQ_bk, nxQ_ct, rtQ_nx, rtQ_rt, d_var', gv_some, d_non, d_bl, d_int, d_str, d_glb, d_tup, d_lst, d_bin, d_cmp, d_neg, d_nt, d_isN, d_nsN, d_chn, d_and, d_or, d_ife, d_cal, d_bi, d_isi, d_mth, d_ix, d_sl, d_rvs, d_lrg, d_lc, l_nil, l_cons, o_nil, o_cons, oiD, negD, notD, i_rng, i_enm, i_zip, i_cons, g_var, g_tup, g_ix, gs_nil, gs_cons, b_add, b_sub, b_mul, b_modP, b_fdvP, b_pow, b_adds, b_addt, b_addl, b_mull, addL_eq, c_lt, c_le, c_gt, c_ge, c_eq, c_ne, eqO_f, eqO_t, eq_ii, eq_ss, bi_len, lenD_some, len_t, len_r, seqO_l, seqO_s, bi_int, bi_intb, bi_maxii, bi_minii, ofS_some, bi_listr, bi_listt, bi_tupr, bi_tupt, ixO_some, ix_t, ix_r, at_0, at_1, at_2, at_3, sl_t, sl_r, rv_r, set_r, Ok_lim, decide_eq_true_eq, Ok_tstN, Ok_tstP, Ok_tst, tst_t, tst_f, List.getElem?_cons_zero, List.getElem?_cons_succ, List.set_cons_zero, List.set_cons_succ, List.map_cons, List.map_nil, List.length_cons, List.length_nil, List.replicate_succ, List.replicate_zero, List.cons_append, List.nil_append, isN, cnt_nil, cnt_cons, Bool.not_true, Bool.not_false, if_true, if_false, Option.map_some, Nat.reduceAdd, Nat.reduceSub, Nat.reduceLT, Nat.reduceLeDiff, Int.reduceLT, Bool.false_eq_true, hp, hp2, p20]
  generalize hv : Int.fmod _ p2 = v
  have v0 : 0 ≤ v ∧ v < p2 := by rw [← hv]; exact fmod_pos p20
  refine hK _ _ (x_step fun K hK => ?_)
  simp only [Ok_ok, Ok_bind, x_nil, x_one, x_asg, x_exp, x_ret, x_retN, x_pas, x_brk, x_cnt, x_ife, nxQ_nx, nxQ_rt, nxQ_bk, nxQ_ct, rtQ_nx, rtQ_rt, d_var', gv_some, d_non, d_bl, d_int, d_str, d_glb, d_tup, d_lst, d_bin, d_cmp, d_neg, d_nt, d_isN, d_nsN, d_chn, d_and, d_or, d_ife, d_cal, d_bi, d_isi, d_mth, d_ix, d_sl, d_rvs, d_lrg, d_lc, l_nil, l_cons, o_nil, o_cons, oiD, negD, notD, i_rng, i_enm, i_zip, i_cons, g_var, g_tup, g_ix, gs_nil, gs_cons, b_add, b_sub, b_mul, b_modP, b_fdvP, b_pow, b_adds, b_addt, b_addl, b_mull, addL_eq, c_lt, c_le, c_gt, c_ge, c_eq, c_ne, eqO_f, eqO_t, eq_ii, eq_ss, bi_len, lenD_some, len_t, len_r, seqO_l, seqO_s, bi_int, bi_intb, bi_maxii, bi_minii, ofS_some, bi_listr, bi_listt, bi_tupr, bi_tupt, ixO_some, ix_t, ix_r, at_0, at_1, at_2, at_3, sl_t, sl_r, rv_r, set_r, Ok_lim, decide_eq_true_eq, Ok_tstN, Ok_tstP, Ok_tst, tst_t, tst_f, List.getElem?_cons_zero, List.getElem?_cons_succ, List.set_cons_zero, List.set_cons_succ, List.map_cons, List.map_nil, List.length_cons, List.length_nil, List.replicate_succ, List.replicate_zero, List.cons_append, List.nil_append, isN, cnt_nil, cnt_cons, Bool.not_true, Bool.not_false, if_true, if_false, Option.map_some, Nat.reduceAdd, Nat.reduceSub, Nat.reduceLT, Nat.reduceLeDiff, Int.reduceLT, Bool.false_eq_true]
  obtain ⟨p3, hp3, p30, p31⟩ := primes_at (at_ + 7)
  obtain ⟨x4, x5⟩ := fmod_pos (i := u) (j := 1009) (by decide)
  rw [if_pos ⟨by decide, by decide, by omega⟩]
  simp only [Ok_ok, Ok_bind, x_nil, x_one, x_asg, x_exp, x_ret, x_retN, x_pas, x_brk, x_cnt, x_ife, nxQ_nx, nxQ_rt, nxQ_bk, nxQ_ct, rtQ_nx, rtQ_rt, d_var', gv_some, d_non, d_bl, d_int, d_str, d_glb, d_tup, d_lst, d_bin, d_cmp, d_neg, d_nt, d_isN, d_nsN, d_chn, d_and, d_or, d_ife, d_cal, d_bi, d_isi, d_mth, d_ix, d_sl, d_rvs, d_lrg, d_lc, l_nil, l_cons, o_nil, o_cons, oiD, negD, notD, i_rng, i_enm, i_zip, i_cons, g_var, g_tup, g_ix, gs_nil, gs_cons, b_add, b_sub, b_mul, b_modP, b_fdvP, b_pow, b_adds, b_addt, b_addl, b_mull, addL_eq, c_lt, c_le, c_gt, c_ge, c_eq, c_ne, eqO_f, eqO_t, eq_ii, eq_ss, bi_len, lenD_some, len_t, len_r, seqO_l, seqO_s, bi_int, bi_intb, bi_maxii, bi_minii, ofS_some, bi_listr, bi_listt, bi_tupr, bi_tupt, ixO_some, ix_t, ix_r, at_0, at_1, at_2, at_3, sl_t, sl_r, rv_r, set_r, Ok_lim, decide_eq_true_eq, Ok_tstN, Ok_tstP, Ok_tst, tst_t, tst_f, List.getElem?_cons_zero, List.getElem?_cons_succ, List.set_cons_zero, List.set_cons_succ, List.map_cons, List.map_nil, List.length_cons, List.length_nil, List.replicate_succ, List.replicate_zero, List.cons_append, List.nil_append, isN, cnt_nil, cnt_cons, Bool.not_true, Bool.not_false, if_true, if_false, Option.map_some, Nat.reduceAdd, Nat.reduceSub, Nat.reduceLT, Nat.reduceLeDiff, Int.reduceLT, Bool.false_eq_true, hp, hp3, p30]
  refine hK _ _ ?_
  simp only [Ok_ok, Ok_bind, x_nil, x_one, x_asg, x_exp, x_ret, x_retN, x_pas, x_brk, x_cnt, x_ife, nxQ_nx, nxQ_rt, nxQ_bk, nxQ_ct, rtQ_nx, rtQ_rt, d_var', gv_some, d_non, d_bl, d_int, d_str, d_glb, d_tup, d_lst, d_bin, d_cmp, d_neg, d_nt, d_isN, d_nsN, d_chn, d_and, d_or, d_ife, d_cal, d_bi, d_isi, d_mth, d_ix, d_sl, d_rvs, d_lrg, d_lc, l_nil, l_cons, o_nil, o_cons, oiD, negD, notD, i_rng, i_enm, i_zip, i_cons, g_var, g_tup, g_ix, gs_nil, gs_cons, b_add, b_sub, b_mul, b_modP, b_fdvP, b_pow, b_adds, b_addt, b_addl, b_mull, addL_eq, c_lt, c_le, c_gt, c_ge, c_eq, c_ne, eqO_f, eqO_t, eq_ii, eq_ss, bi_len, lenD_some, len_t, len_r, seqO_l, seqO_s, bi_int, bi_intb, bi_maxii, bi_minii, ofS_some, bi_listr, bi_listt, bi_tupr, bi_tupt, ixO_some, ix_t, ix_r, at_0, at_1, at_2, at_3, sl_t, sl_r, rv_r, set_r, Ok_lim, decide_eq_true_eq, Ok_tstN, Ok_tstP, Ok_tst, tst_t, tst_f, List.getElem?_cons_zero, List.getElem?_cons_succ, List.set_cons_zero, List.set_cons_succ, List.map_cons, List.map_nil, List.length_cons, List.length_nil, List.replicate_succ, List.replicate_zero, List.cons_append, List.nil_append, isN, cnt_nil, cnt_cons, Bool.not_true, Bool.not_false, if_true, if_false, Option.map_some, Nat.reduceAdd, Nat.reduceSub, Nat.reduceLT, Nat.reduceLeDiff, Int.reduceLT, Bool.false_eq_true]
  rw [if_pos (mulOk_r (by decide) (by decide)), if_pos (mulOk_r (by decide) (by decide))]
  exact q _ _ F
/-- the pen at p: its cells, where it stands, at most k turns so far -/
def Pen (S : Hs) (p : Nat) (k : Nat) : Prop := ∃ (c : Nat) (cells : List Int) (at_ val : Int), c < p ∧ S[p]? = some (.lst [.ref c, .int at_, .int val]) ∧ S[c]? = some (.lst (cells.map D.int)) ∧ 0 ≤ at_ ∧ at_ ≤ k ∧ cells.length ≤ 63
theorem Pen.mono {S : Hs} {p k k' : Nat} (h : Pen S p k) (hk : k ≤ k') : Pen S p k' := by
  obtain ⟨c, cells, at_, val, h1, h2, h3, h4, h5, h6⟩ := h
  exact ⟨c, cells, at_, val, h1, h2, h3, h4, by omega, h6⟩
/-- what the defs of the pen promise, of the defs by their numbers -/
def SpreadOk (Φ : Nat → List D → Hs → R D) (i : Nat) : Prop := ∀ (cell at_ : Int) (S : Hs) (Q : D → Hs → Prop), 0 ≤ at_ → at_ ≤ 1048576 → (∀ z S', Fr [] S S' → Q (.int z) S') → Ok (Φ i [.int cell, .int at_] S) Q
def TakeOk (Φ : Nat → List D → Hs → R D) (i : Nat) : Prop := ∀ (p k : Nat) (m : Int) (S : Hs) (Q : D → Hs → Prop), Pen S p k → k ≤ 1048576 → 0 < m → m < 1073741824 → (∀ z S', 0 ≤ z → z < m → Pen S' p (k + 1) → Fr [p] S S' → Q (.int z) S') → Ok (Φ i [.ref p, .int m] S) Q
theorem set3_1 {S : Hs} {a : Nat} {x y z d : D} {Q : Unit → Hs → Prop} : Ok (setO S a 1 d (some (.lst [x, y, z]))) Q = Q () (S.set a (.lst [x, d, z])) := setO_eq (j := 1) (show L2.ixN 3 1 = some 1 by decide)
theorem set3_2 {S : Hs} {a : Nat} {x y z d : D} {Q : Unit → Hs → Prop} : Ok (setO S a 2 d (some (.lst [x, y, z]))) Q = Q () (S.set a (.lst [x, y, d])) := setO_eq (j := 2) (show L2.ixN 3 2 = some 2 by decide)
theorem take_ok {Φ : Nat → List D → Hs → R D} {G : Nat → D} {W i p k : Nat} {m : Int} {S : Hs} {Q : D → Hs → Prop} (hs : SpreadOk Φ i) (hp : Pen S p k) (hk : k ≤ 1048576) (m0 : 0 < m) (m1 : m < 1073741824) (q : ∀ z S', 0 ≤ z → z < m → Pen S' p (k + 1) → Fr [p] S S' → Q (.int z) S') :
    Ok (exec Φ G W (B_law_take i) [some (.ref p), some (.int m), none, none, none] S) (rtQ Q) := by
  unfold B_law_take
  refine x_step fun K hK => ?_
  -- what is left to do once the pen stands ready
  have fin : ∀ S' a b, Pen S' p (k + 1) → Fr [p] S S' → K [some (.ref p), some (.int m), none, a, b] S' := by
    intro S' a b hp' fr
    obtain ⟨c, cells, at_, val, h1, h2, h3, h4, h5, h6⟩ := hp'
    refine hK _ _ (x_step fun K hK => ?_)
    simp only [Ok_ok, Ok_bind, x_nil, x_one, x_asg, x_exp, x_ret, x_retN, x_pas, x_brk, x_cnt, x_ife, nxQ_nx, nxQ_rt, nxQ_bk, nxQ_ct, rtQ_nx, rtQ_rt, d_var', gv_some, d_non, d_bl, d_int, d_str, d_glb, d_tup, d_lst, d_bin, d_cmp, d_neg, d_nt, d_isN, d_nsN, d_chn, d_and, d_or, d_ife, d_cal, d_bi, d_isi, d_mth, d_ix, d_sl, d_rvs, d_lrg, d_lc, l_nil, l_cons, o_nil, o_cons, oiD, negD, notD, i_rng, i_enm, i_zip, i_cons, g_var, g_tup, g_ix, gs_nil, gs_cons, b_add, b_sub, b_mul, b_modP, b_fdvP, b_pow, b_adds, b_addt, b_addl, b_mull, addL_eq, c_lt, c_le, c_gt, c_ge, c_eq, c_ne, eqO_f, eqO_t, eq_ii, eq_ss, bi_len, lenD_some, len_t, len_r, seqO_l, seqO_s, bi_int, bi_intb, bi_maxii, bi_minii, ofS_some, bi_listr, bi_listt, bi_tupr, bi_tupt, ixO_some, ix_t, ix_r, at_0, at_1, at_2, at_3, sl_t, sl_r, rv_r, set_r, Ok_lim, decide_eq_true_eq, Ok_tstN, Ok_tstP, Ok_tst, tst_t, tst_f, List.getElem?_cons_zero, List.getElem?_cons_succ, List.set_cons_zero, List.set_cons_succ, List.map_cons, List.map_nil, List.length_cons, List.length_nil, List.replicate_succ, List.replicate_zero, List.cons_append, List.nil_append, isN, cnt_nil, cnt_cons, Bool.not_true, Bool.not_false, if_true, if_false, Option.map_some, Nat.reduceAdd, Nat.reduceSub, Nat.reduceLT, Nat.reduceLeDiff, Int.reduceLT, Bool.false_eq_true, h2, m0]
    refine hK _ _ (x_step fun K hK => ?_)
    simp only [Ok_ok, Ok_bind, x_nil, x_one, x_asg, x_exp, x_ret, x_retN, x_pas, x_brk, x_cnt, x_ife, nxQ_nx, nxQ_rt, nxQ_bk, nxQ_ct, rtQ_nx, rtQ_rt, d_var', gv_some, d_non, d_bl, d_int, d_str, d_glb, d_tup, d_lst, d_bin, d_cmp, d_neg, d_nt, d_isN, d_nsN, d_chn, d_and, d_or, d_ife, d_cal, d_bi, d_isi, d_mth, d_ix, d_sl, d_rvs, d_lrg, d_lc, l_nil, l_cons, o_nil, o_cons, oiD, negD, notD, i_rng, i_enm, i_zip, i_cons, g_var, g_tup, g_ix, gs_nil, gs_cons, b_add, b_sub, b_mul, b_modP, b_fdvP, b_pow, b_adds, b_addt, b_addl, b_mull, addL_eq, c_lt, c_le, c_gt, c_ge, c_eq, c_ne, eqO_f, eqO_t, eq_ii, eq_ss, bi_len, lenD_some, len_t, len_r, seqO_l, seqO_s, bi_int, bi_intb, bi_maxii, bi_minii, ofS_some, bi_listr, bi_listt, bi_tupr, bi_tupt, ixO_some, ix_t, ix_r, at_0, at_1, at_2, at_3, sl_t, sl_r, rv_r, set_r, Ok_lim, decide_eq_true_eq, Ok_tstN, Ok_tstP, Ok_tst, tst_t, tst_f, List.getElem?_cons_zero, List.getElem?_cons_succ, List.set_cons_zero, List.set_cons_succ, List.map_cons, List.map_nil, List.length_cons, List.length_nil, List.replicate_succ, List.replicate_zero, List.cons_append, List.nil_append, isN, cnt_nil, cnt_cons, Bool.not_true, Bool.not_false, if_true, if_false, Option.map_some, Nat.reduceAdd, Nat.reduceSub, Nat.reduceLT, Nat.reduceLeDiff, Int.reduceLT, Bool.false_eq_true, h2, m0, m1]
    rw [set3_2]
    refine hK _ _ ?_
    simp only [Ok_ok, Ok_bind, x_nil, x_one, x_asg, x_exp, x_ret, x_retN, x_pas, x_brk, x_cnt, x_ife, nxQ_nx, nxQ_rt, nxQ_bk, nxQ_ct, rtQ_nx, rtQ_rt, d_var', gv_some, d_non, d_bl, d_int, d_str, d_glb, d_tup, d_lst, d_bin, d_cmp, d_neg, d_nt, d_isN, d_nsN, d_chn, d_and, d_or, d_ife, d_cal, d_bi, d_isi, d_mth, d_ix, d_sl, d_rvs, d_lrg, d_lc, l_nil, l_cons, o_nil, o_cons, oiD, negD, notD, i_rng, i_enm, i_zip, i_cons, g_var, g_tup, g_ix, gs_nil, gs_cons, b_add, b_sub, b_mul, b_modP, b_fdvP, b_pow, b_adds, b_addt, b_addl, b_mull, addL_eq, c_lt, c_le, c_gt, c_ge, c_eq, c_ne, eqO_f, eqO_t, eq_ii, eq_ss, bi_len, lenD_some, len_t, len_r, seqO_l, seqO_s, bi_int, bi_intb, bi_maxii, bi_minii, ofS_some, bi_listr, bi_listt, bi_tupr, bi_tupt, ixO_some, ix_t, ix_r, at_0, at_1, at_2, at_3, sl_t, sl_r, rv_r, set_r, Ok_lim, decide_eq_true_eq, Ok_tstN, Ok_tstP, Ok_tst, tst_t, tst_f, List.getElem?_cons_zero, List.getElem?_cons_succ, List.set_cons_zero, List.set_cons_succ, List.map_cons, List.map_nil, List.length_cons, List.length_nil, List.replicate_succ, List.replicate_zero, List.cons_append, List.nil_append, isN, cnt_nil, cnt_cons, Bool.not_true, Bool.not_false, if_true, if_false, Option.map_some, Nat.reduceAdd, Nat.reduceSub, Nat.reduceLT, Nat.reduceLeDiff, Int.reduceLT, Bool.false_eq_true]
    obtain ⟨z0, z1⟩ := fmod_pos (i := val) m0
    refine q _ _ z0 z1 ⟨c, cells, at_, val.fdiv m, h1, ?_, ?_, h4, h5, h6⟩ (fr.trans (.set (by simp)))
    · rw [List.getElem?_set_self (lt_of_get h2)]
    · rw [List.getElem?_set_ne (by omega)]; exact h3
  obtain ⟨c, cells, at_, val, h1, h2, h3, h4, h5, h6⟩ := hp
  simp only [Ok_ok, Ok_bind, x_nil, x_one, x_asg, x_exp, x_ret, x_retN, x_pas, x_brk, x_cnt, x_ife, nxQ_nx, nxQ_rt, nxQ_bk, nxQ_ct, rtQ_nx, rtQ_rt, d_var', gv_some, d_non, d_bl, d_int, d_str, d_glb, d_tup, d_lst, d_bin, d_cmp, d_neg, d_nt, d_isN, d_nsN, d_chn, d_and, d_or, d_ife, d_cal, d_bi, d_isi, d_mth, d_ix, d_sl, d_rvs, d_lrg, d_lc, l_nil, l_cons, o_nil, o_cons, oiD, negD, notD, i_rng, i_enm, i_zip, i_cons, g_var, g_tup, g_ix, gs_nil, gs_cons, b_add, b_sub, b_mul, b_modP, b_fdvP, b_pow, b_adds, b_addt, b_addl, b_mull, addL_eq, c_lt, c_le, c_gt, c_ge, c_eq, c_ne, eqO_f, eqO_t, eq_ii, eq_ss, bi_len, lenD_some, len_t, len_r, seqO_l, seqO_s, bi_int, bi_intb, bi_maxii, bi_minii, ofS_some, bi_listr, bi_listt, bi_tupr, bi_tupt, ixO_some, ix_t, ix_r, at_0, at_1, at_2, at_3, sl_t, sl_r, rv_r, set_r, Ok_lim, decide_eq_true_eq, Ok_tstN, Ok_tstP, Ok_tst, tst_t, tst_f, List.getElem?_cons_zero, List.getElem?_cons_succ, List.set_cons_zero, List.set_cons_succ, List.map_cons, List.map_nil, List.length_cons, List.length_nil, List.replicate_succ, List.replicate_zero, List.cons_append, List.nil_append, isN, cnt_nil, cnt_cons, Bool.not_true, Bool.not_false, if_true, if_false, Option.map_some, Nat.reduceAdd, Nat.reduceSub, Nat.reduceLT, Nat.reduceLeDiff, Int.reduceLT, Bool.false_eq_true, h2]
  split
  · refine x_step fun K1 hK1 => ?_
    simp only [Ok_ok, Ok_bind, x_nil, x_one, x_asg, x_exp, x_ret, x_retN, x_pas, x_brk, x_cnt, x_ife, nxQ_nx, nxQ_rt, nxQ_bk, nxQ_ct, rtQ_nx, rtQ_rt, d_var', gv_some, d_non, d_bl, d_int, d_str, d_glb, d_tup, d_lst, d_bin, d_cmp, d_neg, d_nt, d_isN, d_nsN, d_chn, d_and, d_or, d_ife, d_cal, d_bi, d_isi, d_mth, d_ix, d_sl, d_rvs, d_lrg, d_lc, l_nil, l_cons, o_nil, o_cons, oiD, negD, notD, i_rng, i_enm, i_zip, i_cons, g_var, g_tup, g_ix, gs_nil, gs_cons, b_add, b_sub, b_mul, b_modP, b_fdvP, b_pow, b_adds, b_addt, b_addl, b_mull, addL_eq, c_lt, c_le, c_gt, c_ge, c_eq, c_ne, eqO_f, eqO_t, eq_ii, eq_ss, bi_len, lenD_some, len_t, len_r, seqO_l, seqO_s, bi_int, bi_intb, bi_maxii, bi_minii, ofS_some, bi_listr, bi_listt, bi_tupr, bi_tupt, ixO_some, ix_t, ix_r, at_0, at_1, at_2, at_3, sl_t, sl_r, rv_r, set_r, Ok_lim, decide_eq_true_eq, Ok_tstN, Ok_tstP, Ok_tst, tst_t, tst_f, List.getElem?_cons_zero, List.getElem?_cons_succ, List.set_cons_zero, List.set_cons_succ, List.map_cons, List.map_nil, List.length_cons, List.length_nil, List.replicate_succ, List.replicate_zero, List.cons_append, List.nil_append, isN, cnt_nil, cnt_cons, Bool.not_true, Bool.not_false, if_true, if_false, Option.map_some, Nat.reduceAdd, Nat.reduceSub, Nat.reduceLT, Nat.reduceLeDiff, Int.reduceLT, Bool.false_eq_true, h2]
    refine hK1 _ _ (x_step fun K1 hK1 => ?_)
    simp only [Ok_ok, Ok_bind, x_nil, x_one, x_asg, x_exp, x_ret, x_retN, x_pas, x_brk, x_cnt, x_ife, nxQ_nx, nxQ_rt, nxQ_bk, nxQ_ct, rtQ_nx, rtQ_rt, d_var', gv_some, d_non, d_bl, d_int, d_str, d_glb, d_tup, d_lst, d_bin, d_cmp, d_neg, d_nt, d_isN, d_nsN, d_chn, d_and, d_or, d_ife, d_cal, d_bi, d_isi, d_mth, d_ix, d_sl, d_rvs, d_lrg, d_lc, l_nil, l_cons, o_nil, o_cons, oiD, negD, notD, i_rng, i_enm, i_zip, i_cons, g_var, g_tup, g_ix, gs_nil, gs_cons, b_add, b_sub, b_mul, b_modP, b_fdvP, b_pow, b_adds, b_addt, b_addl, b_mull, addL_eq, c_lt, c_le, c_gt, c_ge, c_eq, c_ne, eqO_f, eqO_t, eq_ii, eq_ss, bi_len, lenD_some, len_t, len_r, seqO_l, seqO_s, bi_int, bi_intb, bi_maxii, bi_minii, ofS_some, bi_listr, bi_listt, bi_tupr, bi_tupt, ixO_some, ix_t, ix_r, at_0, at_1, at_2, at_3, sl_t, sl_r, rv_r, set_r, Ok_lim, decide_eq_true_eq, Ok_tstN, Ok_tstP, Ok_tst, tst_t, tst_f, List.getElem?_cons_zero, List.getElem?_cons_succ, List.set_cons_zero, List.set_cons_succ, List.map_cons, List.map_nil, List.length_cons, List.length_nil, List.replicate_succ, List.replicate_zero, List.cons_append, List.nil_append, isN, cnt_nil, cnt_cons, Bool.not_true, Bool.not_false, if_true, if_false, Option.map_some, Nat.reduceAdd, Nat.reduceSub, Nat.reduceLT, Nat.reduceLeDiff, Int.reduceLT, Bool.false_eq_true]
    refine hK1 _ _ (x_step fun K1 hK1 => ?_)
    simp only [Ok_ok, Ok_bind, x_nil, x_one, x_asg, x_exp, x_ret, x_retN, x_pas, x_brk, x_cnt, x_ife, nxQ_nx, nxQ_rt, nxQ_bk, nxQ_ct, rtQ_nx, rtQ_rt, d_var', gv_some, d_non, d_bl, d_int, d_str, d_glb, d_tup, d_lst, d_bin, d_cmp, d_neg, d_nt, d_isN, d_nsN, d_chn, d_and, d_or, d_ife, d_cal, d_bi, d_isi, d_mth, d_ix, d_sl, d_rvs, d_lrg, d_lc, l_nil, l_cons, o_nil, o_cons, oiD, negD, notD, i_rng, i_enm, i_zip, i_cons, g_var, g_tup, g_ix, gs_nil, gs_cons, b_add, b_sub, b_mul, b_modP, b_fdvP, b_pow, b_adds, b_addt, b_addl, b_mull, addL_eq, c_lt, c_le, c_gt, c_ge, c_eq, c_ne, eqO_f, eqO_t, eq_ii, eq_ss, bi_len, lenD_some, len_t, len_r, seqO_l, seqO_s, bi_int, bi_intb, bi_maxii, bi_minii, ofS_some, bi_listr, bi_listt, bi_tupr, bi_tupt, ixO_some, ix_t, ix_r, at_0, at_1, at_2, at_3, sl_t, sl_r, rv_r, set_r, Ok_lim, decide_eq_true_eq, Ok_tstN, Ok_tstP, Ok_tst, tst_t, tst_f, List.getElem?_cons_zero, List.getElem?_cons_succ, List.set_cons_zero, List.set_cons_succ, List.map_cons, List.map_nil, List.length_cons, List.length_nil, List.replicate_succ, List.replicate_zero, List.cons_append, List.nil_append, isN, cnt_nil, cnt_cons, Bool.not_true, Bool.not_false, if_true, if_false, Option.map_some, Nat.reduceAdd, Nat.reduceSub, Nat.reduceLT, Nat.reduceLeDiff, Int.reduceLT, Bool.false_eq_true, h2, h3, List.length_map]
    -- whatever the cell is
    have go : ∀ cell : Int, K1 [some (.ref p), some (.int m), none, some (.int at_), some (.int cell)] S := by
      intro cell
      refine hK1 _ _ (x_step fun K2 hK2 => ?_)
      simp only [Ok_ok, Ok_bind, x_nil, x_one, x_asg, x_exp, x_ret, x_retN, x_pas, x_brk, x_cnt, x_ife, nxQ_nx, nxQ_rt, nxQ_bk, nxQ_ct, rtQ_nx, rtQ_rt, d_var', gv_some, d_non, d_bl, d_int, d_str, d_glb, d_tup, d_lst, d_bin, d_cmp, d_neg, d_nt, d_isN, d_nsN, d_chn, d_and, d_or, d_ife, d_cal, d_bi, d_isi, d_mth, d_ix, d_sl, d_rvs, d_lrg, d_lc, l_nil, l_cons, o_nil, o_cons, oiD, negD, notD, i_rng, i_enm, i_zip, i_cons, g_var, g_tup, g_ix, gs_nil, gs_cons, b_add, b_sub, b_mul, b_modP, b_fdvP, b_pow, b_adds, b_addt, b_addl, b_mull, addL_eq, c_lt, c_le, c_gt, c_ge, c_eq, c_ne, eqO_f, eqO_t, eq_ii, eq_ss, bi_len, lenD_some, len_t, len_r, seqO_l, seqO_s, bi_int, bi_intb, bi_maxii, bi_minii, ofS_some, bi_listr, bi_listt, bi_tupr, bi_tupt, ixO_some, ix_t, ix_r, at_0, at_1, at_2, at_3, sl_t, sl_r, rv_r, set_r, Ok_lim, decide_eq_true_eq, Ok_tstN, Ok_tstP, Ok_tst, tst_t, tst_f, List.getElem?_cons_zero, List.getElem?_cons_succ, List.set_cons_zero, List.set_cons_succ, List.map_cons, List.map_nil, List.length_cons, List.length_nil, List.replicate_succ, List.replicate_zero, List.cons_append, List.nil_append, isN, cnt_nil, cnt_cons, Bool.not_true, Bool.not_false, if_true, if_false, Option.map_some, Nat.reduceAdd, Nat.reduceSub, Nat.reduceLT, Nat.reduceLeDiff, Int.reduceLT, Bool.false_eq_true, h2]
      rw [set3_1]
      refine hK2 _ _ ?_
      simp only [Ok_ok, Ok_bind, x_nil, x_one, x_asg, x_exp, x_ret, x_retN, x_pas, x_brk, x_cnt, x_ife, nxQ_nx, nxQ_rt, nxQ_bk, nxQ_ct, rtQ_nx, rtQ_rt, d_var', gv_some, d_non, d_bl, d_int, d_str, d_glb, d_tup, d_lst, d_bin, d_cmp, d_neg, d_nt, d_isN, d_nsN, d_chn, d_and, d_or, d_ife, d_cal, d_bi, d_isi, d_mth, d_ix, d_sl, d_rvs, d_lrg, d_lc, l_nil, l_cons, o_nil, o_cons, oiD, negD, notD, i_rng, i_enm, i_zip, i_cons, g_var, g_tup, g_ix, gs_nil, gs_cons, b_add, b_sub, b_mul, b_modP, b_fdvP, b_pow, b_adds, b_addt, b_addl, b_mull, addL_eq, c_lt, c_le, c_gt, c_ge, c_eq, c_ne, eqO_f, eqO_t, eq_ii, eq_ss, bi_len, lenD_some, len_t, len_r, seqO_l, seqO_s, bi_int, bi_intb, bi_maxii, bi_minii, ofS_some, bi_listr, bi_listt, bi_tupr, bi_tupt, ixO_some, ix_t, ix_r, at_0, at_1, at_2, at_3, sl_t, sl_r, rv_r, set_r, Ok_lim, decide_eq_true_eq, Ok_tstN, Ok_tstP, Ok_tst, tst_t, tst_f, List.getElem?_cons_zero, List.getElem?_cons_succ, List.set_cons_zero, List.set_cons_succ, List.map_cons, List.map_nil, List.length_cons, List.length_nil, List.replicate_succ, List.replicate_zero, List.cons_append, List.nil_append, isN, cnt_nil, cnt_cons, Bool.not_true, Bool.not_false, if_true, if_false, Option.map_some, Nat.reduceAdd, Nat.reduceSub, Nat.reduceLT, Nat.reduceLeDiff, Int.reduceLT, Bool.false_eq_true]
      refine hs _ _ _ _ h4 (by omega) fun z S' fr => ?_
      have g2 : S'[p]? = some (.lst [.ref c, .int (at_ + 1), .int val]) := fr.get0 (by rw [List.getElem?_set_self (lt_of_get h2)])
      have g3 : S'[c]? = some (.lst (cells.map D.int)) := fr.get0 (by rw [List.getElem?_set_ne (by omega)]; exact h3)
      simp only [Ok_ok, Ok_bind, x_nil, x_one, x_asg, x_exp, x_ret, x_retN, x_pas, x_brk, x_cnt, x_ife, nxQ_nx, nxQ_rt, nxQ_bk, nxQ_ct, rtQ_nx, rtQ_rt, d_var', gv_some, d_non, d_bl, d_int, d_str, d_glb, d_tup, d_lst, d_bin, d_cmp, d_neg, d_nt, d_isN, d_nsN, d_chn, d_and, d_or, d_ife, d_cal, d_bi, d_isi, d_mth, d_ix, d_sl, d_rvs, d_lrg, d_lc, l_nil, l_cons, o_nil, o_cons, oiD, negD, notD, i_rng, i_enm, i_zip, i_cons, g_var, g_tup, g_ix, gs_nil, gs_cons, b_add, b_sub, b_mul, b_modP, b_fdvP, b_pow, b_adds, b_addt, b_addl, b_mull, addL_eq, c_lt, c_le, c_gt, c_ge, c_eq, c_ne, eqO_f, eqO_t, eq_ii, eq_ss, bi_len, lenD_some, len_t, len_r, seqO_l, seqO_s, bi_int, bi_intb, bi_maxii, bi_minii, ofS_some, bi_listr, bi_listt, bi_tupr, bi_tupt, ixO_some, ix_t, ix_r, at_0, at_1, at_2, at_3, sl_t, sl_r, rv_r, set_r, Ok_lim, decide_eq_true_eq, Ok_tstN, Ok_tstP, Ok_tst, tst_t, tst_f, List.getElem?_cons_zero, List.getElem?_cons_succ, List.set_cons_zero, List.set_cons_succ, List.map_cons, List.map_nil, List.length_cons, List.length_nil, List.replicate_succ, List.replicate_zero, List.cons_append, List.nil_append, isN, cnt_nil, cnt_cons, Bool.not_true, Bool.not_false, if_true, if_false, Option.map_some, Nat.reduceAdd, Nat.reduceSub, Nat.reduceLT, Nat.reduceLeDiff, Int.reduceLT, Bool.false_eq_true, g2]
      rw [set3_2]
      refine fin _ _ _ ⟨c, cells, at_ + 1, z, h1, ?_, ?_, by omega, by omega, h6⟩ (((Fr.set (by simp)).trans fr.any).trans (.set (by simp)))
      · rw [List.getElem?_set_self (lt_of_get g2)]
      · rw [List.getElem?_set_ne (by omega)]; exact g3
    split
    · rename_i hlt
      obtain ⟨d, e1, e2⟩ := atI_int (ds := cells.map D.int) h4 (by rw [List.length_map]; exact hlt)
      obtain ⟨z, _, rfl⟩ := List.mem_map.mp e2
      simp only [Ok_ok, Ok_bind, x_nil, x_one, x_asg, x_exp, x_ret, x_retN, x_pas, x_brk, x_cnt, x_ife, nxQ_nx, nxQ_rt, nxQ_bk, nxQ_ct, rtQ_nx, rtQ_rt, d_var', gv_some, d_non, d_bl, d_int, d_str, d_glb, d_tup, d_lst, d_bin, d_cmp, d_neg, d_nt, d_isN, d_nsN, d_chn, d_and, d_or, d_ife, d_cal, d_bi, d_isi, d_mth, d_ix, d_sl, d_rvs, d_lrg, d_lc, l_nil, l_cons, o_nil, o_cons, oiD, negD, notD, i_rng, i_enm, i_zip, i_cons, g_var, g_tup, g_ix, gs_nil, gs_cons, b_add, b_sub, b_mul, b_modP, b_fdvP, b_pow, b_adds, b_addt, b_addl, b_mull, addL_eq, c_lt, c_le, c_gt, c_ge, c_eq, c_ne, eqO_f, eqO_t, eq_ii, eq_ss, bi_len, lenD_some, len_t, len_r, seqO_l, seqO_s, bi_int, bi_intb, bi_maxii, bi_minii, ofS_some, bi_listr, bi_listt, bi_tupr, bi_tupt, ixO_some, ix_t, ix_r, at_0, at_1, at_2, at_3, sl_t, sl_r, rv_r, set_r, Ok_lim, decide_eq_true_eq, Ok_tstN, Ok_tstP, Ok_tst, tst_t, tst_f, List.getElem?_cons_zero, List.getElem?_cons_succ, List.set_cons_zero, List.set_cons_succ, List.map_cons, List.map_nil, List.length_cons, List.length_nil, List.replicate_succ, List.replicate_zero, List.cons_append, List.nil_append, isN, cnt_nil, cnt_cons, Bool.not_true, Bool.not_false, if_true, if_false, Option.map_some, Nat.reduceAdd, Nat.reduceSub, Nat.reduceLT, Nat.reduceLeDiff, Int.reduceLT, Bool.false_eq_true, h2, h3, e1]
      exact go _
    · split
      · rename_i hpos
        obtain ⟨w0, w1⟩ := fmod_pos (i := at_ * 5 + 3) hpos
        obtain ⟨d, e1, e2⟩ := atI_int (ds := cells.map D.int) w0 (by rw [List.length_map]; exact w1)
        obtain ⟨z, _, rfl⟩ := List.mem_map.mp e2
        rw [if_pos (mulOk_r (by decide) (by decide))]
        simp only [Ok_ok, Ok_bind, x_nil, x_one, x_asg, x_exp, x_ret, x_retN, x_pas, x_brk, x_cnt, x_ife, nxQ_nx, nxQ_rt, nxQ_bk, nxQ_ct, rtQ_nx, rtQ_rt, d_var', gv_some, d_non, d_bl, d_int, d_str, d_glb, d_tup, d_lst, d_bin, d_cmp, d_neg, d_nt, d_isN, d_nsN, d_chn, d_and, d_or, d_ife, d_cal, d_bi, d_isi, d_mth, d_ix, d_sl, d_rvs, d_lrg, d_lc, l_nil, l_cons, o_nil, o_cons, oiD, negD, notD, i_rng, i_enm, i_zip, i_cons, g_var, g_tup, g_ix, gs_nil, gs_cons, b_add, b_sub, b_mul, b_modP, b_fdvP, b_pow, b_adds, b_addt, b_addl, b_mull, addL_eq, c_lt, c_le, c_gt, c_ge, c_eq, c_ne, eqO_f, eqO_t, eq_ii, eq_ss, bi_len, lenD_some, len_t, len_r, seqO_l, seqO_s, bi_int, bi_intb, bi_maxii, bi_minii, ofS_some, bi_listr, bi_listt, bi_tupr, bi_tupt, ixO_some, ix_t, ix_r, at_0, at_1, at_2, at_3, sl_t, sl_r, rv_r, set_r, Ok_lim, decide_eq_true_eq, Ok_tstN, Ok_tstP, Ok_tst, tst_t, tst_f, List.getElem?_cons_zero, List.getElem?_cons_succ, List.set_cons_zero, List.set_cons_succ, List.map_cons, List.map_nil, List.length_cons, List.length_nil, List.replicate_succ, List.replicate_zero, List.cons_append, List.nil_append, isN, cnt_nil, cnt_cons, Bool.not_true, Bool.not_false, if_true, if_false, Option.map_some, Nat.reduceAdd, Nat.reduceSub, Nat.reduceLT, Nat.reduceLeDiff, Int.reduceLT, Bool.false_eq_true, h3, e1, hpos]
        rw [show (10 : Int) ^ Int.toNat 17 = 100000000000000000 by decide, if_pos (by decide), b_modP (by omega)]
        exact go _
      · exact go _
  · exact fin _ _ _ ⟨c, cells, at_, val, h1, h2, h3, h4, by omega, h6⟩ .refl
theorem len_seq {S : Hs} {d : D} {ds : List D} (h : seqOf S d = some ds) : lenOf S d = some ds.length := by
  cases d with
  | tup xs => cases h; rfl
  | ref a => show (seqOf S (.ref a)).map List.length = _; rw [h]; rfl
  | _ => cases h
theorem ix_seq {S : Hs} {d : D} {ds : List D} {i : Int} {Q : D → Hs → Prop} (h : seqOf S d = some ds) : Ok (ixD S d (.int i)) Q = Ok (ixO S (L2.atI ds i)) Q := by
  cases d with
  | tup xs => cases h; exact ix_t
  | ref a => rw [ix_r]; rw [seq_r] at h; rw [h]; rfl
  | _ => cases h
theorem Fr.seq {mod : List Nat} {S S' : Hs} {d : D} {ds : List D} (f : Fr mod S S') (h : seqOf S d = some ds) (n : ∀ a ∈ mod, d ≠ .ref a) : seqOf S' d = some ds := by
  cases d with
  | tup xs => exact h
  | ref a =>
    rw [seq_r] at h ⊢
    cases e : S[a]? with
    | none => rw [e] at h; cases h
    | some o => rw [f.get e (fun z => n a z rfl), ← e]; exact h
  | _ => cases h
def OneOk (Φ : Nat → List D → Hs → R D) (i : Nat) : Prop := ∀ (p k : Nat) (s : D) (ds : List D) (S : Hs) (Q : D → Hs → Prop), Pen S p k → k ≤ 1048576 → seqOf S s = some ds → s ≠ .ref p → ds ≠ [] → ds.length < 1073741824 → (∀ d S', d ∈ ds → Pen S' p (k + 1) → Fr [p] S S' → Q d S') → Ok (Φ i [.ref p, s] S) Q
def OneStrOk (Φ : Nat → List D → Hs → R D) (i : Nat) : Prop := ∀ (p k : Nat) (x : PySem.Str) (S : Hs) (Q : D → Hs → Prop), Pen S p k → k ≤ 1048576 → 0 < x.length → x.length ≤ 1000000 → (∀ c S', c ∈ x.cps.toList → Pen S' p (k + 1) → Fr [p] S S' → Q (.str ⟨#[c]⟩) S') → Ok (Φ i [.ref p, .str x] S) Q
theorem one_ok {Φ : Nat → List D → Hs → R D} {G : Nat → D} {W i p k : Nat} {s : D} {ds : List D} {S : Hs} {Q : D → Hs → Prop} (ht : TakeOk Φ i) (hp : Pen S p k) (hk : k ≤ 1048576) (hs : seqOf S s = some ds) (np : s ≠ .ref p) (hne : ds ≠ []) (hl : ds.length < 1073741824)
    (q : ∀ d S', d ∈ ds → Pen S' p (k + 1) → Fr [p] S S' → Q d S') : Ok (exec Φ G W (B_law_one_of i) [some (.ref p), some s] S) (rtQ Q) := by
  unfold B_law_one_of
  simp only [Ok_ok, Ok_bind, x_nil, x_one, x_asg, x_exp, x_ret, x_retN, x_pas, x_brk, x_cnt, x_ife, nxQ_nx, nxQ_rt, nxQ_bk, nxQ_ct, rtQ_nx, rtQ_rt, d_var', gv_some, d_non, d_bl, d_int, d_str, d_glb, d_tup, d_lst, d_bin, d_cmp, d_neg, d_nt, d_isN, d_nsN, d_chn, d_and, d_or, d_ife, d_cal, d_bi, d_isi, d_mth, d_ix, d_sl, d_rvs, d_lrg, d_lc, l_nil, l_cons, o_nil, o_cons, oiD, negD, notD, i_rng, i_enm, i_zip, i_cons, g_var, g_tup, g_ix, gs_nil, gs_cons, b_add, b_sub, b_mul, b_modP, b_fdvP, b_pow, b_adds, b_addt, b_addl, b_mull, addL_eq, c_lt, c_le, c_gt, c_ge, c_eq, c_ne, eqO_f, eqO_t, eq_ii, eq_ss, bi_len, lenD_some, len_t, len_r, seqO_l, seqO_s, bi_int, bi_intb, bi_maxii, bi_minii, ofS_some, bi_listr, bi_listt, bi_tupr, bi_tupt, ixO_some, ix_t, ix_r, at_0, at_1, at_2, at_3, sl_t, sl_r, rv_r, set_r, Ok_lim, decide_eq_true_eq, Ok_tstN, Ok_tstP, Ok_tst, tst_t, tst_f, List.getElem?_cons_zero, List.getElem?_cons_succ, List.set_cons_zero, List.set_cons_succ, List.map_cons, List.map_nil, List.length_cons, List.length_nil, List.replicate_succ, List.replicate_zero, List.cons_append, List.nil_append, isN, cnt_nil, cnt_cons, Bool.not_true, Bool.not_false, if_true, if_false, Option.map_some, Nat.reduceAdd, Nat.reduceSub, Nat.reduceLT, Nat.reduceLeDiff, Int.reduceLT, Bool.false_eq_true]
  rw [len_seq hs]
  have h0 : 0 < ds.length := List.length_pos_iff.mpr hne
  refine ht _ _ _ _ _ hp hk (by omega) (by omega) fun z S' z0 z1 hp' fr => ?_
  have hs' := fr.seq hs (fun a ha => by rw [List.mem_singleton.mp ha]; exact np)
  obtain ⟨d, e1, e2⟩ := atI_int z0 z1
  rw [ix_seq hs', e1]
  exact q _ _ e2 hp' fr
theorem atI_intA {α : Type} {ds : List α} {i : Int} (h0 : 0 ≤ i) (h1 : i < ds.length) : ∃ d, L2.atI ds i = some d ∧ d ∈ ds := by
  obtain ⟨k, rfl⟩ := Int.eq_ofNat_of_zero_le h0
  have hk : k < ds.length := by omega
  refine ⟨ds[k], ?_, List.getElem_mem _⟩
  unfold L2.atI L2.ixN
  rw [if_pos h0, if_pos h1]
  simp [hk]
theorem one_str_ok {Φ : Nat → List D → Hs → R D} {G : Nat → D} {W i p k : Nat} {x : PySem.Str} {S : Hs} {Q : D → Hs → Prop} (ht : TakeOk Φ i) (hp : Pen S p k) (hk : k ≤ 1048576) (h0 : 0 < x.length) (hl : x.length ≤ 1000000)
    (q : ∀ c S', c ∈ x.cps.toList → Pen S' p (k + 1) → Fr [p] S S' → Q (.str ⟨#[c]⟩) S') : Ok (exec Φ G W (B_law_one_of i) [some (.ref p), some (.str x)] S) (rtQ Q) := by
  unfold B_law_one_of
  simp only [Ok_ok, Ok_bind, x_nil, x_one, x_asg, x_exp, x_ret, x_retN, x_pas, x_brk, x_cnt, x_ife, nxQ_nx, nxQ_rt, nxQ_bk, nxQ_ct, rtQ_nx, rtQ_rt, d_var', gv_some, d_non, d_bl, d_int, d_str, d_glb, d_tup, d_lst, d_bin, d_cmp, d_neg, d_nt, d_isN, d_nsN, d_chn, d_and, d_or, d_ife, d_cal, d_bi, d_isi, d_mth, d_ix, d_sl, d_rvs, d_lrg, d_lc, l_nil, l_cons, o_nil, o_cons, oiD, negD, notD, i_rng, i_enm, i_zip, i_cons, g_var, g_tup, g_ix, gs_nil, gs_cons, b_add, b_sub, b_mul, b_modP, b_fdvP, b_pow, b_adds, b_addt, b_addl, b_mull, addL_eq, c_lt, c_le, c_gt, c_ge, c_eq, c_ne, eqO_f, eqO_t, eq_ii, eq_ss, bi_len, lenD_some, len_t, len_r, seqO_l, seqO_s, bi_int, bi_intb, bi_maxii, bi_minii, ofS_some, bi_listr, bi_listt, bi_tupr, bi_tupt, ixO_some, ix_t, ix_r, at_0, at_1, at_2, at_3, sl_t, sl_r, rv_r, set_r, Ok_lim, decide_eq_true_eq, Ok_tstN, Ok_tstP, Ok_tst, tst_t, tst_f, List.getElem?_cons_zero, List.getElem?_cons_succ, List.set_cons_zero, List.set_cons_succ, List.map_cons, List.map_nil, List.length_cons, List.length_nil, List.replicate_succ, List.replicate_zero, List.cons_append, List.nil_append, isN, cnt_nil, cnt_cons, Bool.not_true, Bool.not_false, if_true, if_false, Option.map_some, Nat.reduceAdd, Nat.reduceSub, Nat.reduceLT, Nat.reduceLeDiff, Int.reduceLT, Bool.false_eq_true, len_s hl]
  refine ht _ _ _ _ _ hp hk (by omega) (by omega) fun z S' z0 z1 hp' fr => ?_
  obtain ⟨c, e1, e2⟩ := atI_intA (ds := x.cps.toList) z0 (by have : x.length = x.cps.toList.length := by rw [Array.length_toList]; rfl
                                                             omega)
  rw [ix_s hl, e1]
  exact q _ _ e2 hp' fr
theorem cutD_mem {α : Type} {xs : List α} {lo hi : Option Int} {x : α} (h : x ∈ cutD xs lo hi) : x ∈ xs := List.mem_of_mem_drop (List.mem_of_mem_take h)
def OpenOk (Φ : Nat → List D → Hs → R D) (i : Nat) : Prop := ∀ (s : Nat) (ns : List Int) (S : Hs) (Q : D → Hs → Prop), S[s]? = some (.scr (ns.map D.int)) → ns.length ≤ 63 → (∀ p S', S.length ≤ p → Pen S' p 0 → Fr [] S S' → Q (.ref p) S') → Ok (Φ i [.ref s] S) Q
theorem ints_of_mem {ds : List D} {ns : List Int} (h : ∀ d ∈ ds, d ∈ ns.map D.int) : ∃ ms : List Int, ds = ms.map D.int := by
  induction ds with
  | nil => exact ⟨[], rfl⟩
  | cons d ds ih =>
    obtain ⟨z, _, rfl⟩ := List.mem_map.mp (h d (by simp))
    obtain ⟨ms, rfl⟩ := ih fun d hd => h d (by simp [hd])
    exact ⟨z :: ms, rfl⟩
theorem open_ok {Φ : Nat → List D → Hs → R D} {G : Nat → D} {W s : Nat} {ns : List Int} {S : Hs} {Q : D → Hs → Prop} (hs : S[s]? = some (.scr (ns.map D.int))) (hn : ns.length ≤ 63) (q : ∀ p S', S.length ≤ p → Pen S' p 0 → Fr [] S S' → Q (.ref p) S') :
    Ok (exec Φ G W B_law_open [some (.ref s), none, none, none] S) (rtQ Q) := by
  unfold B_law_open
  refine x_step fun K hK => ?_
  simp only [Ok_ok, Ok_bind, x_nil, x_one, x_asg, x_exp, x_ret, x_retN, x_pas, x_brk, x_cnt, x_ife, nxQ_nx, nxQ_rt, nxQ_bk, nxQ_ct, rtQ_nx, rtQ_rt, d_var', gv_some, d_non, d_bl, d_int, d_str, d_glb, d_tup, d_lst, d_bin, d_cmp, d_neg, d_nt, d_isN, d_nsN, d_chn, d_and, d_or, d_ife, d_cal, d_bi, d_isi, d_mth, d_ix, d_sl, d_rvs, d_lrg, d_lc, l_nil, l_cons, o_nil, o_cons, oiD, negD, notD, i_rng, i_enm, i_zip, i_cons, g_var, g_tup, g_ix, gs_nil, gs_cons, b_add, b_sub, b_mul, b_modP, b_fdvP, b_pow, b_adds, b_addt, b_addl, b_mull, addL_eq, c_lt, c_le, c_gt, c_ge, c_eq, c_ne, eqO_f, eqO_t, eq_ii, eq_ss, bi_len, lenD_some, len_t, len_r, seqO_l, seqO_s, bi_int, bi_intb, bi_maxii, bi_minii, ofS_some, bi_listr, bi_listt, bi_tupr, bi_tupt, ixO_some, ix_t, ix_r, at_0, at_1, at_2, at_3, sl_t, sl_r, rv_r, set_r, Ok_lim, decide_eq_true_eq, Ok_tstN, Ok_tstP, Ok_tst, tst_t, tst_f, List.getElem?_cons_zero, List.getElem?_cons_succ, List.set_cons_zero, List.set_cons_succ, List.map_cons, List.map_nil, List.length_cons, List.length_nil, List.replicate_succ, List.replicate_zero, List.cons_append, List.nil_append, isN, cnt_nil, cnt_cons, Bool.not_true, Bool.not_false, if_true, if_false, Option.map_some, Nat.reduceAdd, Nat.reduceSub, Nat.reduceLT, Nat.reduceLeDiff, Int.reduceLT, Bool.false_eq_true, hs]
  refine Ok_newA fun a S1 ha ea ela f1 => ?_
  simp only [ha, Ok_ok, Ok_bind, x_nil, x_one, x_asg, x_exp, x_ret, x_retN, x_pas, x_brk, x_cnt, x_ife, nxQ_nx, nxQ_rt, nxQ_bk, nxQ_ct, rtQ_nx, rtQ_rt, d_var', gv_some, d_non, d_bl, d_int, d_str, d_glb, d_tup, d_lst, d_bin, d_cmp, d_neg, d_nt, d_isN, d_nsN, d_chn, d_and, d_or, d_ife, d_cal, d_bi, d_isi, d_mth, d_ix, d_sl, d_rvs, d_lrg, d_lc, l_nil, l_cons, o_nil, o_cons, oiD, negD, notD, i_rng, i_enm, i_zip, i_cons, g_var, g_tup, g_ix, gs_nil, gs_cons, b_add, b_sub, b_mul, b_modP, b_fdvP, b_pow, b_adds, b_addt, b_addl, b_mull, addL_eq, c_lt, c_le, c_gt, c_ge, c_eq, c_ne, eqO_f, eqO_t, eq_ii, eq_ss, bi_len, lenD_some, len_t, len_r, seqO_l, seqO_s, bi_int, bi_intb, bi_maxii, bi_minii, ofS_some, bi_listr, bi_listt, bi_tupr, bi_tupt, ixO_some, ix_t, ix_r, at_0, at_1, at_2, at_3, sl_t, sl_r, rv_r, set_r, Ok_lim, decide_eq_true_eq, Ok_tstN, Ok_tstP, Ok_tst, tst_t, tst_f, List.getElem?_cons_zero, List.getElem?_cons_succ, List.set_cons_zero, List.set_cons_succ, List.map_cons, List.map_nil, List.length_cons, List.length_nil, List.replicate_succ, List.replicate_zero, List.cons_append, List.nil_append, isN, cnt_nil, cnt_cons, Bool.not_true, Bool.not_false, if_true, if_false, Option.map_some, Nat.reduceAdd, Nat.reduceSub, Nat.reduceLT, Nat.reduceLeDiff, Int.reduceLT, Bool.false_eq_true]
  refine Ok_newA fun c S2 hc ec elc f2 => ?_
  obtain ⟨ms, hms⟩ := ints_of_mem (ds := cutD (ns.map D.int) none (some 12)) (ns := ns) fun d hd => cutD_mem hd
  have hcut : ∀ i : Nat, i < (cutD (ns.map D.int) (some 12) (some 63)).length → ms.length = 12 := by
    intro i hi
    have e := congrArg List.length hms
    have e63 : sIx (ns.map D.int).length (ns.map D.int).length (some 63) ≤ (ns.map D.int).length := sIx_le _ _ (Nat.le_refl _) _
    have e12 : sIx (ns.map D.int).length 0 (some 12) = min 12 (ns.map D.int).length := sIx_nat _ _ 12
    have e12' : sIx (ns.map D.int).length (ns.map D.int).length (some 12) = min 12 (ns.map D.int).length := sIx_nat _ _ 12
    have e0 : sIx (ns.map D.int).length 0 none = 0 := sIx_none _ _
    simp only [cutD, List.length_take, List.length_drop, List.length_map] at hi e e63 e12 e12' e0
    rw [e12', e0] at e
    rw [e12] at hi
    omega
  rw [hms] at hc
  refine hK _ _ (x_step fun K hK => ?_)
  rw [x_for]
  simp only [Ok_ok, Ok_bind, x_nil, x_one, x_asg, x_exp, x_ret, x_retN, x_pas, x_brk, x_cnt, x_ife, nxQ_nx, nxQ_rt, nxQ_bk, nxQ_ct, rtQ_nx, rtQ_rt, d_var', gv_some, d_non, d_bl, d_int, d_str, d_glb, d_tup, d_lst, d_bin, d_cmp, d_neg, d_nt, d_isN, d_nsN, d_chn, d_and, d_or, d_ife, d_cal, d_bi, d_isi, d_mth, d_ix, d_sl, d_rvs, d_lrg, d_lc, l_nil, l_cons, o_nil, o_cons, oiD, negD, notD, i_rng, i_enm, i_zip, i_cons, g_var, g_tup, g_ix, gs_nil, gs_cons, b_add, b_sub, b_mul, b_modP, b_fdvP, b_pow, b_adds, b_addt, b_addl, b_mull, addL_eq, c_lt, c_le, c_gt, c_ge, c_eq, c_ne, eqO_f, eqO_t, eq_ii, eq_ss, bi_len, lenD_some, len_t, len_r, seqO_l, seqO_s, bi_int, bi_intb, bi_maxii, bi_minii, ofS_some, bi_listr, bi_listt, bi_tupr, bi_tupt, ixO_some, ix_t, ix_r, at_0, at_1, at_2, at_3, sl_t, sl_r, rv_r, set_r, Ok_lim, decide_eq_true_eq, Ok_tstN, Ok_tstP, Ok_tst, tst_t, tst_f, List.getElem?_cons_zero, List.getElem?_cons_succ, List.set_cons_zero, List.set_cons_succ, List.map_cons, List.map_nil, List.length_cons, List.length_nil, List.replicate_succ, List.replicate_zero, List.cons_append, List.nil_append, isN, cnt_nil, cnt_cons, Bool.not_true, Bool.not_false, if_true, if_false, Option.map_some, Nat.reduceAdd, Nat.reduceSub, Nat.reduceLT, Nat.reduceLeDiff, Int.reduceLT, Bool.false_eq_true, f2.get0 (f1.get0 hs)]
  refine Ok_newA fun b S3 hb eb elb f3 => ?_
  rw [en_l hb]
  have hcb : c ≠ b := by omega
  refine forGo_ok (fun k ρ S' => ∃ (xs : List Int) (u v : Option D), ρ = [some (.ref s), some (.ref c), u, v] ∧ S'[c]? = some (.lst (xs.map D.int)) ∧ xs.length = ms.length ∧ S'[b]? = some (.lst (cutD (ns.map D.int) (some 12) (some 63))) ∧ S'.length = S3.length ∧ Fr [] S S')
    ⟨ms, none, none, rfl, f3.get0 hc, rfl, hb, rfl, (f1.trans f2).trans f3⟩ (fun k ρ S' _ h => ?_) (fun k d ρ S' hd h => ?_) fun ρ S' h => ?_
  · obtain ⟨xs, u, v, rfl, h1, h2, h3, h4, h5⟩ := h
    exact held_l h3
  · obtain ⟨xs, u, v, rfl, h1, h2, h3, h4, h5⟩ := h
    rw [numbered_get] at hd
    cases e : (cutD (ns.map D.int) (some 12) (some 63))[k]? with
    | none => rw [e] at hd; cases hd
    | some x =>
      rw [e] at hd
      cases hd
      obtain ⟨z, _, rfl⟩ := List.mem_map.mp (cutD_mem (List.mem_of_getElem? e))
      have hlen := hcut k (List.getElem?_eq_some_iff.mp e).1
      simp only [Ok_ok, Ok_bind, x_nil, x_one, x_asg, x_exp, x_ret, x_retN, x_pas, x_brk, x_cnt, x_ife, nxQ_nx, nxQ_rt, nxQ_bk, nxQ_ct, rtQ_nx, rtQ_rt, d_var', gv_some, d_non, d_bl, d_int, d_str, d_glb, d_tup, d_lst, d_bin, d_cmp, d_neg, d_nt, d_isN, d_nsN, d_chn, d_and, d_or, d_ife, d_cal, d_bi, d_isi, d_mth, d_ix, d_sl, d_rvs, d_lrg, d_lc, l_nil, l_cons, o_nil, o_cons, oiD, negD, notD, i_rng, i_enm, i_zip, i_cons, g_var, g_tup, g_ix, gs_nil, gs_cons, b_add, b_sub, b_mul, b_modP, b_fdvP, b_pow, b_adds, b_addt, b_addl, b_mull, addL_eq, c_lt, c_le, c_gt, c_ge, c_eq, c_ne, eqO_f, eqO_t, eq_ii, eq_ss, bi_len, lenD_some, len_t, len_r, seqO_l, seqO_s, bi_int, bi_intb, bi_maxii, bi_minii, ofS_some, bi_listr, bi_listt, bi_tupr, bi_tupt, ixO_some, ix_t, ix_r, at_0, at_1, at_2, at_3, sl_t, sl_r, rv_r, set_r, Ok_lim, decide_eq_true_eq, Ok_tstN, Ok_tstP, Ok_tst, tst_t, tst_f, List.getElem?_cons_zero, List.getElem?_cons_succ, List.set_cons_zero, List.set_cons_succ, List.map_cons, List.map_nil, List.length_cons, List.length_nil, List.replicate_succ, List.replicate_zero, List.cons_append, List.nil_append, isN, cnt_nil, cnt_cons, Bool.not_true, Bool.not_false, if_true, if_false, Option.map_some, Nat.reduceAdd, Nat.reduceSub, Nat.reduceLT, Nat.reduceLeDiff, Int.reduceLT, Bool.false_eq_true]
      have w := fmod_pos (i := ((0 + k : Nat) : Int)) (j := 12) (by decide)
      obtain ⟨j, hj⟩ := Int.eq_ofNat_of_zero_le w.1
      obtain ⟨d, e1, e2⟩ := atI_int (ds := xs.map D.int) w.1 (by rw [List.length_map, h2, hlen]; exact w.2)
      obtain ⟨y, _, rfl⟩ := List.mem_map.mp e2
      simp only [Ok_ok, Ok_bind, x_nil, x_one, x_asg, x_exp, x_ret, x_retN, x_pas, x_brk, x_cnt, x_ife, nxQ_nx, nxQ_rt, nxQ_bk, nxQ_ct, rtQ_nx, rtQ_rt, d_var', gv_some, d_non, d_bl, d_int, d_str, d_glb, d_tup, d_lst, d_bin, d_cmp, d_neg, d_nt, d_isN, d_nsN, d_chn, d_and, d_or, d_ife, d_cal, d_bi, d_isi, d_mth, d_ix, d_sl, d_rvs, d_lrg, d_lc, l_nil, l_cons, o_nil, o_cons, oiD, negD, notD, i_rng, i_enm, i_zip, i_cons, g_var, g_tup, g_ix, gs_nil, gs_cons, b_add, b_sub, b_mul, b_modP, b_fdvP, b_pow, b_adds, b_addt, b_addl, b_mull, addL_eq, c_lt, c_le, c_gt, c_ge, c_eq, c_ne, eqO_f, eqO_t, eq_ii, eq_ss, bi_len, lenD_some, len_t, len_r, seqO_l, seqO_s, bi_int, bi_intb, bi_maxii, bi_minii, ofS_some, bi_listr, bi_listt, bi_tupr, bi_tupt, ixO_some, ix_t, ix_r, at_0, at_1, at_2, at_3, sl_t, sl_r, rv_r, set_r, Ok_lim, decide_eq_true_eq, Ok_tstN, Ok_tstP, Ok_tst, tst_t, tst_f, List.getElem?_cons_zero, List.getElem?_cons_succ, List.set_cons_zero, List.set_cons_succ, List.map_cons, List.map_nil, List.length_cons, List.length_nil, List.replicate_succ, List.replicate_zero, List.cons_append, List.nil_append, isN, cnt_nil, cnt_cons, Bool.not_true, Bool.not_false, if_true, if_false, Option.map_some, Nat.reduceAdd, Nat.reduceSub, Nat.reduceLT, Nat.reduceLeDiff, Int.reduceLT, Bool.false_eq_true, h1, e1]
      have hx : L2.ixN (xs.map D.int).length (((0 + k : Nat) : Int).fmod 12) = some j := by
        rw [hj]
        rw [hj] at w
        unfold L2.ixN
        rw [if_pos (Int.natCast_nonneg j), if_pos (by rw [List.length_map, h2, hlen]; exact w.2)]; simp
      rw [setO_eq hx]
      refine ⟨xs.set j (y + z), _, _, rfl, ?_, by rw [List.length_set]; exact h2, ?_, by rw [List.length_set]; exact h4, h5.since (j := c) (.set (by simp)) (by have := f1.1; omega)⟩
      · rw [List.getElem?_set_self (lt_of_get h1), List.map_set]
      · rw [List.getElem?_set_ne hcb]; exact h3
  · obtain ⟨xs, u, v, rfl, h1, h2, h3, h4, h5⟩ := h
    refine hK _ _ ?_
    simp only [Ok_ok, Ok_bind, x_nil, x_one, x_asg, x_exp, x_ret, x_retN, x_pas, x_brk, x_cnt, x_ife, nxQ_nx, nxQ_rt, nxQ_bk, nxQ_ct, rtQ_nx, rtQ_rt, d_var', gv_some, d_non, d_bl, d_int, d_str, d_glb, d_tup, d_lst, d_bin, d_cmp, d_neg, d_nt, d_isN, d_nsN, d_chn, d_and, d_or, d_ife, d_cal, d_bi, d_isi, d_mth, d_ix, d_sl, d_rvs, d_lrg, d_lc, l_nil, l_cons, o_nil, o_cons, oiD, negD, notD, i_rng, i_enm, i_zip, i_cons, g_var, g_tup, g_ix, gs_nil, gs_cons, b_add, b_sub, b_mul, b_modP, b_fdvP, b_pow, b_adds, b_addt, b_addl, b_mull, addL_eq, c_lt, c_le, c_gt, c_ge, c_eq, c_ne, eqO_f, eqO_t, eq_ii, eq_ss, bi_len, lenD_some, len_t, len_r, seqO_l, seqO_s, bi_int, bi_intb, bi_maxii, bi_minii, ofS_some, bi_listr, bi_listt, bi_tupr, bi_tupt, ixO_some, ix_t, ix_r, at_0, at_1, at_2, at_3, sl_t, sl_r, rv_r, set_r, Ok_lim, decide_eq_true_eq, Ok_tstN, Ok_tstP, Ok_tst, tst_t, tst_f, List.getElem?_cons_zero, List.getElem?_cons_succ, List.set_cons_zero, List.set_cons_succ, List.map_cons, List.map_nil, List.length_cons, List.length_nil, List.replicate_succ, List.replicate_zero, List.cons_append, List.nil_append, isN, cnt_nil, cnt_cons, Bool.not_true, Bool.not_false, if_true, if_false, Option.map_some, Nat.reduceAdd, Nat.reduceSub, Nat.reduceLT, Nat.reduceLeDiff, Int.reduceLT, Bool.false_eq_true]
    refine Ok_newA fun p S4 hp ep elp f4 => ?_
    have hcl : ms.length ≤ 63 := by
      have e := congrArg List.length hms
      simp only [cutD, List.length_take, List.length_drop, List.length_map] at e
      omega
    exact q _ _ (by have := h5.1; omega) ⟨c, xs, 0, 0, by have := lt_of_get h1; omega, hp, f4.get0 h1, by omega, by omega, by omega⟩ (h5.trans f4)
end RS

namespace RS
open PySem
/-! ### values alike in kind and worth -/
def B_law_same (c_law_same : Nat) : C :=
  (.cons (.ife (.or (.isN (.var 1)) (.isN (.var 0)))
      (.cons (.ret (.and (.isN (.var 1)) (.isN (.var 0))))
      .nil)
      .nil)
  (.cons (.ife (.or (.isi [.bool] (.var 1)) (.isi [.bool] (.var 0)))
      (.cons (.ret (.and (.isi [.bool] (.var 1)) (.and (.isi [.bool] (.var 0)) (.cmp .eq (.var 0) (.var 1)))))
      .nil)
      .nil)
  (.cons (.ife (.isi [.int, .str] (.var 1))
      (.cons (.ife (.cmp .ne (.isi [.int] (.var 0)) (.isi [.int] (.var 1)))
          (.cons (.ret (.bl false))
          .nil)
          .nil)
      (.cons (.ret (.and (.isi [.int, .str] (.var 0)) (.cmp .eq (.var 0) (.var 1))))
      .nil))
      .nil)
  (.cons (.ife (.or (.cmp .ne (.isi [.tuple] (.var 1)) (.isi [.tuple] (.var 0))) (.cmp .ne (.isi [.list] (.var 1)) (.isi [.list] (.var 0))))
      (.cons (.ret (.bl false))
      .nil)
      .nil)
  (.cons (.ife (.cmp .ne (.bi .len (.cons (.var 0) .nil)) (.bi .len (.cons (.var 1) .nil)))
      (.cons (.ret (.bl false))
      .nil)
      .nil)
  (.cons (.ret (.cmp .nmem (.bl false) (.lc [2, 3] (.cal c_law_same (.cons (.var 2) (.cons (.var 3) .nil))) (.tup (.cons (.var 2) (.cons (.var 3) .nil))) (.zip false (.cons (.var 0) (.cons (.var 1) .nil))) (.bl true))))
  .nil))))))

theorem mapO_eq {α β : Type} {f g : α → Option β} {as : List α} {bs : List β} (h : mapO f as = some bs) (e : ∀ a ∈ as, ∀ b, f a = some b → g a = some b) : mapO g as = some bs := by
  induction as generalizing bs with
  | nil => simpa [mapO] using h
  | cons a as ih =>
    simp only [mapO] at h ⊢
    cases e1 : f a with
    | none => rw [e1] at h; cases h
    | some b =>
      cases e2 : mapO f as with
      | none => rw [e1, e2] at h; cases h
      | some cs =>
        rw [e1, e2] at h
        rw [e a (by simp) b e1, ih e2 fun x hx => e x (by simp [hx])]
        exact h
theorem mapO_len {α β : Type} {f : α → Option β} : ∀ {as : List α} {bs : List β}, mapO f as = some bs → bs.length = as.length
  | [], bs, h => by simp [mapO] at h; subst h; rfl
  | a :: as, bs, h => by
    simp only [mapO] at h
    cases e1 : f a with
    | none => rw [e1] at h; cases h
    | some b =>
      cases e2 : mapO f as with
      | none => rw [e1, e2] at h; cases h
      | some cs => rw [e1, e2] at h; cases h; simp [mapO_len e2]
theorem mapO_get {α β : Type} {f : α → Option β} : ∀ {as : List α} {bs : List β} {i : Nat} {a : α}, mapO f as = some bs → as[i]? = some a → ∃ b, bs[i]? = some b ∧ f a = some b
  | [], bs, i, a, h, e => by simp at e
  | x :: as, bs, i, a, h, e => by
    simp only [mapO] at h
    cases e1 : f x with
    | none => rw [e1] at h; cases h
    | some b =>
      cases e2 : mapO f as with
      | none => rw [e1, e2] at h; cases h
      | some cs =>
        rw [e1, e2] at h
        cases h
        cases i with
        | zero => simp at e; subst e; exact ⟨b, rfl, e1⟩
        | succ i => simp at e; simpa using mapO_get e2 e
theorem pdat_fr {S S' : Hs} (f : Fr [] S S') : ∀ (n : Nat) (d : D) (p : PyData), pdat S n d = some p → pdat S' n d = some p
  | 0, d, p, h => by simp [pdat] at h
  | n + 1, .non, p, h => by simpa only [pdat] using h
  | n + 1, .bl _, p, h => by simpa only [pdat] using h
  | n + 1, .int _, p, h => by simpa only [pdat] using h
  | n + 1, .str _, p, h => by simpa only [pdat] using h
  | n + 1, .tup ds, p, h => by
    simp only [pdat] at h ⊢
    obtain ⟨ps, h1, rfl⟩ := Option.map_eq_some_iff.mp h
    rw [mapO_eq h1 fun a _ b hb => pdat_fr f n a b hb]; rfl
  | n + 1, .ref a, p, h => by
    simp only [pdat] at h ⊢
    cases e : S[a]? with
    | none => rw [e] at h; cases h
    | some o =>
      rw [e] at h
      rw [f.get0 e]
      cases o with
      | lst ds =>
        obtain ⟨ps, h1, rfl⟩ := Option.map_eq_some_iff.mp h
        show (mapO (pdat S' n) ds).map PyData.list = _
        rw [mapO_eq h1 fun a _ b hb => pdat_fr f n a b hb]; rfl
      | scr ds =>
        obtain ⟨ps, h1, rfl⟩ := Option.map_eq_some_iff.mp h
        show (mapO (pdat S' n) ds).map PyData.list = _
        rw [mapO_eq h1 fun a _ b hb => pdat_fr f n a b hb]; rfl
      | _ => cases h
/-- the kinds of data -/
inductive Kd (S : Hs) (n : Nat) : D → PyData → Prop
  | non : Kd S n .non .none
  | bl (b : Bool) : Kd S n (.bl b) (.bool b)
  | int (i : Int) : Kd S n (.int i) (.int i)
  | str (s : Str) : Kd S n (.str s) (.str s)
  | tup (ds : List D) (ps : List PyData) : mapO (pdat S n) ds = some ps → Kd S n (.tup ds) (.tuple ps)
  | lst (a : Nat) (ds : List D) (ps : List PyData) : (S[a]? = some (.lst ds) ∨ S[a]? = some (.scr ds)) → mapO (pdat S n) ds = some ps → Kd S n (.ref a) (.list ps)
theorem kd_of {S : Hs} {n : Nat} {d : D} {p : PyData} (h : pdat S (n + 1) d = some p) : Kd S n d p := by
  cases d with
  | non => cases h; exact .non
  | bl b => cases h; exact .bl b
  | int i => cases h; exact .int i
  | str s => cases h; exact .str s
  | tup ds =>
    simp only [pdat] at h
    obtain ⟨ps, h1, rfl⟩ := Option.map_eq_some_iff.mp h
    exact .tup ds ps h1
  | ref a =>
    simp only [pdat] at h
    cases e : S[a]? with
    | none => rw [e] at h; cases h
    | some o =>
      rw [e] at h
      cases o with
      | lst ds =>
        obtain ⟨ps, h1, rfl⟩ := Option.map_eq_some_iff.mp h
        exact .lst a ds ps (.inl e) h1
      | scr ds =>
        obtain ⟨ps, h1, rfl⟩ := Option.map_eq_some_iff.mp h
        exact .lst a ds ps (.inr e) h1
      | _ => cases h
theorem prs_get : ∀ {xs ys : List D} {i : Nat} {d : D}, (pairsUp xs ys)[i]? = some d → ∃ x y, xs[i]? = some x ∧ ys[i]? = some y ∧ d = .tup [x, y]
  | [], _, i, d, h => by simp [pairsUp] at h
  | _ :: _, [], i, d, h => by simp [pairsUp] at h
  | x :: xs, y :: ys, 0, d, h => by simp [pairsUp] at h; exact ⟨x, y, rfl, rfl, h.symm⟩
  | x :: xs, y :: ys, i + 1, d, h => by simp [pairsUp] at h; simpa using prs_get h
theorem prs_len : ∀ {xs ys : List D}, xs.length = ys.length → (pairsUp xs ys).length = xs.length
  | [], ys, h => by simp [pairsUp]
  | x :: xs, [], h => by simp at h
  | x :: xs, y :: ys, h => by simp [pairsUp, prs_len (by simpa using h)]
mutual
def smallP : PyData → Bool
  | .list xs => decide (xs.length ≤ 1000000) && smallAll xs
  | .tuple xs => decide (xs.length ≤ 1000000) && smallAll xs
  | .none => true
  | .bool _ => true
  | .int _ => true
  | .str _ => true
  | .dict _ => true
def smallAll : List PyData → Bool
  | [] => true
  | x :: xs => smallP x && smallAll xs
end
theorem smallAll_mem : ∀ {ps : List PyData} {p : PyData}, smallAll ps = true → p ∈ ps → smallP p = true
  | x :: xs, p, h, hm => by
    simp only [smallAll, Bool.and_eq_true] at h
    rcases List.mem_cons.mp hm with e | e
    · rw [e]; exact h.1
    · exact smallAll_mem h.2 e
/-- what the def says of any two data, n deep -/
def SameOk (Φ : Nat → List D → Hs → R D) (i n : Nat) : Prop := ∀ (x y : D) (p r : PyData) (S : Hs) (Q : D → Hs → Prop), pdat S n x = some p → pdat S n y = some r → smallP p = true → (∀ b S', (b = true ↔ p = r) → Fr [] S S' → Q (.bl b) S') → Ok (Φ i [x, y] S) Q
theorem eqD_bb {S : Hs} {a b : Bool} : eqD S (.bl a) (.bl b) = some (a == b) := by cases a <;> cases b <;> rfl
theorem same_items {Φ : Nat → List D → Hs → R D} {G : Nat → D} {i n : Nat} {gs : List (Nat × List D)} {xs ys : List D} {ps rs : List PyData} {S : Hs} {ρ : Rho} {Q : D → Hs → Prop} (hΦ : SameOk Φ i n) (hx : mapO (pdat S n) xs = some ps) (hy : mapO (pdat S n) ys = some rs) (hl : xs.length = ys.length) (hs : xs.length ≤ 1000000) (hsm : smallAll ps = true) (hg : ∀ S', Fr [] S S' → held S' gs = true) (hρ : ∃ a b c d, ρ = [a, b, c, d])
    (q : ∀ b S', (b = true ↔ ps = rs) → Fr [] S S' → Q (.bl b) S') :
    Ok (lcGo gs (lcT Φ G [2, 3] (.cal i (.cons (.var 2) (.cons (.var 3) .nil))) (.tup (.cons (.var 2) (.cons (.var 3) .nil))) (.bl true) ρ) (pairsUp xs ys) S) fun r S2 => Ok (lim (pairsUp xs ys).length (newO (.lst r) S2)) fun y S2 => Ok (cmpD S2 .nmem (.bl false) y) Q := by
  obtain ⟨a, b, c, d, rfl⟩ := hρ
  have hpl := mapO_len hx
  have hrl := mapO_len hy
  refine lcGo_ok (fun (k : Nat) (r : List D) (S' : Hs) => Fr [] S S' ∧ ∃ bs : List Bool, r = bs.map D.bl ∧ bs.length = k ∧ ∀ (j : Nat) (b : Bool), bs[j]? = some b → (b = true ↔ ps[j]? = rs[j]?)) ⟨.refl, [], rfl, rfl, fun j b h => by cases h⟩ (fun k r S' _ h => hg S' h.1) (fun k d r S' hd h => ?_) (fun r S' h => ?_)
  · obtain ⟨f, bs, rfl, hk, hb⟩ := h
    obtain ⟨x, y, h1, h2, rfl⟩ := prs_get hd
    obtain ⟨p, hp, hp'⟩ := mapO_get hx h1
    obtain ⟨r, hr, hr'⟩ := mapO_get hy h2
    rw [lcT_eq]
    simp only [wipeR, Ok_ok, Ok_bind, x_nil, x_one, x_asg, x_exp, x_ret, x_retN, x_pas, x_brk, x_cnt, x_ife, nxQ_nx, nxQ_rt, nxQ_bk, nxQ_ct, rtQ_nx, rtQ_rt, d_var', gv_some, d_non, d_bl, d_int, d_str, d_glb, d_tup, d_lst, d_bin, d_cmp, d_neg, d_nt, d_isN, d_nsN, d_chn, d_and, d_or, d_ife, d_cal, d_bi, d_isi, d_mth, d_ix, d_sl, d_rvs, d_lrg, d_lc, l_nil, l_cons, o_nil, o_cons, oiD, negD, notD, i_rng, i_enm, i_zip, i_cons, g_var, g_tup, g_ix, gs_nil, gs_cons, b_add, b_sub, b_mul, b_modP, b_fdvP, b_pow, b_adds, b_addt, b_addl, addL_eq, c_lt, c_le, c_gt, c_ge, c_eq, c_ne, eqO_f, eqO_t, eq_ii, eq_ss, bi_len, lenD_some, len_t, len_r, seqO_l, seqO_s, bi_int, bi_intb, bi_maxii, bi_minii, ofS_some, bi_listr, bi_listt, bi_tupr, bi_tupt, ixO_some, ix_t, ix_r, at_0, at_1, at_2, at_3, sl_t, sl_r, rv_r, set_r, Ok_lim, decide_eq_true_eq, Ok_tstN, Ok_tstP, Ok_tst, tst_t, tst_f, List.getElem?_cons_zero, List.getElem?_cons_succ, List.set_cons_zero, List.set_cons_succ, List.map_cons, List.map_nil, List.length_cons, List.length_nil, List.replicate_succ, List.replicate_zero, List.cons_append, List.nil_append, isN, cnt_nil, cnt_cons, Bool.not_true, Bool.not_false, if_true, if_false, Option.map_some, Nat.reduceAdd, Nat.reduceSub, Nat.reduceLT, Nat.reduceLeDiff, Int.reduceLT, Bool.false_eq_true]
    refine hΦ _ _ p r _ _ (pdat_fr f _ _ _ hp') (pdat_fr f _ _ _ hr') (smallAll_mem hsm (List.mem_of_getElem? hp)) fun b S2 e f2 => ?_
    refine ⟨f.trans f2, bs ++ [b], by simp, by simp [hk], fun j b' hj => ?_⟩
    by_cases hjk : j < bs.length
    · rw [List.getElem?_append_left hjk] at hj
      exact hb j b' hj
    · rw [List.getElem?_append_right (by omega)] at hj
      have : j = k := by
        have := (List.getElem?_eq_some_iff.mp hj).1
        simp at this
        omega
      subst this
      rw [hk, Nat.sub_self] at hj
      simp at hj
      subst hj
      rw [hp, hr, e]
      simp
  · obtain ⟨f, bs, rfl, hk, hb⟩ := h
    rw [prs_len hl] at hk ⊢
    rw [Ok_lim hs]
    refine Ok_newA fun e S2 he _ _ f2 => ?_
    have hm : cmpD S2 .nmem (.bl false) (.ref e) = .ok (.bl (true != (bs.map D.bl).any fun z => eqF z (.bl false))) S2 := by
      show memD S2 true (.bl false) (.ref e) = _
      unfold memD
      simp only [seq_r, he, seqO_l]
      rw [if_pos]
      simp [flatD]
    rw [hm]
    refine q _ _ ?_ (f.trans f2)
    have hany : ((bs.map D.bl).any fun z => eqF z (.bl false)) = bs.any fun z => !z := by
      rw [List.any_map]
      congr 1
      funext z
      cases z <;> rfl
    rw [hany]
    constructor
    · intro h
      refine List.ext_getElem? fun j => ?_
      by_cases hj : j < bs.length
      · have h2 := hb j bs[j] (List.getElem?_eq_getElem hj)
        refine h2.mp ?_
        by_cases z : bs[j] = true
        · exact z
        · have : (bs.any fun z => !z) = true := List.any_eq_true.mpr ⟨bs[j], List.getElem_mem _, by simp [z]⟩
          rw [this] at h
          cases h
      · rw [List.getElem?_eq_none (by omega), List.getElem?_eq_none (by omega)]
    · rintro rfl
      have : (bs.any fun z => !z) = false := by
        rw [List.any_eq_false]
        intro z hz
        obtain ⟨j, hj⟩ := List.mem_iff_getElem?.mp hz
        have := (hb j z hj).mpr rfl
        simp [this]
      rw [this]; rfl
theorem isi_b {S : Hs} {x : D} : isiD S [.bool] x = .ok (.bl (match x with | .bl _ => true | _ => false)) S := by cases x <;> rfl
theorem isi_i {S : Hs} {x : D} : isiD S [.int] x = .ok (.bl (match x with | .int _ => true | .bl _ => true | _ => false)) S := by cases x <;> rfl
theorem isi_is {S : Hs} {x : D} : isiD S [.int, .str] x = .ok (.bl (match x with | .int _ => true | .bl _ => true | .str _ => true | _ => false)) S := by cases x <;> rfl
theorem isi_s {S : Hs} {x : D} : isiD S [.str] x = .ok (.bl (match x with | .str _ => true | _ => false)) S := by cases x <;> rfl
theorem isi_t {S : Hs} {x : D} : isiD S [.tuple] x = .ok (.bl (match x with | .tup _ => true | _ => false)) S := by cases x <;> rfl
theorem isi_l {S : Hs} {x : D} (h : ∀ a, x ≠ .ref a) : isiD S [.list] x = .ok (.bl false) S := by cases x <;> first | rfl | exact (h _ rfl).elim
theorem isi_li {S : Hs} {i : Int} : isiD S [.list] (.int i) = .ok (.bl false) S := rfl
theorem isi_ls {S : Hs} {i : Str} : isiD S [.list] (.str i) = .ok (.bl false) S := rfl
theorem isi_lt {S : Hs} {i : List D} : isiD S [.list] (.tup i) = .ok (.bl false) S := rfl
theorem isi_lr {S : Hs} {a : Nat} {ds : List D} (h : S[a]? = some (.lst ds) ∨ S[a]? = some (.scr ds)) : isiD S [.list] (.ref a) = .ok (.bl true) S := by
  rcases h with h | h <;> simp only [isiD, tysAre, tyIs, h, Bool.or_false]
theorem eqT {S : Hs} {Q : D → Hs → Prop} : Ok (eqO S false (eqD S (.bl true) (.bl true))) Q = Q (.bl true) S := rfl
theorem seqO_or {o : Option O} {ds : List D} (h : o = some (.lst ds) ∨ o = some (.scr ds)) : seqO o = some ds := by rcases h with h | h <;> rw [h] <;> rfl
theorem src_or {S : Hs} {a : Nat} {ds : List D} (h : S[a]? = some (.lst ds) ∨ S[a]? = some (.scr ds)) : srcOf S (.ref a) = some ⟨[(a, ds)], ds⟩ := by rcases h with h | h; exact src_l h; exact src_c h
theorem held_or {S : Hs} {a b : Nat} {ds es : List D} (h : S[a]? = some (.lst ds) ∨ S[a]? = some (.scr ds)) (h2 : S[b]? = some (.lst es) ∨ S[b]? = some (.scr es)) : held S [(a, ds), (b, es)] = true := by
  rcases h with h | h <;> rcases h2 with h2 | h2 <;> simp [held, heldAt, h, h2]
theorem Fr.or {S S' : Hs} {a : Nat} {ds : List D} (f : Fr [] S S') (h : S[a]? = some (.lst ds) ∨ S[a]? = some (.scr ds)) : S'[a]? = some (.lst ds) ∨ S'[a]? = some (.scr ds) := h.imp f.get0 f.get0
theorem bq_tf : (true == false) = false := by decide
theorem bq_ft : (false == true) = false := by decide
theorem bq_tt : (true == true) = true := by decide
theorem bq_ff : (false == false) = true := by decide
theorem same_ok {Φ : Nat → List D → Hs → R D} {G : Nat → D} {W i n : Nat} (hΦ : SameOk Φ i n) {x y : D} {p r : PyData} {S : Hs} {Q : D → Hs → Prop} (hx : pdat S (n + 1) x = some p) (hy : pdat S (n + 1) y = some r) (hsm : smallP p = true) (q : ∀ b S', (b = true ↔ p = r) → Fr [] S S' → Q (.bl b) S') :
    Ok (exec Φ G W (B_law_same i) [some x, some y, none, none] S) (rtQ Q) := by
  have kx := kd_of hx
  have ky := kd_of hy
  clear hx hy
  have no : ∀ {S'}, Fr [] S S' → p ≠ r → Q (.bl false) S' := fun f h => q _ _ (by simp [h]) f
  have yes : ∀ {S'}, Fr [] S S' → p = r → Q (.bl true) S' := fun f h => q _ _ (by simp [h]) f
  unfold B_law_same
  refine x_step fun K1 hK1 => ?_
  cases kx <;> cases ky <;> simp only [Ok_ok, Ok_bind, x_nil, x_one, x_asg, x_exp, x_ret, x_retN, x_pas, x_brk, x_cnt, x_ife, nxQ_nx, nxQ_rt, nxQ_bk, nxQ_ct, rtQ_nx, rtQ_rt, d_var', gv_some, d_non, d_bl, d_int, d_str, d_glb, d_tup, d_lst, d_bin, d_cmp, d_neg, d_nt, d_isN, d_nsN, d_chn, d_and, d_or, d_ife, d_cal, d_bi, d_isi, d_mth, d_ix, d_sl, d_rvs, d_lrg, d_lc, l_nil, l_cons, o_nil, o_cons, oiD, negD, notD, i_rng, i_enm, i_zip, i_cons, g_var, g_tup, g_ix, gs_nil, gs_cons, b_add, b_sub, b_mul, b_modP, b_fdvP, b_pow, b_adds, b_addt, b_addl, addL_eq, c_lt, c_le, c_gt, c_ge, c_eq, c_ne, eqO_f, eqO_t, eq_ii, eq_ss, bi_len, lenD_some, len_t, len_r, seqO_l, seqO_s, bi_int, bi_intb, bi_maxii, bi_minii, ofS_some, bi_listr, bi_listt, bi_tupr, bi_tupt, ixO_some, ix_t, ix_r, at_0, at_1, at_2, at_3, sl_t, sl_r, rv_r, set_r, Ok_lim, decide_eq_true_eq, Ok_tstN, Ok_tstP, Ok_tst, tst_t, tst_f, List.getElem?_cons_zero, List.getElem?_cons_succ, List.set_cons_zero, List.set_cons_succ, List.map_cons, List.map_nil, List.length_cons, List.length_nil, List.replicate_succ, List.replicate_zero, List.cons_append, List.nil_append, isN, cnt_nil, cnt_cons, Bool.not_true, Bool.not_false, if_true, if_false, Option.map_some, Nat.reduceAdd, Nat.reduceSub, Nat.reduceLT, Nat.reduceLeDiff, Int.reduceLT, Bool.false_eq_true] <;> first
    | exact no .refl (by simp)
    | exact yes .refl rfl
    | skip
  all_goals refine hK1 _ _ (x_step fun K2 hK2 => ?_)
  all_goals simp only [Ok_ok, Ok_bind, x_nil, x_one, x_asg, x_exp, x_ret, x_retN, x_pas, x_brk, x_cnt, x_ife, nxQ_nx, nxQ_rt, nxQ_bk, nxQ_ct, rtQ_nx, rtQ_rt, d_var', gv_some, d_non, d_bl, d_int, d_str, d_glb, d_tup, d_lst, d_bin, d_cmp, d_neg, d_nt, d_isN, d_nsN, d_chn, d_and, d_or, d_ife, d_cal, d_bi, d_isi, d_mth, d_ix, d_sl, d_rvs, d_lrg, d_lc, l_nil, l_cons, o_nil, o_cons, oiD, negD, notD, i_rng, i_enm, i_zip, i_cons, g_var, g_tup, g_ix, gs_nil, gs_cons, b_add, b_sub, b_mul, b_modP, b_fdvP, b_pow, b_adds, b_addt, b_addl, addL_eq, c_lt, c_le, c_gt, c_ge, c_eq, c_ne, eqO_f, eqO_t, eq_ii, eq_ss, bi_len, lenD_some, len_t, len_r, seqO_l, seqO_s, bi_int, bi_intb, bi_maxii, bi_minii, ofS_some, bi_listr, bi_listt, bi_tupr, bi_tupt, ixO_some, ix_t, ix_r, at_0, at_1, at_2, at_3, sl_t, sl_r, rv_r, set_r, Ok_lim, decide_eq_true_eq, Ok_tstN, Ok_tstP, Ok_tst, tst_t, tst_f, List.getElem?_cons_zero, List.getElem?_cons_succ, List.set_cons_zero, List.set_cons_succ, List.map_cons, List.map_nil, List.length_cons, List.length_nil, List.replicate_succ, List.replicate_zero, List.cons_append, List.nil_append, isN, cnt_nil, cnt_cons, Bool.not_true, Bool.not_false, if_true, if_false, Option.map_some, Nat.reduceAdd, Nat.reduceSub, Nat.reduceLT, Nat.reduceLeDiff, Int.reduceLT, Bool.false_eq_true, isi_b]
  all_goals first
    | exact no .refl (by simp)
    | (rw [eqD_bb]; simp only [Ok_ok, Ok_bind, x_nil, x_one, x_asg, x_exp, x_ret, x_retN, x_pas, x_brk, x_cnt, x_ife, nxQ_nx, nxQ_rt, nxQ_bk, nxQ_ct, rtQ_nx, rtQ_rt, d_var', gv_some, d_non, d_bl, d_int, d_str, d_glb, d_tup, d_lst, d_bin, d_cmp, d_neg, d_nt, d_isN, d_nsN, d_chn, d_and, d_or, d_ife, d_cal, d_bi, d_isi, d_mth, d_ix, d_sl, d_rvs, d_lrg, d_lc, l_nil, l_cons, o_nil, o_cons, oiD, negD, notD, i_rng, i_enm, i_zip, i_cons, g_var, g_tup, g_ix, gs_nil, gs_cons, b_add, b_sub, b_mul, b_modP, b_fdvP, b_pow, b_adds, b_addt, b_addl, addL_eq, c_lt, c_le, c_gt, c_ge, c_eq, c_ne, eqO_f, eqO_t, eq_ii, eq_ss, bi_len, lenD_some, len_t, len_r, seqO_l, seqO_s, bi_int, bi_intb, bi_maxii, bi_minii, ofS_some, bi_listr, bi_listt, bi_tupr, bi_tupt, ixO_some, ix_t, ix_r, at_0, at_1, at_2, at_3, sl_t, sl_r, rv_r, set_r, Ok_lim, decide_eq_true_eq, Ok_tstN, Ok_tstP, Ok_tst, tst_t, tst_f, List.getElem?_cons_zero, List.getElem?_cons_succ, List.set_cons_zero, List.set_cons_succ, List.map_cons, List.map_nil, List.length_cons, List.length_nil, List.replicate_succ, List.replicate_zero, List.cons_append, List.nil_append, isN, cnt_nil, cnt_cons, Bool.not_true, Bool.not_false, if_true, if_false, Option.map_some, Nat.reduceAdd, Nat.reduceSub, Nat.reduceLT, Nat.reduceLeDiff, Int.reduceLT, Bool.false_eq_true]; exact q _ _ (by simp) .refl)
    | skip
  all_goals refine hK2 _ _ (x_step fun K3 hK3 => ?_)
  all_goals simp only [Ok_ok, Ok_bind, x_nil, x_one, x_asg, x_exp, x_ret, x_retN, x_pas, x_brk, x_cnt, x_ife, nxQ_nx, nxQ_rt, nxQ_bk, nxQ_ct, rtQ_nx, rtQ_rt, d_var', gv_some, d_non, d_bl, d_int, d_str, d_glb, d_tup, d_lst, d_bin, d_cmp, d_neg, d_nt, d_isN, d_nsN, d_chn, d_and, d_or, d_ife, d_cal, d_bi, d_isi, d_mth, d_ix, d_sl, d_rvs, d_lrg, d_lc, l_nil, l_cons, o_nil, o_cons, oiD, negD, notD, i_rng, i_enm, i_zip, i_cons, g_var, g_tup, g_ix, gs_nil, gs_cons, b_add, b_sub, b_mul, b_modP, b_fdvP, b_pow, b_adds, b_addt, b_addl, addL_eq, c_lt, c_le, c_gt, c_ge, c_eq, c_ne, eqO_f, eqO_t, eq_ii, eq_ss, bi_len, lenD_some, len_t, len_r, seqO_l, seqO_s, bi_int, bi_intb, bi_maxii, bi_minii, ofS_some, bi_listr, bi_listt, bi_tupr, bi_tupt, ixO_some, ix_t, ix_r, at_0, at_1, at_2, at_3, sl_t, sl_r, rv_r, set_r, Ok_lim, decide_eq_true_eq, Ok_tstN, Ok_tstP, Ok_tst, tst_t, tst_f, List.getElem?_cons_zero, List.getElem?_cons_succ, List.set_cons_zero, List.set_cons_succ, List.map_cons, List.map_nil, List.length_cons, List.length_nil, List.replicate_succ, List.replicate_zero, List.cons_append, List.nil_append, isN, cnt_nil, cnt_cons, Bool.not_true, Bool.not_false, if_true, if_false, Option.map_some, Nat.reduceAdd, Nat.reduceSub, Nat.reduceLT, Nat.reduceLeDiff, Int.reduceLT, Bool.false_eq_true, isi_is]
  all_goals try (
    refine x_step fun K4 hK4 => ?_
    simp only [Ok_ok, Ok_bind, x_nil, x_one, x_asg, x_exp, x_ret, x_retN, x_pas, x_brk, x_cnt, x_ife, nxQ_nx, nxQ_rt, nxQ_bk, nxQ_ct, rtQ_nx, rtQ_rt, d_var', gv_some, d_non, d_bl, d_int, d_str, d_glb, d_tup, d_lst, d_bin, d_cmp, d_neg, d_nt, d_isN, d_nsN, d_chn, d_and, d_or, d_ife, d_cal, d_bi, d_isi, d_mth, d_ix, d_sl, d_rvs, d_lrg, d_lc, l_nil, l_cons, o_nil, o_cons, oiD, negD, notD, i_rng, i_enm, i_zip, i_cons, g_var, g_tup, g_ix, gs_nil, gs_cons, b_add, b_sub, b_mul, b_modP, b_fdvP, b_pow, b_adds, b_addt, b_addl, addL_eq, c_lt, c_le, c_gt, c_ge, c_eq, c_ne, eqO_f, eqO_t, eq_ii, eq_ss, bi_len, lenD_some, len_t, len_r, seqO_l, seqO_s, bi_int, bi_intb, bi_maxii, bi_minii, ofS_some, bi_listr, bi_listt, bi_tupr, bi_tupt, ixO_some, ix_t, ix_r, at_0, at_1, at_2, at_3, sl_t, sl_r, rv_r, set_r, Ok_lim, decide_eq_true_eq, Ok_tstN, Ok_tstP, Ok_tst, tst_t, tst_f, List.getElem?_cons_zero, List.getElem?_cons_succ, List.set_cons_zero, List.set_cons_succ, List.map_cons, List.map_nil, List.length_cons, List.length_nil, List.replicate_succ, List.replicate_zero, List.cons_append, List.nil_append, isN, cnt_nil, cnt_cons, Bool.not_true, Bool.not_false, if_true, if_false, Option.map_some, Nat.reduceAdd, Nat.reduceSub, Nat.reduceLT, Nat.reduceLeDiff, Int.reduceLT, Bool.false_eq_true, isi_i, isi_is, eqD_bb, bq_tf, bq_ft, bq_tt, bq_ff]
    first
      | exact no .refl (by simp)
      | (refine hK4 _ _ ?_
         simp only [Ok_ok, Ok_bind, x_nil, x_one, x_asg, x_exp, x_ret, x_retN, x_pas, x_brk, x_cnt, x_ife, nxQ_nx, nxQ_rt, nxQ_bk, nxQ_ct, rtQ_nx, rtQ_rt, d_var', gv_some, d_non, d_bl, d_int, d_str, d_glb, d_tup, d_lst, d_bin, d_cmp, d_neg, d_nt, d_isN, d_nsN, d_chn, d_and, d_or, d_ife, d_cal, d_bi, d_isi, d_mth, d_ix, d_sl, d_rvs, d_lrg, d_lc, l_nil, l_cons, o_nil, o_cons, oiD, negD, notD, i_rng, i_enm, i_zip, i_cons, g_var, g_tup, g_ix, gs_nil, gs_cons, b_add, b_sub, b_mul, b_modP, b_fdvP, b_pow, b_adds, b_addt, b_addl, addL_eq, c_lt, c_le, c_gt, c_ge, c_eq, c_ne, eqO_f, eqO_t, eq_ii, eq_ss, bi_len, lenD_some, len_t, len_r, seqO_l, seqO_s, bi_int, bi_intb, bi_maxii, bi_minii, ofS_some, bi_listr, bi_listt, bi_tupr, bi_tupt, ixO_some, ix_t, ix_r, at_0, at_1, at_2, at_3, sl_t, sl_r, rv_r, set_r, Ok_lim, decide_eq_true_eq, Ok_tstN, Ok_tstP, Ok_tst, tst_t, tst_f, List.getElem?_cons_zero, List.getElem?_cons_succ, List.set_cons_zero, List.set_cons_succ, List.map_cons, List.map_nil, List.length_cons, List.length_nil, List.replicate_succ, List.replicate_zero, List.cons_append, List.nil_append, isN, cnt_nil, cnt_cons, Bool.not_true, Bool.not_false, if_true, if_false, Option.map_some, Nat.reduceAdd, Nat.reduceSub, Nat.reduceLT, Nat.reduceLeDiff, Int.reduceLT, Bool.false_eq_true, isi_i, isi_is, eqD_bb, bq_tf, bq_ft, bq_tt, bq_ff]
         first
           | exact no .refl (by simp)
           | exact q _ _ (by simp) .refl))
  all_goals refine hK3 _ _ (x_step fun K5 hK5 => ?_)
  all_goals simp only [Ok_ok, Ok_bind, x_nil, x_one, x_asg, x_exp, x_ret, x_retN, x_pas, x_brk, x_cnt, x_ife, nxQ_nx, nxQ_rt, nxQ_bk, nxQ_ct, rtQ_nx, rtQ_rt, d_var', gv_some, d_non, d_bl, d_int, d_str, d_glb, d_tup, d_lst, d_bin, d_cmp, d_neg, d_nt, d_isN, d_nsN, d_chn, d_and, d_or, d_ife, d_cal, d_bi, d_isi, d_mth, d_ix, d_sl, d_rvs, d_lrg, d_lc, l_nil, l_cons, o_nil, o_cons, oiD, negD, notD, i_rng, i_enm, i_zip, i_cons, g_var, g_tup, g_ix, gs_nil, gs_cons, b_add, b_sub, b_mul, b_modP, b_fdvP, b_pow, b_adds, b_addt, b_addl, addL_eq, c_lt, c_le, c_gt, c_ge, c_eq, c_ne, eqO_f, eqO_t, eq_ii, eq_ss, bi_len, lenD_some, len_t, len_r, seqO_l, seqO_s, bi_int, bi_intb, bi_maxii, bi_minii, ofS_some, bi_listr, bi_listt, bi_tupr, bi_tupt, ixO_some, ix_t, ix_r, at_0, at_1, at_2, at_3, sl_t, sl_r, rv_r, set_r, Ok_lim, decide_eq_true_eq, Ok_tstN, Ok_tstP, Ok_tst, tst_t, tst_f, List.getElem?_cons_zero, List.getElem?_cons_succ, List.set_cons_zero, List.set_cons_succ, List.map_cons, List.map_nil, List.length_cons, List.length_nil, List.replicate_succ, List.replicate_zero, List.cons_append, List.nil_append, isN, cnt_nil, cnt_cons, Bool.not_true, Bool.not_false, if_true, if_false, Option.map_some, Nat.reduceAdd, Nat.reduceSub, Nat.reduceLT, Nat.reduceLeDiff, Int.reduceLT, Bool.false_eq_true, isi_t, eqD_bb, bq_tf, bq_ft, bq_tt, bq_ff]
  all_goals first
    | exact no .refl (by simp)
    | skip
  case int.lst =>
    rename_i i a ds ps h1 h2
    simp only [Ok_ok, Ok_bind, x_nil, x_one, x_asg, x_exp, x_ret, x_retN, x_pas, x_brk, x_cnt, x_ife, nxQ_nx, nxQ_rt, nxQ_bk, nxQ_ct, rtQ_nx, rtQ_rt, d_var', gv_some, d_non, d_bl, d_int, d_str, d_glb, d_tup, d_lst, d_bin, d_cmp, d_neg, d_nt, d_isN, d_nsN, d_chn, d_and, d_or, d_ife, d_cal, d_bi, d_isi, d_mth, d_ix, d_sl, d_rvs, d_lrg, d_lc, l_nil, l_cons, o_nil, o_cons, oiD, negD, notD, i_rng, i_enm, i_zip, i_cons, g_var, g_tup, g_ix, gs_nil, gs_cons, b_add, b_sub, b_mul, b_modP, b_fdvP, b_pow, b_adds, b_addt, b_addl, addL_eq, c_lt, c_le, c_gt, c_ge, c_eq, c_ne, eqO_f, eqO_t, eq_ii, eq_ss, bi_len, lenD_some, len_t, len_r, seqO_l, seqO_s, bi_int, bi_intb, bi_maxii, bi_minii, ofS_some, bi_listr, bi_listt, bi_tupr, bi_tupt, ixO_some, ix_t, ix_r, at_0, at_1, at_2, at_3, sl_t, sl_r, rv_r, set_r, Ok_lim, decide_eq_true_eq, Ok_tstN, Ok_tstP, Ok_tst, tst_t, tst_f, List.getElem?_cons_zero, List.getElem?_cons_succ, List.set_cons_zero, List.set_cons_succ, List.map_cons, List.map_nil, List.length_cons, List.length_nil, List.replicate_succ, List.replicate_zero, List.cons_append, List.nil_append, isN, cnt_nil, cnt_cons, Bool.not_true, Bool.not_false, if_true, if_false, Option.map_some, Nat.reduceAdd, Nat.reduceSub, Nat.reduceLT, Nat.reduceLeDiff, Int.reduceLT, Bool.false_eq_true, isi_lr h1, isi_li, isi_ls, isi_lt, eqD_bb, bq_tf, bq_ft, bq_tt, bq_ff]
    exact no .refl (by simp)
  case str.lst =>
    rename_i i a ds ps h1 h2
    simp only [Ok_ok, Ok_bind, x_nil, x_one, x_asg, x_exp, x_ret, x_retN, x_pas, x_brk, x_cnt, x_ife, nxQ_nx, nxQ_rt, nxQ_bk, nxQ_ct, rtQ_nx, rtQ_rt, d_var', gv_some, d_non, d_bl, d_int, d_str, d_glb, d_tup, d_lst, d_bin, d_cmp, d_neg, d_nt, d_isN, d_nsN, d_chn, d_and, d_or, d_ife, d_cal, d_bi, d_isi, d_mth, d_ix, d_sl, d_rvs, d_lrg, d_lc, l_nil, l_cons, o_nil, o_cons, oiD, negD, notD, i_rng, i_enm, i_zip, i_cons, g_var, g_tup, g_ix, gs_nil, gs_cons, b_add, b_sub, b_mul, b_modP, b_fdvP, b_pow, b_adds, b_addt, b_addl, addL_eq, c_lt, c_le, c_gt, c_ge, c_eq, c_ne, eqO_f, eqO_t, eq_ii, eq_ss, bi_len, lenD_some, len_t, len_r, seqO_l, seqO_s, bi_int, bi_intb, bi_maxii, bi_minii, ofS_some, bi_listr, bi_listt, bi_tupr, bi_tupt, ixO_some, ix_t, ix_r, at_0, at_1, at_2, at_3, sl_t, sl_r, rv_r, set_r, Ok_lim, decide_eq_true_eq, Ok_tstN, Ok_tstP, Ok_tst, tst_t, tst_f, List.getElem?_cons_zero, List.getElem?_cons_succ, List.set_cons_zero, List.set_cons_succ, List.map_cons, List.map_nil, List.length_cons, List.length_nil, List.replicate_succ, List.replicate_zero, List.cons_append, List.nil_append, isN, cnt_nil, cnt_cons, Bool.not_true, Bool.not_false, if_true, if_false, Option.map_some, Nat.reduceAdd, Nat.reduceSub, Nat.reduceLT, Nat.reduceLeDiff, Int.reduceLT, Bool.false_eq_true, isi_lr h1, isi_li, isi_ls, isi_lt, eqD_bb, bq_tf, bq_ft, bq_tt, bq_ff]
    exact no .refl (by simp)
  case tup.tup =>
    rename_i ds ps h1 es rs h2
    simp only [Ok_ok, Ok_bind, x_nil, x_one, x_asg, x_exp, x_ret, x_retN, x_pas, x_brk, x_cnt, x_ife, nxQ_nx, nxQ_rt, nxQ_bk, nxQ_ct, rtQ_nx, rtQ_rt, d_var', gv_some, d_non, d_bl, d_int, d_str, d_glb, d_tup, d_lst, d_bin, d_cmp, d_neg, d_nt, d_isN, d_nsN, d_chn, d_and, d_or, d_ife, d_cal, d_bi, d_isi, d_mth, d_ix, d_sl, d_rvs, d_lrg, d_lc, l_nil, l_cons, o_nil, o_cons, oiD, negD, notD, i_rng, i_enm, i_zip, i_cons, g_var, g_tup, g_ix, gs_nil, gs_cons, b_add, b_sub, b_mul, b_modP, b_fdvP, b_pow, b_adds, b_addt, b_addl, addL_eq, c_lt, c_le, c_gt, c_ge, c_eq, c_ne, eqO_f, eqO_t, eq_ii, eq_ss, bi_len, lenD_some, len_t, len_r, seqO_l, seqO_s, bi_int, bi_intb, bi_maxii, bi_minii, ofS_some, bi_listr, bi_listt, bi_tupr, bi_tupt, ixO_some, ix_t, ix_r, at_0, at_1, at_2, at_3, sl_t, sl_r, rv_r, set_r, Ok_lim, decide_eq_true_eq, Ok_tstN, Ok_tstP, Ok_tst, tst_t, tst_f, List.getElem?_cons_zero, List.getElem?_cons_succ, List.set_cons_zero, List.set_cons_succ, List.map_cons, List.map_nil, List.length_cons, List.length_nil, List.replicate_succ, List.replicate_zero, List.cons_append, List.nil_append, isN, cnt_nil, cnt_cons, Bool.not_true, Bool.not_false, if_true, if_false, Option.map_some, Nat.reduceAdd, Nat.reduceSub, Nat.reduceLT, Nat.reduceLeDiff, Int.reduceLT, Bool.false_eq_true, isi_lt, eqD_bb, bq_tf, bq_ft, bq_tt, bq_ff]
    refine hK5 _ _ (x_step fun K6 hK6 => ?_)
    simp only [Ok_ok, Ok_bind, x_nil, x_one, x_asg, x_exp, x_ret, x_retN, x_pas, x_brk, x_cnt, x_ife, nxQ_nx, nxQ_rt, nxQ_bk, nxQ_ct, rtQ_nx, rtQ_rt, d_var', gv_some, d_non, d_bl, d_int, d_str, d_glb, d_tup, d_lst, d_bin, d_cmp, d_neg, d_nt, d_isN, d_nsN, d_chn, d_and, d_or, d_ife, d_cal, d_bi, d_isi, d_mth, d_ix, d_sl, d_rvs, d_lrg, d_lc, l_nil, l_cons, o_nil, o_cons, oiD, negD, notD, i_rng, i_enm, i_zip, i_cons, g_var, g_tup, g_ix, gs_nil, gs_cons, b_add, b_sub, b_mul, b_modP, b_fdvP, b_pow, b_adds, b_addt, b_addl, addL_eq, c_lt, c_le, c_gt, c_ge, c_eq, c_ne, eqO_f, eqO_t, eq_ii, eq_ss, bi_len, lenD_some, len_t, len_r, seqO_l, seqO_s, bi_int, bi_intb, bi_maxii, bi_minii, ofS_some, bi_listr, bi_listt, bi_tupr, bi_tupt, ixO_some, ix_t, ix_r, at_0, at_1, at_2, at_3, sl_t, sl_r, rv_r, set_r, Ok_lim, decide_eq_true_eq, Ok_tstN, Ok_tstP, Ok_tst, tst_t, tst_f, List.getElem?_cons_zero, List.getElem?_cons_succ, List.set_cons_zero, List.set_cons_succ, List.map_cons, List.map_nil, List.length_cons, List.length_nil, List.replicate_succ, List.replicate_zero, List.cons_append, List.nil_append, isN, cnt_nil, cnt_cons, Bool.not_true, Bool.not_false, if_true, if_false, Option.map_some, Nat.reduceAdd, Nat.reduceSub, Nat.reduceLT, Nat.reduceLeDiff, Int.reduceLT, Bool.false_eq_true, decide_not, Bool.not_eq_true']
    have l1 := mapO_len h1
    have l2 := mapO_len h2
    simp only [smallP, Bool.and_eq_true, decide_eq_true_eq] at hsm
    split
    · rename_i hne
      refine no .refl fun e => ?_
      cases e
      simp at hne
      omega
    · rename_i hne
      simp at hne
      refine hK6 _ _ ?_
      have hne : ds.length = es.length := by omega
      simp only [Ok_ok, Ok_bind, x_nil, x_one, x_asg, x_exp, x_ret, x_retN, x_pas, x_brk, x_cnt, x_ife, nxQ_nx, nxQ_rt, nxQ_bk, nxQ_ct, rtQ_nx, rtQ_rt, d_var', gv_some, d_non, d_bl, d_int, d_str, d_glb, d_tup, d_lst, d_bin, d_cmp, d_neg, d_nt, d_isN, d_nsN, d_chn, d_and, d_or, d_ife, d_cal, d_bi, d_isi, d_mth, d_ix, d_sl, d_rvs, d_lrg, d_lc, l_nil, l_cons, o_nil, o_cons, oiD, negD, notD, i_rng, i_enm, i_zip, i_cons, g_var, g_tup, g_ix, gs_nil, gs_cons, b_add, b_sub, b_mul, b_modP, b_fdvP, b_pow, b_adds, b_addt, b_addl, addL_eq, c_lt, c_le, c_gt, c_ge, c_eq, c_ne, eqO_f, eqO_t, eq_ii, eq_ss, bi_len, lenD_some, len_t, len_r, seqO_l, seqO_s, bi_int, bi_intb, bi_maxii, bi_minii, ofS_some, bi_listr, bi_listt, bi_tupr, bi_tupt, ixO_some, ix_t, ix_r, at_0, at_1, at_2, at_3, sl_t, sl_r, rv_r, set_r, Ok_lim, decide_eq_true_eq, Ok_tstN, Ok_tstP, Ok_tst, tst_t, tst_f, List.getElem?_cons_zero, List.getElem?_cons_succ, List.set_cons_zero, List.set_cons_succ, List.map_cons, List.map_nil, List.length_cons, List.length_nil, List.replicate_succ, List.replicate_zero, List.cons_append, List.nil_append, isN, cnt_nil, cnt_cons, Bool.not_true, Bool.not_false, if_true, if_false, Option.map_some, Nat.reduceAdd, Nat.reduceSub, Nat.reduceLT, Nat.reduceLeDiff, Int.reduceLT, Bool.false_eq_true]
      rw [zp_tt]
      exact same_items hΦ h1 h2 hne (by omega) hsm.2 (fun _ _ => held_nil) ⟨_, _, _, _, rfl⟩ fun b S' e f => q b S' (by rw [e]; simp) f
  case lst.lst =>
    rename_i a ds ps g1 h1 b es rs g2 h2
    simp only [Ok_ok, Ok_bind, x_nil, x_one, x_asg, x_exp, x_ret, x_retN, x_pas, x_brk, x_cnt, x_ife, nxQ_nx, nxQ_rt, nxQ_bk, nxQ_ct, rtQ_nx, rtQ_rt, d_var', gv_some, d_non, d_bl, d_int, d_str, d_glb, d_tup, d_lst, d_bin, d_cmp, d_neg, d_nt, d_isN, d_nsN, d_chn, d_and, d_or, d_ife, d_cal, d_bi, d_isi, d_mth, d_ix, d_sl, d_rvs, d_lrg, d_lc, l_nil, l_cons, o_nil, o_cons, oiD, negD, notD, i_rng, i_enm, i_zip, i_cons, g_var, g_tup, g_ix, gs_nil, gs_cons, b_add, b_sub, b_mul, b_modP, b_fdvP, b_pow, b_adds, b_addt, b_addl, addL_eq, c_lt, c_le, c_gt, c_ge, c_eq, c_ne, eqO_f, eqO_t, eq_ii, eq_ss, bi_len, lenD_some, len_t, len_r, seqO_l, seqO_s, bi_int, bi_intb, bi_maxii, bi_minii, ofS_some, bi_listr, bi_listt, bi_tupr, bi_tupt, ixO_some, ix_t, ix_r, at_0, at_1, at_2, at_3, sl_t, sl_r, rv_r, set_r, Ok_lim, decide_eq_true_eq, Ok_tstN, Ok_tstP, Ok_tst, tst_t, tst_f, List.getElem?_cons_zero, List.getElem?_cons_succ, List.set_cons_zero, List.set_cons_succ, List.map_cons, List.map_nil, List.length_cons, List.length_nil, List.replicate_succ, List.replicate_zero, List.cons_append, List.nil_append, isN, cnt_nil, cnt_cons, Bool.not_true, Bool.not_false, if_true, if_false, Option.map_some, Nat.reduceAdd, Nat.reduceSub, Nat.reduceLT, Nat.reduceLeDiff, Int.reduceLT, Bool.false_eq_true, isi_lr g1, isi_lr g2, eqD_bb, bq_tf, bq_ft, bq_tt, bq_ff]
    refine hK5 _ _ (x_step fun K6 hK6 => ?_)
    simp only [Ok_ok, Ok_bind, x_nil, x_one, x_asg, x_exp, x_ret, x_retN, x_pas, x_brk, x_cnt, x_ife, nxQ_nx, nxQ_rt, nxQ_bk, nxQ_ct, rtQ_nx, rtQ_rt, d_var', gv_some, d_non, d_bl, d_int, d_str, d_glb, d_tup, d_lst, d_bin, d_cmp, d_neg, d_nt, d_isN, d_nsN, d_chn, d_and, d_or, d_ife, d_cal, d_bi, d_isi, d_mth, d_ix, d_sl, d_rvs, d_lrg, d_lc, l_nil, l_cons, o_nil, o_cons, oiD, negD, notD, i_rng, i_enm, i_zip, i_cons, g_var, g_tup, g_ix, gs_nil, gs_cons, b_add, b_sub, b_mul, b_modP, b_fdvP, b_pow, b_adds, b_addt, b_addl, addL_eq, c_lt, c_le, c_gt, c_ge, c_eq, c_ne, eqO_f, eqO_t, eq_ii, eq_ss, bi_len, lenD_some, len_t, len_r, seqO_l, seqO_s, bi_int, bi_intb, bi_maxii, bi_minii, ofS_some, bi_listr, bi_listt, bi_tupr, bi_tupt, ixO_some, ix_t, ix_r, at_0, at_1, at_2, at_3, sl_t, sl_r, rv_r, set_r, Ok_lim, decide_eq_true_eq, Ok_tstN, Ok_tstP, Ok_tst, tst_t, tst_f, List.getElem?_cons_zero, List.getElem?_cons_succ, List.set_cons_zero, List.set_cons_succ, List.map_cons, List.map_nil, List.length_cons, List.length_nil, List.replicate_succ, List.replicate_zero, List.cons_append, List.nil_append, isN, cnt_nil, cnt_cons, Bool.not_true, Bool.not_false, if_true, if_false, Option.map_some, Nat.reduceAdd, Nat.reduceSub, Nat.reduceLT, Nat.reduceLeDiff, Int.reduceLT, Bool.false_eq_true, seqO_or g1, seqO_or g2, decide_not, Bool.not_eq_true']
    have l1 := mapO_len h1
    have l2 := mapO_len h2
    simp only [smallP, Bool.and_eq_true, decide_eq_true_eq] at hsm
    split
    · rename_i hne
      refine no .refl fun e => ?_
      cases e
      simp at hne
      omega
    · rename_i hne
      simp at hne
      refine hK6 _ _ ?_
      have hne : ds.length = es.length := by omega
      simp only [Ok_ok, Ok_bind, x_nil, x_one, x_asg, x_exp, x_ret, x_retN, x_pas, x_brk, x_cnt, x_ife, nxQ_nx, nxQ_rt, nxQ_bk, nxQ_ct, rtQ_nx, rtQ_rt, d_var', gv_some, d_non, d_bl, d_int, d_str, d_glb, d_tup, d_lst, d_bin, d_cmp, d_neg, d_nt, d_isN, d_nsN, d_chn, d_and, d_or, d_ife, d_cal, d_bi, d_isi, d_mth, d_ix, d_sl, d_rvs, d_lrg, d_lc, l_nil, l_cons, o_nil, o_cons, oiD, negD, notD, i_rng, i_enm, i_zip, i_cons, g_var, g_tup, g_ix, gs_nil, gs_cons, b_add, b_sub, b_mul, b_modP, b_fdvP, b_pow, b_adds, b_addt, b_addl, addL_eq, c_lt, c_le, c_gt, c_ge, c_eq, c_ne, eqO_f, eqO_t, eq_ii, eq_ss, bi_len, lenD_some, len_t, len_r, seqO_l, seqO_s, bi_int, bi_intb, bi_maxii, bi_minii, ofS_some, bi_listr, bi_listt, bi_tupr, bi_tupt, ixO_some, ix_t, ix_r, at_0, at_1, at_2, at_3, sl_t, sl_r, rv_r, set_r, Ok_lim, decide_eq_true_eq, Ok_tstN, Ok_tstP, Ok_tst, tst_t, tst_f, List.getElem?_cons_zero, List.getElem?_cons_succ, List.set_cons_zero, List.set_cons_succ, List.map_cons, List.map_nil, List.length_cons, List.length_nil, List.replicate_succ, List.replicate_zero, List.cons_append, List.nil_append, isN, cnt_nil, cnt_cons, Bool.not_true, Bool.not_false, if_true, if_false, Option.map_some, Nat.reduceAdd, Nat.reduceSub, Nat.reduceLT, Nat.reduceLeDiff, Int.reduceLT, Bool.false_eq_true]
      have hz : zpD false S [.ref a, .ref b] = .ok ⟨[(a, ds), (b, es)], pairsUp ds es⟩ S := by simp [zpD, src_or g1, src_or g2, zpD_, ofO]
      rw [hz]
      exact same_items hΦ h1 h2 hne (by omega) hsm.2 (fun _ f => held_or (f.or g1) (f.or g2)) ⟨_, _, _, _, rfl⟩ fun b S' e f => q b S' (by rw [e]; simp) f
end RS

namespace RS
open PySem
/-! ### data by themselves, texts -/
mutual
/-- no thing that changes within, all texts fit for a comparison -/
def pureD : D → Bool
  | .non => true
  | .bl _ => true
  | .int _ => true
  | .str s => PyData.strOk s
  | .tup ds => pureDs ds
  | .ref _ => false
def pureDs : List D → Bool
  | [] => true
  | d :: ds => pureD d && pureDs ds
end
mutual
def dp : D → PyData
  | .non => .none
  | .bl b => .bool b
  | .int i => .int i
  | .str s => .str s
  | .tup ds => .tuple (dps ds)
  | .ref _ => .none
def dps : List D → List PyData
  | [] => []
  | d :: ds => dp d :: dps ds
end
mutual
def dep : D → Nat
  | .tup ds => deps ds + 1
  | .non => 0
  | .bl _ => 0
  | .int _ => 0
  | .str _ => 0
  | .ref _ => 0
def deps : List D → Nat
  | [] => 0
  | d :: ds => max (dep d) (deps ds)
end
theorem dps_len : ∀ ds : List D, (dps ds).length = ds.length
  | [] => rfl
  | d :: ds => by simp only [dps, List.length_cons, dps_len ds]
mutual
theorem pdat_pure {S : Hs} : ∀ (n : Nat) (d : D), pureD d = true → dep d < n → pdat S n d = some (dp d)
  | 0, d, _, h => absurd h (Nat.not_lt_zero _)
  | n + 1, .non, _, _ => by simp only [pdat, dp]
  | n + 1, .bl _, _, _ => by simp only [pdat, dp]
  | n + 1, .int _, _, _ => by simp only [pdat, dp]
  | n + 1, .str _, _, _ => by simp only [pdat, dp]
  | n + 1, .ref _, h, _ => by simp [pureD] at h
  | n + 1, .tup ds, h, hd => by
    simp only [pureD] at h
    simp only [dep] at hd
    simp only [pdat, dp, pdats_pure n ds h (by omega), Option.map_some]
theorem pdats_pure {S : Hs} : ∀ (n : Nat) (ds : List D), pureDs ds = true → deps ds < n → mapO (pdat S n) ds = some (dps ds)
  | _, [], _, _ => by simp only [mapO, dps]
  | n, d :: ds, h, hd => by
    simp only [pureDs, Bool.and_eq_true] at h
    simp only [deps] at hd
    simp only [mapO, pdat_pure n d h.1 (by omega), pdats_pure n ds h.2 (by omega), dps]
end
mutual
theorem lay_pure : ∀ d : D, pureD d = true → (dp d).canLay0 = true ∧ (dp d).depth ≤ dep d
  | .non, _ => ⟨rfl, Nat.le_refl _⟩
  | .bl _, _ => ⟨rfl, Nat.le_refl _⟩
  | .int _, _ => ⟨rfl, Nat.le_refl _⟩
  | .str _, h => ⟨by simpa only [pureD, dp, PyData.canLay0] using h, by simp [dp, PyData.depth]⟩
  | .ref _, h => by simp [pureD] at h
  | .tup ds, h => by
    simp only [pureD] at h
    obtain ⟨h1, h2⟩ := lays_pure ds h
    exact ⟨by simpa only [dp, PyData.canLay0] using h1, by simp only [dp, PyData.depth, dep]; omega⟩
theorem lays_pure : ∀ ds : List D, pureDs ds = true → PyData.canLayAll0 (dps ds) = true ∧ PyData.depthAll (dps ds) ≤ deps ds
  | [], _ => ⟨rfl, Nat.le_refl _⟩
  | d :: ds, h => by
    simp only [pureDs, Bool.and_eq_true] at h
    obtain ⟨h1, h2⟩ := lay_pure d h.1
    obtain ⟨h3, h4⟩ := lays_pure ds h.2
    exact ⟨by simp only [dps, PyData.canLayAll0, h1, h3, Bool.and_self], by simp only [dps, PyData.depthAll, deps]; omega⟩
end
/-- a list of data -/
theorem shp_lst {S : Hs} {a : Nat} {ds : List D} (h : S[a]? = some (.lst ds)) (hp : pureDs ds = true) (hd : deps ds ≤ 60) : shp S (.ref a) = some (.list (dps ds)) := by
  have e : pdat S 66 (.ref a) = some (.list (dps ds)) := by
    simp only [pdat, h]
    rw [pdats_pure 65 ds hp (by omega)]; rfl
  obtain ⟨h1, h2⟩ := lays_pure ds hp
  unfold shp
  rw [e]
  show (if SeqAt.shaped (.list (dps ds)) = true then _ else _) = _
  rw [if_pos]
  unfold SeqAt.shaped
  simp only [PyData.canLay0, h1, Bool.true_and, decide_eq_true_eq]
  show PyData.depthAll (dps ds) + 1 ≤ 64
  omega
theorem shp_pure {S : Hs} {d : D} (hp : pureD d = true) (hd : dep d ≤ 60) : shp S d = some (dp d) := by
  have e : pdat S 66 d = some (dp d) := pdat_pure 66 d hp (by omega)
  obtain ⟨h1, h2⟩ := lay_pure d hp
  unfold shp
  rw [e]
  show (if SeqAt.shaped (dp d) = true then _ else _) = _
  rw [if_pos]
  unfold SeqAt.shaped
  simp only [h1, Bool.true_and, decide_eq_true_eq]
  omega
theorem eq_nil {S : Hs} {a b : Nat} {ds : List D} (h : S[a]? = some (.lst ds)) (h2 : S[b]? = some (.lst [])) (hp : pureDs ds = true) (hd : deps ds ≤ 60) : eqD S (.ref a) (.ref b) = some (decide (ds = [])) := by
  simp only [eqD, shp_lst h hp hd, shp_lst h2 rfl (by decide)]
  cases ds <;> simp [dps, PyData.eqv, PyData.eqvAll]
theorem pureDs_mem {ds : List D} : pureDs ds = true ↔ ∀ d ∈ ds, pureD d = true := by
  induction ds with
  | nil => simp [pureDs]
  | cons d ds ih => simp [pureDs, ih]
theorem deps_le {ds : List D} {n : Nat} : deps ds ≤ n ↔ ∀ d ∈ ds, dep d ≤ n := by
  induction ds with
  | nil => simp [deps]
  | cons d ds ih => simp only [deps, List.mem_cons, forall_eq_or_imp, ← ih]; omega
/-- small letters -/
def LowS (s : Str) : Prop := ∀ c ∈ s.cps.toList, 97 ≤ c ∧ c ≤ 122
theorem LowS.ok {s : Str} (h : LowS s) : PyData.strOk s = true := by
  unfold PyData.strOk
  rw [← Array.all_toList, List.all_eq_true]
  intro c hc
  have := h c hc
  simp only [decide_eq_true_eq]
  omega
theorem join_signs (cs : List Nat) : Txt.join "" (cs.map fun c => (⟨#[c]⟩ : Str)) = ⟨cs.toArray⟩ := by
  rw [TL.join_eq]
  have e : TL.tl (Str.join "" (cs.map fun c => (⟨#[c]⟩ : Str))) = cs := by
    rw [TL.tl_join]
    have e0 : TL.tl ("" : Str) = [] := by decide
    rw [e0, List.map_map]
    induction cs with
    | nil => rfl
    | cons c cs ih =>
      cases cs with
      | nil => rfl
      | cons d ds =>
        simp only [List.map_cons, TL.joinL] at ih ⊢
        rw [ih]; rfl
  rw [← TL.mk_tl (Str.join "" (cs.map fun c => (⟨#[c]⟩ : Str))), e]
end RS

namespace RS
open PySem
def B_law_draw_stock (c_law_one_of c_law_take c_law_letters : Nat) : C :=
  (.cons (.asg (.tup (.cons (.var 4) (.cons (.var 5) (.cons (.var 6) (.cons (.var 7) .nil))))) (.tup (.cons (.cal c_law_one_of (.cons (.var 0) (.cons (.lst (.cons (.int 1) (.cons (.int 2) (.cons (.int 2) (.cons (.int 2) (.cons (.int 3) (.cons (.int 3) (.cons (.int 4) .nil)))))))) .nil))) (.cons (.int 1) (.cons (.lst .nil) (.cons (.cmp .eq (.cal c_law_take (.cons (.var 0) (.cons (.int 2) .nil))) (.int 0)) .nil))))))
  (.cons (.for_ (.var 2) (.rng (.cons (.var 4) .nil))
      (.cons (.asg (.var 8) (.bin .sub (.bin .sub (.var 4) (.int 1)) (.var 2)))
      (.cons (.asg (.tup (.cons (.var 12) (.cons (.var 13) (.cons (.var 14) .nil)))) (.tup (.cons (.bin .fdv (.int 100) (.bin .mul (.var 5) (.ix (.lst (.cons (.int 1) (.cons (.int 2) (.cons (.int 4) (.cons (.int 8) .nil))))) (.var 8)))) (.cons (.bin .sub (.var 1) (.var 8)) (.cons (.lst .nil) .nil)))))
      (.cons (.for_ (.var 9) (.rng (.cons (.int 1) (.cons (.bin .add (.bi .min (.cons (.int 10) (.cons (.var 13) .nil))) (.int 1)) .nil)))
          (.cons (.for_ (.var 15) (.rng (.cons (.ife (.var 7) (.int 1) (.bin .add (.var 9) (.int 1))) .nil))
              (.cons (.asg (.var 17) (.bin .mul (.var 9) (.bin .add (.var 15) (.int 1))))
              (.cons (.asg (.var 18) (.bin .add (.bin .mul (.lst (.cons (.bl false) .nil)) (.bi .int (.cons (.cmp .lt (.var 17) (.var 12)) .nil))) (.bin .mul (.lst (.cons (.bl true) .nil)) (.bi .int (.cons (.cmp .lt (.bin .mul (.int 2) (.var 17)) (.var 12)) .nil)))))
              (.cons (.asg (.var 14) (.bin .add (.var 14) (.lc [16] (.tup (.cons (.var 9) (.cons (.var 15) (.cons (.var 16) .nil)))) (.var 16) (.cons (.var 18) .nil) (.bl true))))
              .nil))))
          .nil))
      (.cons (.asg (.tup (.cons (.var 9) (.cons (.var 15) (.cons (.var 16) .nil)))) (.cal c_law_one_of (.cons (.var 0) (.cons (.var 14) .nil))))
      (.cons (.asg (.var 5) (.bin .mul (.var 5) (.bin .add (.bin .mul (.bin .mul (.var 9) (.bin .add (.var 15) (.int 1))) (.bin .add (.int 1) (.bi .int (.cons (.var 16) .nil)))) (.int 1))))
      (.cons (.asg (.var 1) (.bin .sub (.var 1) (.var 9)))
      (.cons (.asg (.var 10) (.sl (.cal c_law_letters .nil) (.cons (.bin .add (.int 3) (.bin .mul (.int 5) (.var 2))) .nil) (.cons (.bin .add (.int 8) (.bin .mul (.int 5) (.var 2))) .nil)))
      (.cons (.asg (.var 11) (.cal c_law_one_of (.cons (.var 0) (.cons (.lst (.cons (.str "ab") (.cons (.str "abc") (.cons (.var 10) (.cons (.var 10) (.cons (.cal c_law_letters .nil) .nil)))))) .nil))))
      (.cons (.exp (.mth .append (.var 6) (.cons (.tup (.cons (.mth .join (.str "") (.cons (.lc [19] (.cal c_law_one_of (.cons (.var 0) (.cons (.var 11) .nil))) (.var 19) (.rng (.cons (.var 9) .nil)) (.bl true)) .nil)) (.cons (.var 15) (.cons (.var 16) .nil)))) .nil)))
      .nil))))))))))
  (.cons (.asg (.var 3) (.lst .nil))
  (.cons (.whl (.cmp .ne (.var 6) (.lst .nil))
      (.cons (.exp (.mth .append (.var 3) (.cons (.mth .pop (.var 6) (.cons (.cal c_law_take (.cons (.var 0) (.cons (.bi .len (.cons (.var 6) .nil)) .nil))) .nil)) .nil)))
      .nil))
  (.cons (.ret (.bi .tuple (.cons (.var 3) .nil)))
  .nil)))))

def B_law_draw_cut (c_law_take c_law_one_of : Nat) : C :=
  (.cons (.asg (.tup (.cons (.var 3) (.cons (.var 4) .nil))) (.tup (.cons (.lst .nil) (.cons (.lst .nil) .nil))))
  (.cons (.for_ (.tup (.cons (.var 5) (.cons (.var 6) .nil))) (.enm (.cons (.var 1) .nil))
      (.cons (.asg (.var 7) (.lrg (.cons (.bi .len (.cons (.ix (.var 6) (.int 0)) .nil)) .nil)))
      (.cons (.for_ (.var 2) (.rng (.cons (.cal c_law_take (.cons (.var 0) (.cons (.bin .add (.ix (.var 6) (.int 1)) (.int 1)) .nil))) .nil))
          (.cons (.exp (.mth .pop (.var 7) (.cons (.cal c_law_take (.cons (.var 0) (.cons (.bi .len (.cons (.var 7) .nil)) .nil))) .nil)))
          .nil))
      (.cons (.ife (.and (.ix (.var 6) (.int 2)) (.cmp .eq (.cal c_law_take (.cons (.var 0) (.cons (.int 2) .nil))) (.int 1)))
          (.cons (.asg (.var 7) (.rvs (.var 7)))
          .nil)
          .nil)
      (.cons (.exp (.mth .append (.var 3) (.cons (.lc [9] (.tup (.cons (.var 5) (.cons (.var 9) .nil))) (.var 9) (.cons (.var 7) .nil) (.bl true)) .nil)))
      .nil)))))
  (.cons (.for_ (.var 2) (.rng (.cons (.bi .sum (.cons (.lc [8] (.bi .len (.cons (.var 8) .nil)) (.var 8) (.cons (.var 3) .nil) (.bl true)) .nil)) .nil))
      (.cons (.asg (.var 8) (.cal c_law_one_of (.cons (.var 0) (.cons (.lc [8] (.var 8) (.var 8) (.cons (.var 3) .nil) (.cmp .ne (.var 8) (.lst .nil))) .nil))))
      (.cons (.exp (.mth .append (.var 4) (.cons (.mth .pop (.var 8) (.cons (.int 0) .nil)) .nil)))
      .nil)))
  (.cons (.ret (.var 4))
  .nil))))

def LettersOk (Φ : Nat → List D → Hs → R D) (i : Nat) : Prop := ∀ (S : Hs) (Q : D → Hs → Prop), Q (.str "abcdefghijklmnopqrstuvwxyz") S → Ok (Φ i [] S) Q
/-- a reel: its signs, what may be left out, whether it may be turned about -/
def ReelD (d : D) : Prop := ∃ (s : Str) (loss : Int) (turns : Bool), d = .tup [.str s, .int loss, .bl turns] ∧ LowS s ∧ 1 ≤ s.length ∧ s.length ≤ 10 ∧ 0 ≤ loss ∧ loss ≤ s.length
def facR : D → Int
  | .tup [.str s, .int loss, .bl turns] => (s.length : Int) * (loss + 1) * (1 + if turns then 1 else 0) + 1
  | _ => 1
def lenR : D → Int
  | .tup [.str s, .int loss, .bl turns] => s.length
  | _ => 0
def prodR : List D → Int
  | [] => 1
  | d :: ds => facR d * prodR ds
def sumR : List D → Int
  | [] => 0
  | d :: ds => lenR d + sumR ds
theorem prodR_perm {a b : List D} (h : a.Perm b) : prodR a = prodR b := by
  induction h with
  | nil => rfl
  | cons x _ ih => simp only [prodR, ih]
  | swap x y l => simp only [prodR]; rw [Int.mul_left_comm]
  | trans _ _ h1 h2 => exact h1.trans h2
theorem sumR_perm {a b : List D} (h : a.Perm b) : sumR a = sumR b := by
  induction h with
  | nil => rfl
  | cons x _ ih => simp only [sumR, ih]
  | swap x y l => simp only [sumR]; omega
  | trans _ _ h1 h2 => exact h1.trans h2
theorem prodR_app (a : List D) (d : D) : prodR (a ++ [d]) = prodR a * facR d := by
  induction a with
  | nil => simp [prodR]
  | cons x a ih => simp only [List.cons_append, prodR, ih, Int.mul_assoc]
theorem sumR_app (a : List D) (d : D) : sumR (a ++ [d]) = sumR a + lenR d := by
  induction a with
  | nil => simp [sumR]
  | cons x a ih => simp only [List.cons_append, sumR, ih]; omega
/-- a way that a reel may be -/
def WayD (left room : Int) (d : D) : Prop := ∃ (many loss : Int) (turns : Bool), d = .tup [.int many, .int loss, .bl turns] ∧ 1 ≤ many ∧ many ≤ 10 ∧ many ≤ left ∧ 0 ≤ loss ∧ loss ≤ many ∧ many * (loss + 1) * (1 + if turns then 1 else 0) < room
def w2 (j : Int) : Int := if j = 0 then 1 else if j = 1 then 2 else if j = 2 then 4 else 8
theorem w2_at {j : Int} (h0 : 0 ≤ j) (h1 : j ≤ 3) : L2.atI [D.int 1, .int 2, .int 4, .int 8] j = some (.int (w2 j)) := by
  have : j = 0 ∨ j = 1 ∨ j = 2 ∨ j = 3 := by omega
  rcases this with rfl | rfl | rfl | rfl <;> rfl
theorem room_of {x : Int} (h0 : 1 ≤ x) (h1 : x ≤ 50) : 2 ≤ (100 : Int).fdiv x ∧ (100 : Int).fdiv x * x ≤ 100 ∧ (100 : Int).fdiv x ≤ 100 := by
  rw [Int.fdiv_eq_ediv_of_nonneg _ (by omega)]
  refine ⟨(Int.le_ediv_iff_mul_le (by omega)).mpr (by omega), Int.ediv_mul_le _ (by omega), Int.ediv_le_self _ (by omega)⟩
theorem ite_int {c : Prop} [Decidable c] {X : Int → Prop} {a b : Int} (h : ∀ n, n = a ∨ n = b → X n) : if c then X a else X b := by
  split
  · exact h _ (.inl rfl)
  · exact h _ (.inr rfl)
theorem mulL_eq {S : Hs} {k : Int} {d : D} {Q : D → Hs → Prop} (h0 : 0 ≤ k) (h1 : k ≤ 1) : Ok (mulL S k (some (.lst [d]))) Q = Ok (newO (.lst (rep k.toNat [d])) S) Q := by
  have : mulL S k (some (.lst [d])) = newO (.lst (rep k.toNat [d])) S := by
    simp only [mulL]
    rw [if_pos]
    have e : (2 : Int) ^ 63 = 9223372036854775808 := by decide
    rw [e]
    refine ⟨by omega, by omega, ?_⟩
    simp only [List.length_cons, List.length_nil]
    have : k.toNat ≤ 1 := by omega
    exact Nat.le_trans (by omega : (0 + 1) * k.toNat ≤ 1) (by decide)
  rw [this]
theorem rep_mem {k : Int} {d x : D} (h : x ∈ rep k.toNat [d]) (h1 : k ≤ 1) : x = d ∧ k = 1 := by
  have : k ≤ 0 ∨ k = 1 := by omega
  rcases this with e | e
  · have : k.toNat = 0 := by omega
    rw [this] at h
    simp [rep] at h
  · subst e
    have : x ∈ [d] := by simpa [rep] using h
    simpa using this
theorem rep_len {k : Int} {d : D} (h1 : k ≤ 1) : (rep k.toNat [d]).length ≤ 1 := by
  have : k.toNat = 0 ∨ k.toNat = 1 := by omega
  rcases this with e | e <;> rw [e] <;> simp [rep]
theorem rep_one {d : D} : rep (1 : Int).toNat [d] = [d] := by simp [rep]
theorem Fr.two {p f : Nat} {S S1 S2 : Hs} (a : Fr [p] S S1) (b : Fr [f, p] S1 S2) (h : S.length ≤ f) : Fr [p] S S2 := a.since b h
theorem Pen.fr {S S' : Hs} {p k : Nat} {m : List Nat} (h : Pen S p k) (f : Fr m S S') (hm : ∀ i ∈ m, p < i) : Pen S' p k := by
  obtain ⟨c, cells, at_, val, h1, h2, h3, h4, h5, h6⟩ := h
  refine ⟨c, cells, at_, val, h1, f.get h2 fun z => ?_, f.get h3 fun z => ?_, h4, h5, h6⟩
  · exact absurd (hm _ z) (by omega)
  · exact absurd (hm _ z) (by omega)
theorem Pen.set {S : Hs} {p k f : Nat} {o : O} (h : Pen S p k) (hf : p < f) : Pen (S.set f o) p k := h.fr (m := [f]) (.set (by simp)) fun i hi => by rw [List.mem_singleton.mp hi]; exact hf
theorem Pen.lt {S : Hs} {p k : Nat} (h : Pen S p k) : p < S.length := by obtain ⟨_, _, _, _, _, h, _⟩ := h; exact lt_of_get h
def BWays : C :=
              (.cons (.asg (.var 17) (.bin .mul (.var 9) (.bin .add (.var 15) (.int 1))))
              (.cons (.asg (.var 18) (.bin .add (.bin .mul (.lst (.cons (.bl false) .nil)) (.bi .int (.cons (.cmp .lt (.var 17) (.var 12)) .nil))) (.bin .mul (.lst (.cons (.bl true) .nil)) (.bi .int (.cons (.cmp .lt (.bin .mul (.int 2) (.var 17)) (.var 12)) .nil)))))
              (.cons (.asg (.var 14) (.bin .add (.var 14) (.lc [16] (.tup (.cons (.var 9) (.cons (.var 15) (.cons (.var 16) .nil)))) (.var 16) (.cons (.var 18) .nil) (.bl true))))
              .nil)))
def BWaysFor : C :=
  (.for_ (.var 9) (.rng (.cons (.int 1) (.cons (.bin .add (.bi .min (.cons (.int 10) (.cons (.var 13) .nil))) (.int 1)) .nil)))
          (.cons (.for_ (.var 15) (.rng (.cons (.ife (.var 7) (.int 1) (.bin .add (.var 9) (.int 1))) .nil))
              (.cons (.asg (.var 17) (.bin .mul (.var 9) (.bin .add (.var 15) (.int 1))))
              (.cons (.asg (.var 18) (.bin .add (.bin .mul (.lst (.cons (.bl false) .nil)) (.bi .int (.cons (.cmp .lt (.var 17) (.var 12)) .nil))) (.bin .mul (.lst (.cons (.bl true) .nil)) (.bi .int (.cons (.cmp .lt (.bin .mul (.int 2) (.var 17)) (.var 12)) .nil)))))
              (.cons (.asg (.var 14) (.bin .add (.var 14) (.lc [16] (.tup (.cons (.var 9) (.cons (.var 15) (.cons (.var 16) .nil)))) (.var 16) (.cons (.var 18) .nil) (.bl true))))
              .nil))))
          .nil))
theorem ways_ok {Φ : Nat → List D → Hs → R D} {G : Nat → D} {W sm : Nat} {many loss room left : Int} {xs : List D} {S : Hs} {Q : Fl → Hs → Prop} {e0 e1 e2 e3 e4 e5 e6 e7 e8 u10 u11 u13 v16 v17 v18 v19 : Option D} (hsm : S[sm]? = some (.lst xs)) (h1 : 1 ≤ many) (h2 : many ≤ 10) (h3 : many ≤ left) (h4 : 0 ≤ loss) (h5 : loss ≤ many) (hx : xs.length ≤ 1000)
    (q : ∀ (b : Nat) (ys : List D) (T : Hs) (v17 v18 : Option D), (∀ d ∈ ys, WayD left room d) → ys.length ≤ 2 → (many = 1 → loss = 0 → 2 ≤ room → ys ≠ []) → T[b]? = some (.lst (xs ++ ys)) → S.length ≤ b → Fr [] S T → Q (.nx [e0, e1, e2, e3, e4, e5, e6, e7, e8, some (.int many), u10, u11, some (.int room), u13, some (.ref b), some (.int loss), v16, v17, v18, v19]) T) :
    Ok (exec Φ G W BWays [e0, e1, e2, e3, e4, e5, e6, e7, e8, some (.int many), u10, u11, some (.int room), u13, some (.ref sm), some (.int loss), v16, v17, v18, v19] S) Q := by
  unfold BWays
  refine x_step fun K6 hK6 => ?_
  simp only [Ok_ok, Ok_bind, x_nil, x_one, x_asg, x_exp, x_ret, x_retN, x_pas, x_brk, x_cnt, x_ife, nxQ_nx, nxQ_rt, nxQ_bk, nxQ_ct, rtQ_nx, rtQ_rt, d_var', gv_some, d_non, d_bl, d_int, d_str, d_glb, d_tup, d_lst, d_bin, d_cmp, d_neg, d_nt, d_isN, d_nsN, d_chn, d_and, d_or, d_ife, d_cal, d_bi, d_isi, d_mth, d_ix, d_sl, d_rvs, d_lrg, d_lc, l_nil, l_cons, o_nil, o_cons, oiD, negD, notD, i_rng, i_enm, i_zip, i_cons, g_var, g_tup, g_ix, gs_nil, gs_cons, b_add, b_sub, b_mul, b_modP, b_fdvP, b_pow, b_adds, b_addt, b_addl, b_mull, addL_eq, c_lt, c_le, c_gt, c_ge, c_eq, c_ne, eqO_f, eqO_t, eq_ii, eq_ss, bi_len, lenD_some, len_t, len_r, seqO_l, seqO_s, bi_int, bi_intb, bi_maxii, bi_minii, ofS_some, bi_listr, bi_listt, bi_tupr, bi_tupt, ixO_some, ix_t, ix_r, at_0, at_1, at_2, at_3, sl_t, sl_r, rv_r, set_r, Ok_lim, decide_eq_true_eq, Ok_tstN, Ok_tstP, Ok_tst, tst_t, tst_f, List.getElem?_cons_zero, List.getElem?_cons_succ, List.set_cons_zero, List.set_cons_succ, List.map_cons, List.map_nil, List.length_cons, List.length_nil, List.replicate_succ, List.replicate_zero, List.cons_append, List.nil_append, isN, cnt_nil, cnt_cons, Bool.not_true, Bool.not_false, if_true, if_false, Option.map_some, Nat.reduceAdd, Nat.reduceSub, Nat.reduceLT, Nat.reduceLeDiff, Int.reduceLT, Bool.false_eq_true]
  obtain ⟨y0, y1⟩ := mul_bound (a := many) (b := loss + 1) (m := 10) (n := 11) (by omega) (by omega) (by omega) (by omega)
  rw [if_pos (mulOk_r (by omega) (by omega))]
  generalize hworth : many * (loss + 1) = worth at y0 y1
  refine hK6 _ _ (x_step fun K7 hK7 => ?_)
  simp only [Ok_ok, Ok_bind, x_nil, x_one, x_asg, x_exp, x_ret, x_retN, x_pas, x_brk, x_cnt, x_ife, nxQ_nx, nxQ_rt, nxQ_bk, nxQ_ct, rtQ_nx, rtQ_rt, d_var', gv_some, d_non, d_bl, d_int, d_str, d_glb, d_tup, d_lst, d_bin, d_cmp, d_neg, d_nt, d_isN, d_nsN, d_chn, d_and, d_or, d_ife, d_cal, d_bi, d_isi, d_mth, d_ix, d_sl, d_rvs, d_lrg, d_lc, l_nil, l_cons, o_nil, o_cons, oiD, negD, notD, i_rng, i_enm, i_zip, i_cons, g_var, g_tup, g_ix, gs_nil, gs_cons, b_add, b_sub, b_mul, b_modP, b_fdvP, b_pow, b_adds, b_addt, b_addl, b_mull, addL_eq, c_lt, c_le, c_gt, c_ge, c_eq, c_ne, eqO_f, eqO_t, eq_ii, eq_ss, bi_len, lenD_some, len_t, len_r, seqO_l, seqO_s, bi_int, bi_intb, bi_maxii, bi_minii, ofS_some, bi_listr, bi_listt, bi_tupr, bi_tupt, ixO_some, ix_t, ix_r, at_0, at_1, at_2, at_3, sl_t, sl_r, rv_r, set_r, Ok_lim, decide_eq_true_eq, Ok_tstN, Ok_tstP, Ok_tst, tst_t, tst_f, List.getElem?_cons_zero, List.getElem?_cons_succ, List.set_cons_zero, List.set_cons_succ, List.map_cons, List.map_nil, List.length_cons, List.length_nil, List.replicate_succ, List.replicate_zero, List.cons_append, List.nil_append, isN, cnt_nil, cnt_cons, Bool.not_true, Bool.not_false, if_true, if_false, Option.map_some, Nat.reduceAdd, Nat.reduceSub, Nat.reduceLT, Nat.reduceLeDiff, Int.reduceLT, Bool.false_eq_true]
  refine Ok_newA fun b1 T1 hb1 eb1 elb1 g1 => ?_
  simp only [Ok_ok, Ok_bind, x_nil, x_one, x_asg, x_exp, x_ret, x_retN, x_pas, x_brk, x_cnt, x_ife, nxQ_nx, nxQ_rt, nxQ_bk, nxQ_ct, rtQ_nx, rtQ_rt, d_var', gv_some, d_non, d_bl, d_int, d_str, d_glb, d_tup, d_lst, d_bin, d_cmp, d_neg, d_nt, d_isN, d_nsN, d_chn, d_and, d_or, d_ife, d_cal, d_bi, d_isi, d_mth, d_ix, d_sl, d_rvs, d_lrg, d_lc, l_nil, l_cons, o_nil, o_cons, oiD, negD, notD, i_rng, i_enm, i_zip, i_cons, g_var, g_tup, g_ix, gs_nil, gs_cons, b_add, b_sub, b_mul, b_modP, b_fdvP, b_pow, b_adds, b_addt, b_addl, b_mull, addL_eq, c_lt, c_le, c_gt, c_ge, c_eq, c_ne, eqO_f, eqO_t, eq_ii, eq_ss, bi_len, lenD_some, len_t, len_r, seqO_l, seqO_s, bi_int, bi_intb, bi_maxii, bi_minii, ofS_some, bi_listr, bi_listt, bi_tupr, bi_tupt, ixO_some, ix_t, ix_r, at_0, at_1, at_2, at_3, sl_t, sl_r, rv_r, set_r, Ok_lim, decide_eq_true_eq, Ok_tstN, Ok_tstP, Ok_tst, tst_t, tst_f, List.getElem?_cons_zero, List.getElem?_cons_succ, List.set_cons_zero, List.set_cons_succ, List.map_cons, List.map_nil, List.length_cons, List.length_nil, List.replicate_succ, List.replicate_zero, List.cons_append, List.nil_append, isN, cnt_nil, cnt_cons, Bool.not_true, Bool.not_false, if_true, if_false, Option.map_some, Nat.reduceAdd, Nat.reduceSub, Nat.reduceLT, Nat.reduceLeDiff, Int.reduceLT, Bool.false_eq_true, hb1]
  rw [mulL_eq (by split <;> decide) (by split <;> decide)]
  refine Ok_newA fun b2 T2 hb2 eb2 elb2 g2 => ?_
  refine Ok_newA fun b3 T3 hb3 eb3 elb3 g3 => ?_
  rw [if_pos (mulOk_l (by decide) (by decide))]
  simp only [Ok_ok, Ok_bind, x_nil, x_one, x_asg, x_exp, x_ret, x_retN, x_pas, x_brk, x_cnt, x_ife, nxQ_nx, nxQ_rt, nxQ_bk, nxQ_ct, rtQ_nx, rtQ_rt, d_var', gv_some, d_non, d_bl, d_int, d_str, d_glb, d_tup, d_lst, d_bin, d_cmp, d_neg, d_nt, d_isN, d_nsN, d_chn, d_and, d_or, d_ife, d_cal, d_bi, d_isi, d_mth, d_ix, d_sl, d_rvs, d_lrg, d_lc, l_nil, l_cons, o_nil, o_cons, oiD, negD, notD, i_rng, i_enm, i_zip, i_cons, g_var, g_tup, g_ix, gs_nil, gs_cons, b_add, b_sub, b_mul, b_modP, b_fdvP, b_pow, b_adds, b_addt, b_addl, b_mull, addL_eq, c_lt, c_le, c_gt, c_ge, c_eq, c_ne, eqO_f, eqO_t, eq_ii, eq_ss, bi_len, lenD_some, len_t, len_r, seqO_l, seqO_s, bi_int, bi_intb, bi_maxii, bi_minii, ofS_some, bi_listr, bi_listt, bi_tupr, bi_tupt, ixO_some, ix_t, ix_r, at_0, at_1, at_2, at_3, sl_t, sl_r, rv_r, set_r, Ok_lim, decide_eq_true_eq, Ok_tstN, Ok_tstP, Ok_tst, tst_t, tst_f, List.getElem?_cons_zero, List.getElem?_cons_succ, List.set_cons_zero, List.set_cons_succ, List.map_cons, List.map_nil, List.length_cons, List.length_nil, List.replicate_succ, List.replicate_zero, List.cons_append, List.nil_append, isN, cnt_nil, cnt_cons, Bool.not_true, Bool.not_false, if_true, if_false, Option.map_some, Nat.reduceAdd, Nat.reduceSub, Nat.reduceLT, Nat.reduceLeDiff, Int.reduceLT, Bool.false_eq_true, hb3]
  rw [mulL_eq (by split <;> decide) (by split <;> decide)]
  refine Ok_newA fun b4 T4 hb4 eb4 elb4 g4 => ?_
  simp only [Ok_ok, Ok_bind, x_nil, x_one, x_asg, x_exp, x_ret, x_retN, x_pas, x_brk, x_cnt, x_ife, nxQ_nx, nxQ_rt, nxQ_bk, nxQ_ct, rtQ_nx, rtQ_rt, d_var', gv_some, d_non, d_bl, d_int, d_str, d_glb, d_tup, d_lst, d_bin, d_cmp, d_neg, d_nt, d_isN, d_nsN, d_chn, d_and, d_or, d_ife, d_cal, d_bi, d_isi, d_mth, d_ix, d_sl, d_rvs, d_lrg, d_lc, l_nil, l_cons, o_nil, o_cons, oiD, negD, notD, i_rng, i_enm, i_zip, i_cons, g_var, g_tup, g_ix, gs_nil, gs_cons, b_add, b_sub, b_mul, b_modP, b_fdvP, b_pow, b_adds, b_addt, b_addl, b_mull, addL_eq, c_lt, c_le, c_gt, c_ge, c_eq, c_ne, eqO_f, eqO_t, eq_ii, eq_ss, bi_len, lenD_some, len_t, len_r, seqO_l, seqO_s, bi_int, bi_intb, bi_maxii, bi_minii, ofS_some, bi_listr, bi_listt, bi_tupr, bi_tupt, ixO_some, ix_t, ix_r, at_0, at_1, at_2, at_3, sl_t, sl_r, rv_r, set_r, Ok_lim, decide_eq_true_eq, Ok_tstN, Ok_tstP, Ok_tst, tst_t, tst_f, List.getElem?_cons_zero, List.getElem?_cons_succ, List.set_cons_zero, List.set_cons_succ, List.map_cons, List.map_nil, List.length_cons, List.length_nil, List.replicate_succ, List.replicate_zero, List.cons_append, List.nil_append, isN, cnt_nil, cnt_cons, Bool.not_true, Bool.not_false, if_true, if_false, Option.map_some, Nat.reduceAdd, Nat.reduceSub, Nat.reduceLT, Nat.reduceLeDiff, Int.reduceLT, Bool.false_eq_true, g4.get0 (g3.get0 hb2), hb4]
  have k1 : (if worth < room then (1 : Int) else 0) ≤ 1 := by split <;> decide
  have k2 : (if 2 * worth < room then (1 : Int) else 0) ≤ 1 := by split <;> decide
  have z1 := rep_len (d := .bl false) k1
  have z2 := rep_len (d := .bl true) k2
  rw [Ok_lim (by omega)]
  refine Ok_newA fun b5 T5 hb5 eb5 elb5 g5 => ?_
  have G5 : Fr [] S T5 := (((g1.trans g2).trans g3).trans g4).trans g5
  generalize hws : rep (if worth < room then (1 : Int) else 0).toNat [D.bl false] ++ rep (if 2 * worth < room then (1 : Int) else 0).toNat [D.bl true] = ws at hb5
  have wl : ws.length ≤ 2 := by rw [← hws, List.length_append]; omega
  have wm : ∀ d ∈ ws, ∃ t : Bool, d = .bl t ∧ worth * (1 + if t then 1 else 0) < room := by
    intro d hd
    rw [← hws] at hd
    rcases List.mem_append.mp hd with h | h
    · obtain ⟨rfl, h⟩ := rep_mem h k1
      refine ⟨false, rfl, ?_⟩
      split at h
      · simp only [Bool.false_eq_true, if_false]; omega
      · cases h
    · obtain ⟨rfl, h⟩ := rep_mem h k2
      refine ⟨true, rfl, ?_⟩
      split at h
      · simp only [if_true]; omega
      · cases h
  have wn : worth < room → ws ≠ [] := by
    intro h e
    rw [if_pos h, rep_one] at hws
    rw [← hws] at e
    cases e
  clear hb1 hb2 hb3 hb4 eb1 eb2 eb3 eb4 elb1 elb2 elb3 elb4 g1 g2 g3 g4 g5 hws z1 z2 k1 k2
  refine hK7 _ _ ?_
  simp only [Ok_ok, Ok_bind, x_nil, x_one, x_asg, x_exp, x_ret, x_retN, x_pas, x_brk, x_cnt, x_ife, nxQ_nx, nxQ_rt, nxQ_bk, nxQ_ct, rtQ_nx, rtQ_rt, d_var', gv_some, d_non, d_bl, d_int, d_str, d_glb, d_tup, d_lst, d_bin, d_cmp, d_neg, d_nt, d_isN, d_nsN, d_chn, d_and, d_or, d_ife, d_cal, d_bi, d_isi, d_mth, d_ix, d_sl, d_rvs, d_lrg, d_lc, l_nil, l_cons, o_nil, o_cons, oiD, negD, notD, i_rng, i_enm, i_zip, i_cons, g_var, g_tup, g_ix, gs_nil, gs_cons, b_add, b_sub, b_mul, b_modP, b_fdvP, b_pow, b_adds, b_addt, b_addl, b_mull, addL_eq, c_lt, c_le, c_gt, c_ge, c_eq, c_ne, eqO_f, eqO_t, eq_ii, eq_ss, bi_len, lenD_some, len_t, len_r, seqO_l, seqO_s, bi_int, bi_intb, bi_maxii, bi_minii, ofS_some, bi_listr, bi_listt, bi_tupr, bi_tupt, ixO_some, ix_t, ix_r, at_0, at_1, at_2, at_3, sl_t, sl_r, rv_r, set_r, Ok_lim, decide_eq_true_eq, Ok_tstN, Ok_tstP, Ok_tst, tst_t, tst_f, List.getElem?_cons_zero, List.getElem?_cons_succ, List.set_cons_zero, List.set_cons_succ, List.map_cons, List.map_nil, List.length_cons, List.length_nil, List.replicate_succ, List.replicate_zero, List.cons_append, List.nil_append, isN, cnt_nil, cnt_cons, Bool.not_true, Bool.not_false, if_true, if_false, Option.map_some, Nat.reduceAdd, Nat.reduceSub, Nat.reduceLT, Nat.reduceLeDiff, Int.reduceLT, Bool.false_eq_true, G5.get0 hsm]
  rw [src_l hb5]
  simp only [Ok_ok, Ok_bind, x_nil, x_one, x_asg, x_exp, x_ret, x_retN, x_pas, x_brk, x_cnt, x_ife, nxQ_nx, nxQ_rt, nxQ_bk, nxQ_ct, rtQ_nx, rtQ_rt, d_var', gv_some, d_non, d_bl, d_int, d_str, d_glb, d_tup, d_lst, d_bin, d_cmp, d_neg, d_nt, d_isN, d_nsN, d_chn, d_and, d_or, d_ife, d_cal, d_bi, d_isi, d_mth, d_ix, d_sl, d_rvs, d_lrg, d_lc, l_nil, l_cons, o_nil, o_cons, oiD, negD, notD, i_rng, i_enm, i_zip, i_cons, g_var, g_tup, g_ix, gs_nil, gs_cons, b_add, b_sub, b_mul, b_modP, b_fdvP, b_pow, b_adds, b_addt, b_addl, b_mull, addL_eq, c_lt, c_le, c_gt, c_ge, c_eq, c_ne, eqO_f, eqO_t, eq_ii, eq_ss, bi_len, lenD_some, len_t, len_r, seqO_l, seqO_s, bi_int, bi_intb, bi_maxii, bi_minii, ofS_some, bi_listr, bi_listt, bi_tupr, bi_tupt, ixO_some, ix_t, ix_r, at_0, at_1, at_2, at_3, sl_t, sl_r, rv_r, set_r, Ok_lim, decide_eq_true_eq, Ok_tstN, Ok_tstP, Ok_tst, tst_t, tst_f, List.getElem?_cons_zero, List.getElem?_cons_succ, List.set_cons_zero, List.set_cons_succ, List.map_cons, List.map_nil, List.length_cons, List.length_nil, List.replicate_succ, List.replicate_zero, List.cons_append, List.nil_append, isN, cnt_nil, cnt_cons, Bool.not_true, Bool.not_false, if_true, if_false, Option.map_some, Nat.reduceAdd, Nat.reduceSub, Nat.reduceLT, Nat.reduceLeDiff, Int.reduceLT, Bool.false_eq_true, ofO_some]
  refine lcGo_pure (fun S' => Fr [] T5 S') (fun d => some (.tup [.int many, .int loss, d])) .refl (fun S' h => held_l (h.get0 hb5)) (fun d hd S' h => ?_) (fun S' h => ?_)
  · rw [lcT_eq]
    simp only [wipeR, Ok_ok, Ok_bind, x_nil, x_one, x_asg, x_exp, x_ret, x_retN, x_pas, x_brk, x_cnt, x_ife, nxQ_nx, nxQ_rt, nxQ_bk, nxQ_ct, rtQ_nx, rtQ_rt, d_var', gv_some, d_non, d_bl, d_int, d_str, d_glb, d_tup, d_lst, d_bin, d_cmp, d_neg, d_nt, d_isN, d_nsN, d_chn, d_and, d_or, d_ife, d_cal, d_bi, d_isi, d_mth, d_ix, d_sl, d_rvs, d_lrg, d_lc, l_nil, l_cons, o_nil, o_cons, oiD, negD, notD, i_rng, i_enm, i_zip, i_cons, g_var, g_tup, g_ix, gs_nil, gs_cons, b_add, b_sub, b_mul, b_modP, b_fdvP, b_pow, b_adds, b_addt, b_addl, b_mull, addL_eq, c_lt, c_le, c_gt, c_ge, c_eq, c_ne, eqO_f, eqO_t, eq_ii, eq_ss, bi_len, lenD_some, len_t, len_r, seqO_l, seqO_s, bi_int, bi_intb, bi_maxii, bi_minii, ofS_some, bi_listr, bi_listt, bi_tupr, bi_tupt, ixO_some, ix_t, ix_r, at_0, at_1, at_2, at_3, sl_t, sl_r, rv_r, set_r, Ok_lim, decide_eq_true_eq, Ok_tstN, Ok_tstP, Ok_tst, tst_t, tst_f, List.getElem?_cons_zero, List.getElem?_cons_succ, List.set_cons_zero, List.set_cons_succ, List.map_cons, List.map_nil, List.length_cons, List.length_nil, List.replicate_succ, List.replicate_zero, List.cons_append, List.nil_append, isN, cnt_nil, cnt_cons, Bool.not_true, Bool.not_false, if_true, if_false, Option.map_some, Nat.reduceAdd, Nat.reduceSub, Nat.reduceLT, Nat.reduceLeDiff, Int.reduceLT, Bool.false_eq_true]
    exact ⟨trivial, h⟩
  · rw [Ok_lim (by omega)]
    refine Ok_newA fun b6 T6 hb6 eb6 elb6 g6 => ?_
    simp only [Ok_ok, Ok_bind, x_nil, x_one, x_asg, x_exp, x_ret, x_retN, x_pas, x_brk, x_cnt, x_ife, nxQ_nx, nxQ_rt, nxQ_bk, nxQ_ct, rtQ_nx, rtQ_rt, d_var', gv_some, d_non, d_bl, d_int, d_str, d_glb, d_tup, d_lst, d_bin, d_cmp, d_neg, d_nt, d_isN, d_nsN, d_chn, d_and, d_or, d_ife, d_cal, d_bi, d_isi, d_mth, d_ix, d_sl, d_rvs, d_lrg, d_lc, l_nil, l_cons, o_nil, o_cons, oiD, negD, notD, i_rng, i_enm, i_zip, i_cons, g_var, g_tup, g_ix, gs_nil, gs_cons, b_add, b_sub, b_mul, b_modP, b_fdvP, b_pow, b_adds, b_addt, b_addl, b_mull, addL_eq, c_lt, c_le, c_gt, c_ge, c_eq, c_ne, eqO_f, eqO_t, eq_ii, eq_ss, bi_len, lenD_some, len_t, len_r, seqO_l, seqO_s, bi_int, bi_intb, bi_maxii, bi_minii, ofS_some, bi_listr, bi_listt, bi_tupr, bi_tupt, ixO_some, ix_t, ix_r, at_0, at_1, at_2, at_3, sl_t, sl_r, rv_r, set_r, Ok_lim, decide_eq_true_eq, Ok_tstN, Ok_tstP, Ok_tst, tst_t, tst_f, List.getElem?_cons_zero, List.getElem?_cons_succ, List.set_cons_zero, List.set_cons_succ, List.map_cons, List.map_nil, List.length_cons, List.length_nil, List.replicate_succ, List.replicate_zero, List.cons_append, List.nil_append, isN, cnt_nil, cnt_cons, Bool.not_true, Bool.not_false, if_true, if_false, Option.map_some, Nat.reduceAdd, Nat.reduceSub, Nat.reduceLT, Nat.reduceLeDiff, Int.reduceLT, Bool.false_eq_true, g6.get0 (h.get0 (G5.get0 hsm)), hb6]
    have fl : (ws.filterMap fun d => some (D.tup [.int many, .int loss, d])).length = ws.length := by simp [List.filterMap_eq_map']
    rw [Ok_lim (by omega)]
    refine Ok_newA fun b7 T7 hb7 eb7 elb7 g7 => ?_
    have F : Fr [] S T7 := ((G5.trans h).trans g6).trans g7
    refine q b7 _ T7 _ _ (fun d hd => ?_) (by omega) (fun hh hl hr => ?_) hb7 (by have := h.1; have := G5.1; omega) F
    · obtain ⟨t, ht, e⟩ := List.mem_filterMap.mp hd
      obtain ⟨b, rfl, hb⟩ := wm t ht
      cases e
      exact ⟨many, loss, b, rfl, h1, h2, h3, h4, h5, by rw [hworth]; exact hb⟩
    · intro e
      have : worth = 1 := by rw [← hworth, hh, hl]; decide
      rw [← List.length_eq_zero_iff, fl, List.length_eq_zero_iff] at e
      exact wn (by omega) e
theorem waysFor_ok {Φ : Nat → List D → Hs → R D} {G : Nat → D} {W sm : Nat} {room left : Int} {pl : Bool} {S : Hs} {Q : Fl → Hs → Prop} {e0 e1 e2 e3 e4 e5 e6 e8 u9 u10 u11 v15 v16 v17 v18 v19 : Option D} (hsm : S[sm]? = some (.lst [])) (h1 : 1 ≤ left) (hl : left ≤ 1000) (hr : 2 ≤ room)
    (q : ∀ (b : Nat) (ys : List D) (T : Hs) (u9 v15 v16 v17 v18 v19 : Option D), (∀ d ∈ ys, WayD left room d) → ys.length ≤ 220 → ys ≠ [] → T[b]? = some (.lst ys) → (b = sm ∨ S.length ≤ b) → Fr [] S T → Q (.nx [e0, e1, e2, e3, e4, e5, e6, some (.bl pl), e8, u9, u10, u11, some (.int room), some (.int left), some (.ref b), v15, v16, v17, v18, v19]) T) :
    Ok (exec Φ G W BWaysFor [e0, e1, e2, e3, e4, e5, e6, some (.bl pl), e8, u9, u10, u11, some (.int room), some (.int left), some (.ref sm), v15, v16, v17, v18, v19] S) Q := by
  unfold BWaysFor
  rw [x_for]
  simp only [Ok_ok, Ok_bind, x_nil, x_one, x_asg, x_exp, x_ret, x_retN, x_pas, x_brk, x_cnt, x_ife, nxQ_nx, nxQ_rt, nxQ_bk, nxQ_ct, rtQ_nx, rtQ_rt, d_var', gv_some, d_non, d_bl, d_int, d_str, d_glb, d_tup, d_lst, d_bin, d_cmp, d_neg, d_nt, d_isN, d_nsN, d_chn, d_and, d_or, d_ife, d_cal, d_bi, d_isi, d_mth, d_ix, d_sl, d_rvs, d_lrg, d_lc, l_nil, l_cons, o_nil, o_cons, oiD, negD, notD, i_rng, i_enm, i_zip, i_cons, g_var, g_tup, g_ix, gs_nil, gs_cons, b_add, b_sub, b_mul, b_modP, b_fdvP, b_pow, b_adds, b_addt, b_addl, b_mull, addL_eq, c_lt, c_le, c_gt, c_ge, c_eq, c_ne, eqO_f, eqO_t, eq_ii, eq_ss, bi_len, lenD_some, len_t, len_r, seqO_l, seqO_s, bi_int, bi_intb, bi_maxii, bi_minii, ofS_some, bi_listr, bi_listt, bi_tupr, bi_tupt, ixO_some, ix_t, ix_r, at_0, at_1, at_2, at_3, sl_t, sl_r, rv_r, set_r, Ok_lim, decide_eq_true_eq, Ok_tstN, Ok_tstP, Ok_tst, tst_t, tst_f, List.getElem?_cons_zero, List.getElem?_cons_succ, List.set_cons_zero, List.set_cons_succ, List.map_cons, List.map_nil, List.length_cons, List.length_nil, List.replicate_succ, List.replicate_zero, List.cons_append, List.nil_append, isN, cnt_nil, cnt_cons, Bool.not_true, Bool.not_false, if_true, if_false, Option.map_some, Nat.reduceAdd, Nat.reduceSub, Nat.reduceLT, Nat.reduceLeDiff, Int.reduceLT, Bool.false_eq_true]
  obtain ⟨mx, emx, mx1, mx10, mxl⟩ : ∃ mx : Int, (if left < 10 then left else 10) = mx ∧ 1 ≤ mx ∧ mx ≤ 10 ∧ mx ≤ left := ⟨_, rfl, by split <;> omega, by split <;> omega, by split <;> omega⟩
  rw [emx, rg_2 (by decide) (by decide) (by omega) (by omega)]
  refine forGo_ok (fun (j : Nat) (ρ : Rho) (S' : Hs) => ∃ (b : Nat) (xs : List D) (v9 v15 v16 v17 v18 v19 : Option D), ρ = [e0, e1, e2, e3, e4, e5, e6, some (.bl pl), e8, v9, u10, u11, some (.int room), some (.int left), some (.ref b), v15, v16, v17, v18, v19] ∧
      S'[b]? = some (.lst xs) ∧ (∀ d ∈ xs, WayD left room d) ∧ (0 < j → xs ≠ []) ∧ xs.length ≤ 22 * j ∧ (b = sm ∨ S.length ≤ b) ∧ Fr [] S S')
    ⟨sm, [], u9, v15, v16, v17, v18, v19, rfl, hsm, by simp, by omega, by simp, .inl rfl, .refl⟩ (fun _ _ _ _ _ => held_nil) ?_ ?_
  · rintro j d ρ S8 hd ⟨b, xs, v9, v15, v16, v17, v18, v19, rfl, hb, hxs, hne, hxl, hsml, F8⟩
    obtain ⟨hjn, rfl⟩ := rangeD_get hd
    simp only [Ok_ok, Ok_bind, x_nil, x_one, x_asg, x_exp, x_ret, x_retN, x_pas, x_brk, x_cnt, x_ife, nxQ_nx, nxQ_rt, nxQ_bk, nxQ_ct, rtQ_nx, rtQ_rt, d_var', gv_some, d_non, d_bl, d_int, d_str, d_glb, d_tup, d_lst, d_bin, d_cmp, d_neg, d_nt, d_isN, d_nsN, d_chn, d_and, d_or, d_ife, d_cal, d_bi, d_isi, d_mth, d_ix, d_sl, d_rvs, d_lrg, d_lc, l_nil, l_cons, o_nil, o_cons, oiD, negD, notD, i_rng, i_enm, i_zip, i_cons, g_var, g_tup, g_ix, gs_nil, gs_cons, b_add, b_sub, b_mul, b_modP, b_fdvP, b_pow, b_adds, b_addt, b_addl, b_mull, addL_eq, c_lt, c_le, c_gt, c_ge, c_eq, c_ne, eqO_f, eqO_t, eq_ii, eq_ss, bi_len, lenD_some, len_t, len_r, seqO_l, seqO_s, bi_int, bi_intb, bi_maxii, bi_minii, ofS_some, bi_listr, bi_listt, bi_tupr, bi_tupt, ixO_some, ix_t, ix_r, at_0, at_1, at_2, at_3, sl_t, sl_r, rv_r, set_r, Ok_lim, decide_eq_true_eq, Ok_tstN, Ok_tstP, Ok_tst, tst_t, tst_f, List.getElem?_cons_zero, List.getElem?_cons_succ, List.set_cons_zero, List.set_cons_succ, List.map_cons, List.map_nil, List.length_cons, List.length_nil, List.replicate_succ, List.replicate_zero, List.cons_append, List.nil_append, isN, cnt_nil, cnt_cons, Bool.not_true, Bool.not_false, if_true, if_false, Option.map_some, Nat.reduceAdd, Nat.reduceSub, Nat.reduceLT, Nat.reduceLeDiff, Int.reduceLT, Bool.false_eq_true]
    generalize hmany : (1 : Int) + (j : Int) = many
    rw [x_for]
    simp only [Ok_ok, Ok_bind, x_nil, x_one, x_asg, x_exp, x_ret, x_retN, x_pas, x_brk, x_cnt, x_ife, nxQ_nx, nxQ_rt, nxQ_bk, nxQ_ct, rtQ_nx, rtQ_rt, d_var', gv_some, d_non, d_bl, d_int, d_str, d_glb, d_tup, d_lst, d_bin, d_cmp, d_neg, d_nt, d_isN, d_nsN, d_chn, d_and, d_or, d_ife, d_cal, d_bi, d_isi, d_mth, d_ix, d_sl, d_rvs, d_lrg, d_lc, l_nil, l_cons, o_nil, o_cons, oiD, negD, notD, i_rng, i_enm, i_zip, i_cons, g_var, g_tup, g_ix, gs_nil, gs_cons, b_add, b_sub, b_mul, b_modP, b_fdvP, b_pow, b_adds, b_addt, b_addl, b_mull, addL_eq, c_lt, c_le, c_gt, c_ge, c_eq, c_ne, eqO_f, eqO_t, eq_ii, eq_ss, bi_len, lenD_some, len_t, len_r, seqO_l, seqO_s, bi_int, bi_intb, bi_maxii, bi_minii, ofS_some, bi_listr, bi_listt, bi_tupr, bi_tupt, ixO_some, ix_t, ix_r, at_0, at_1, at_2, at_3, sl_t, sl_r, rv_r, set_r, Ok_lim, decide_eq_true_eq, Ok_tstN, Ok_tstP, Ok_tst, tst_t, tst_f, List.getElem?_cons_zero, List.getElem?_cons_succ, List.set_cons_zero, List.set_cons_succ, List.map_cons, List.map_nil, List.length_cons, List.length_nil, List.replicate_succ, List.replicate_zero, List.cons_append, List.nil_append, isN, cnt_nil, cnt_cons, Bool.not_true, Bool.not_false, if_true, if_false, Option.map_some, Nat.reduceAdd, Nat.reduceSub, Nat.reduceLT, Nat.reduceLeDiff, Int.reduceLT, Bool.false_eq_true]
    refine ite_int (X := fun n => Ok (rgD S8 [.int n]) _) fun n hn => ?_
    have n0 : 1 ≤ n ∧ n ≤ many + 1 := by omega
    rw [rg_1 (by omega) (by omega)]
    refine forGo_ok (fun (i : Nat) (ρ : Rho) (S' : Hs) => ∃ (b : Nat) (xs : List D) (v15 v16 v17 v18 v19 : Option D), ρ = [e0, e1, e2, e3, e4, e5, e6, some (.bl pl), e8, some (.int many), u10, u11, some (.int room), some (.int left), some (.ref b), v15, v16, v17, v18, v19] ∧
        S'[b]? = some (.lst xs) ∧ (∀ d ∈ xs, WayD left room d) ∧ (0 < j ∨ 0 < i → xs ≠ []) ∧ xs.length ≤ 22 * j + 2 * i ∧ (b = sm ∨ S.length ≤ b) ∧ Fr [] S S')
      ⟨b, xs, v15, v16, v17, v18, v19, rfl, hb, hxs, fun h => hne (by omega), by omega, hsml, F8⟩ (fun _ _ _ _ _ => held_nil) ?_ ?_
    · rintro i d ρ S9 hd ⟨b, xs, v15, v16, v17, v18, v19, rfl, hb, hxs, hne, hxl, hsml, F9⟩
      obtain ⟨hin, rfl⟩ := rangeD_get hd
      simp only [Ok_bind, g_var, List.length_cons, List.length_nil, Nat.reduceAdd, Nat.reduceLT, List.set_cons_succ, List.set_cons_zero]
      generalize hloss : (0 : Int) + (i : Int) = loss
      refine ways_ok (left := left) hb (by omega) (by omega) (by omega) (by omega) (by omega) (by omega) fun b' ys T v17 v18 hys hyl hyn hb' hlb fr => ?_
      refine ⟨b', xs ++ ys, _, _, _, _, _, rfl, hb', fun d hd => (List.mem_append.mp hd).elim (hxs d) (hys d), fun hh e => ?_, by rw [List.length_append]; omega, .inr (by have := F9.1; omega), F9.trans fr⟩
      obtain ⟨e1, e2⟩ := List.append_eq_nil_iff.mp e
      by_cases hz : 0 < j ∨ 0 < i
      · exact hne hz e1
      · exact hyn (by omega) (by omega) hr e2
    · rintro ρ S9 ⟨b, xs, v15, v16, v17, v18, v19, rfl, hb, hxs, hne, hxl, hsml, F9⟩
      rw [rangeD_len] at hne hxl
      exact ⟨b, xs, _, _, _, _, _, _, rfl, hb, hxs, fun _ => hne (by omega), by omega, hsml, F9⟩
  · rintro ρ S8 ⟨b, xs, v9, v15, v16, v17, v18, v19, rfl, hb, hxs, hne, hxl, hsml, F8⟩
    rw [rangeD_len] at hne hxl
    exact q b xs _ _ _ _ _ _ _ hxs (by omega) (hne (by omega)) hb hsml F8
end RS

namespace RS
open PySem
theorem strsOf_map (cs : List Nat) : strsOf (cs.map fun c => D.str ⟨#[c]⟩) = some (cs.map fun c => (⟨#[c]⟩ : Str)) := by
  unfold strsOf
  induction cs with
  | nil => rfl
  | cons c cs ih => simp only [List.map_cons, mapO, asS, ih]
theorem len_map (cs : List Nat) : (((cs.map fun c => (⟨#[c]⟩ : Str)).map (·.length)).sum) = cs.length := by
  induction cs with
  | nil => rfl
  | cons c cs ih => simp only [List.map_cons, List.sum_cons, ih, List.length_cons]; show 1 + _ = _; omega
theorem abc_low : LowS "abcdefghijklmnopqrstuvwxyz" := by
  show ∀ c ∈ ("abcdefghijklmnopqrstuvwxyz" : Str).cps.toList, 97 ≤ c ∧ c ≤ 122
  decide +kernel
theorem abc_len : ("abcdefghijklmnopqrstuvwxyz" : Str).length = 26 := by decide +kernel
theorem own_ok {i j : Int} (h0 : 0 ≤ i) (h1 : i ≤ 20) (h2 : j = i + 5) : LowS ⟨(cutD ("abcdefghijklmnopqrstuvwxyz" : Str).cps.toList (some i) (some j)).toArray⟩ ∧ (⟨(cutD ("abcdefghijklmnopqrstuvwxyz" : Str).cps.toList (some i) (some j)).toArray⟩ : Str).length = 5 := by
  refine ⟨fun c hc => abc_low c (cutD_mem hc), ?_⟩
  have hl : ("abcdefghijklmnopqrstuvwxyz" : Str).cps.toList.length = 26 := by decide +kernel
  show (cutD ("abcdefghijklmnopqrstuvwxyz" : Str).cps.toList (some i) (some j)).length = 5
  obtain ⟨n, rfl⟩ := Int.eq_ofNat_of_zero_le h0
  obtain ⟨m, rfl⟩ := Int.eq_ofNat_of_zero_le (show 0 ≤ j by omega)
  simp only [cutD, List.length_take, List.length_drop, HT.sIx_nat, hl]
  omega
theorem ReelD.pure {d : D} (h : ReelD d) : pureD d = true := by
  obtain ⟨s, l, t, rfl, h1, _⟩ := h
  simp only [pureD, pureDs, h1.ok, Bool.and_self, Bool.and_true]
theorem ReelD.dep {d : D} (h : ReelD d) : dep d ≤ 60 := by
  obtain ⟨s, l, t, rfl, h1, _⟩ := h
  simp [RS.dep, deps]
theorem erase_perm {xs : List D} {j : Nat} (hj : j < xs.length) : (xs[j] :: xs.eraseIdx j).Perm xs := by
  have e : xs = xs.take j ++ xs[j] :: xs.drop (j + 1) := by
    rw [← List.drop_eq_getElem_cons hj, List.take_append_drop]
  rw [List.eraseIdx_eq_take_drop_succ]
  conv => rhs; rw [e]
  exact List.perm_middle.symm
theorem sumR_nn (ds : List D) : 0 ≤ sumR ds := by
  induction ds with
  | nil => exact Int.le_refl _
  | cons d ds ih =>
    simp only [sumR]
    have : 0 ≤ lenR d := by
      unfold lenR
      split
      · exact Int.natCast_nonneg _
      · exact Int.le_refl _
    omega
theorem draw_stock_ok {Φ : Nat → List D → Hs → R D} {G : Nat → D} {W i1 it il p k : Nat} {most : Int} {S : Hs} {Q : D → Hs → Prop} (ho : OneOk Φ i1) (hos : OneStrOk Φ i1) (ht : TakeOk Φ it) (hl : LettersOk Φ il) (hW : 8 < W) (hp : Pen S p k) (hk : k + 100 ≤ 1048576) (m0 : 4 ≤ most) (m1 : most ≤ 1000)
    (q : ∀ ds S', 1 ≤ ds.length → ds.length ≤ 4 → (∀ d ∈ ds, ReelD d) → prodR ds ≤ 100 → sumR ds ≤ most → Pen S' p (k + 100) → Fr [p] S S' → Q (.tup ds) S') :
    Ok (exec Φ G W (B_law_draw_stock i1 it il) [some (.ref p), some (.int most), none, none, none, none, none, none, none, none, none, none, none, none, none, none, none, none, none, none] S) (rtQ Q) := by
  unfold B_law_draw_stock
  refine x_step fun K1 hK1 => ?_
  simp only [Ok_ok, Ok_bind, x_nil, x_one, x_asg, x_exp, x_ret, x_retN, x_pas, x_brk, x_cnt, x_ife, nxQ_nx, nxQ_rt, nxQ_bk, nxQ_ct, rtQ_nx, rtQ_rt, d_var', gv_some, d_non, d_bl, d_int, d_str, d_glb, d_tup, d_lst, d_bin, d_cmp, d_neg, d_nt, d_isN, d_nsN, d_chn, d_and, d_or, d_ife, d_cal, d_bi, d_isi, d_mth, d_ix, d_sl, d_rvs, d_lrg, d_lc, l_nil, l_cons, o_nil, o_cons, oiD, negD, notD, i_rng, i_enm, i_zip, i_cons, g_var, g_tup, g_ix, gs_nil, gs_cons, b_add, b_sub, b_mul, b_modP, b_fdvP, b_pow, b_adds, b_addt, b_addl, b_mull, addL_eq, c_lt, c_le, c_gt, c_ge, c_eq, c_ne, eqO_f, eqO_t, eq_ii, eq_ss, bi_len, lenD_some, len_t, len_r, seqO_l, seqO_s, bi_int, bi_intb, bi_maxii, bi_minii, ofS_some, bi_listr, bi_listt, bi_tupr, bi_tupt, ixO_some, ix_t, ix_r, at_0, at_1, at_2, at_3, sl_t, sl_r, rv_r, set_r, Ok_lim, decide_eq_true_eq, Ok_tstN, Ok_tstP, Ok_tst, tst_t, tst_f, List.getElem?_cons_zero, List.getElem?_cons_succ, List.set_cons_zero, List.set_cons_succ, List.map_cons, List.map_nil, List.length_cons, List.length_nil, List.replicate_succ, List.replicate_zero, List.cons_append, List.nil_append, isN, cnt_nil, cnt_cons, Bool.not_true, Bool.not_false, if_true, if_false, Option.map_some, Nat.reduceAdd, Nat.reduceSub, Nat.reduceLT, Nat.reduceLeDiff, Int.reduceLT, Bool.false_eq_true]
  have pS := hp.lt
  refine Ok_newA fun a1 S1 ha1 e1 el1 f1 => ?_
  refine ho p k _ _ _ _ (hp.fr f1 (by simp)) (by omega) (show seqOf S1 (.ref a1) = some _ by rw [seq_r, ha1]; rfl) (by intro h; cases h; omega) (by simp) (by simp) fun d S2 hd hp2 f2 => ?_
  obtain ⟨c, rfl, c0, c4⟩ : ∃ c : Int, d = .int c ∧ 1 ≤ c ∧ c ≤ 4 := by
    simp only [List.mem_cons, List.not_mem_nil, or_false] at hd
    rcases hd with rfl | rfl | rfl | rfl | rfl | rfl | rfl <;> exact ⟨_, rfl, by decide, by decide⟩
  clear hd
  refine Ok_newA fun f S3 hf3 ef elf f3 => ?_
  refine ht p (k + 1) _ _ _ (hp2.fr f3 (by simp)) (by omega) (by decide) (by decide) fun z S4 _ _ hp4 f4 => ?_
  have fS : S.length ≤ f := by have := f1.1; have := f2.1; omega
  have pf : p ≠ f := by omega
  have hf4 : S4[f]? = some (.lst []) := f4.get hf3 (by simp; omega)
  have F4 : Fr [p] S S4 := ((f1.any.trans f2).trans f3.any).trans f4
  simp only [Ok_ok, Ok_bind, x_nil, x_one, x_asg, x_exp, x_ret, x_retN, x_pas, x_brk, x_cnt, x_ife, nxQ_nx, nxQ_rt, nxQ_bk, nxQ_ct, rtQ_nx, rtQ_rt, d_var', gv_some, d_non, d_bl, d_int, d_str, d_glb, d_tup, d_lst, d_bin, d_cmp, d_neg, d_nt, d_isN, d_nsN, d_chn, d_and, d_or, d_ife, d_cal, d_bi, d_isi, d_mth, d_ix, d_sl, d_rvs, d_lrg, d_lc, l_nil, l_cons, o_nil, o_cons, oiD, negD, notD, i_rng, i_enm, i_zip, i_cons, g_var, g_tup, g_ix, gs_nil, gs_cons, b_add, b_sub, b_mul, b_modP, b_fdvP, b_pow, b_adds, b_addt, b_addl, b_mull, addL_eq, c_lt, c_le, c_gt, c_ge, c_eq, c_ne, eqO_f, eqO_t, eq_ii, eq_ss, bi_len, lenD_some, len_t, len_r, seqO_l, seqO_s, bi_int, bi_intb, bi_maxii, bi_minii, ofS_some, bi_listr, bi_listt, bi_tupr, bi_tupt, ixO_some, ix_t, ix_r, at_0, at_1, at_2, at_3, sl_t, sl_r, rv_r, set_r, Ok_lim, decide_eq_true_eq, Ok_tstN, Ok_tstP, Ok_tst, tst_t, tst_f, List.getElem?_cons_zero, List.getElem?_cons_succ, List.set_cons_zero, List.set_cons_succ, List.map_cons, List.map_nil, List.length_cons, List.length_nil, List.replicate_succ, List.replicate_zero, List.cons_append, List.nil_append, isN, cnt_nil, cnt_cons, Bool.not_true, Bool.not_false, if_true, if_false, Option.map_some, Nat.reduceAdd, Nat.reduceSub, Nat.reduceLT, Nat.reduceLeDiff, Int.reduceLT, Bool.false_eq_true]
  generalize (decide (z = 0)) = pl
  clear f1 f2 f3 f4 hf3 ha1 e1 el1 ef elf hp2
  refine hK1 _ _ (x_step fun K2 hK2 => ?_)
  rw [x_for]
  simp only [Ok_ok, Ok_bind, x_nil, x_one, x_asg, x_exp, x_ret, x_retN, x_pas, x_brk, x_cnt, x_ife, nxQ_nx, nxQ_rt, nxQ_bk, nxQ_ct, rtQ_nx, rtQ_rt, d_var', gv_some, d_non, d_bl, d_int, d_str, d_glb, d_tup, d_lst, d_bin, d_cmp, d_neg, d_nt, d_isN, d_nsN, d_chn, d_and, d_or, d_ife, d_cal, d_bi, d_isi, d_mth, d_ix, d_sl, d_rvs, d_lrg, d_lc, l_nil, l_cons, o_nil, o_cons, oiD, negD, notD, i_rng, i_enm, i_zip, i_cons, g_var, g_tup, g_ix, gs_nil, gs_cons, b_add, b_sub, b_mul, b_modP, b_fdvP, b_pow, b_adds, b_addt, b_addl, b_mull, addL_eq, c_lt, c_le, c_gt, c_ge, c_eq, c_ne, eqO_f, eqO_t, eq_ii, eq_ss, bi_len, lenD_some, len_t, len_r, seqO_l, seqO_s, bi_int, bi_intb, bi_maxii, bi_minii, ofS_some, bi_listr, bi_listt, bi_tupr, bi_tupt, ixO_some, ix_t, ix_r, at_0, at_1, at_2, at_3, sl_t, sl_r, rv_r, set_r, Ok_lim, decide_eq_true_eq, Ok_tstN, Ok_tstP, Ok_tst, tst_t, tst_f, List.getElem?_cons_zero, List.getElem?_cons_succ, List.set_cons_zero, List.set_cons_succ, List.map_cons, List.map_nil, List.length_cons, List.length_nil, List.replicate_succ, List.replicate_zero, List.cons_append, List.nil_append, isN, cnt_nil, cnt_cons, Bool.not_true, Bool.not_false, if_true, if_false, Option.map_some, Nat.reduceAdd, Nat.reduceSub, Nat.reduceLT, Nat.reduceLeDiff, Int.reduceLT, Bool.false_eq_true]
  rw [rg_1 (by omega) (by omega)]
  refine forGo_ok (fun (r : Nat) (ρ : Rho) (S' : Hs) => ∃ (m product : Int) (ds : List D) (u2 u8 u9 u10 u11 u12 u13 u14 u15 u16 u17 u18 u19 : Option D), ρ = [some (.ref p), some (.int m), u2, none, some (.int c), some (.int product), some (.ref f), some (.bl pl), u8, u9, u10, u11, u12, u13, u14, u15, u16, u17, u18, u19] ∧
      S'[f]? = some (.lst ds) ∧ ds.length = r ∧ (∀ d ∈ ds, ReelD d) ∧ prodR ds = product ∧ sumR ds + m = most ∧ 1 ≤ product ∧ product ≤ 100 ∧ (r < c → product * w2 (c - 1 - r) ≤ 50) ∧ c - r ≤ m ∧ Pen S' p (k + 2 + 12 * r) ∧ Fr [p] S S')
    ⟨most, 1, [], none, none, none, none, none, none, none, none, none, none, none, none, none, rfl, hf4, rfl, by simp, rfl, by simp [sumR], by decide, by decide, ?_, by omega, hp4, F4⟩ (fun _ _ _ _ _ => held_nil) ?_ ?_
  · intro _
    have : c = 1 ∨ c = 2 ∨ c = 3 ∨ c = 4 := by omega
    rcases this with rfl | rfl | rfl | rfl <;> decide
  · rintro r d ρ S5 hd ⟨m, product, ds, u2, u8, u9, u10, u11, u12, u13, u14, u15, u16, u17, u18, u19, rfl, hf, hr, hds, hpr, hsum, p0, p1, hw, hm, hp5, F5⟩
    obtain ⟨hrn, rfl⟩ := rangeD_get hd
    have hrc : (r : Int) < c := by omega
    have hw := hw hrc
    simp only [Ok_ok, Ok_bind, x_nil, x_one, x_asg, x_exp, x_ret, x_retN, x_pas, x_brk, x_cnt, x_ife, nxQ_nx, nxQ_rt, nxQ_bk, nxQ_ct, rtQ_nx, rtQ_rt, d_var', gv_some, d_non, d_bl, d_int, d_str, d_glb, d_tup, d_lst, d_bin, d_cmp, d_neg, d_nt, d_isN, d_nsN, d_chn, d_and, d_or, d_ife, d_cal, d_bi, d_isi, d_mth, d_ix, d_sl, d_rvs, d_lrg, d_lc, l_nil, l_cons, o_nil, o_cons, oiD, negD, notD, i_rng, i_enm, i_zip, i_cons, g_var, g_tup, g_ix, gs_nil, gs_cons, b_add, b_sub, b_mul, b_modP, b_fdvP, b_pow, b_adds, b_addt, b_addl, b_mull, addL_eq, c_lt, c_le, c_gt, c_ge, c_eq, c_ne, eqO_f, eqO_t, eq_ii, eq_ss, bi_len, lenD_some, len_t, len_r, seqO_l, seqO_s, bi_int, bi_intb, bi_maxii, bi_minii, ofS_some, bi_listr, bi_listt, bi_tupr, bi_tupt, ixO_some, ix_t, ix_r, at_0, at_1, at_2, at_3, sl_t, sl_r, rv_r, set_r, Ok_lim, decide_eq_true_eq, Ok_tstN, Ok_tstP, Ok_tst, tst_t, tst_f, List.getElem?_cons_zero, List.getElem?_cons_succ, List.set_cons_zero, List.set_cons_succ, List.map_cons, List.map_nil, List.length_cons, List.length_nil, List.replicate_succ, List.replicate_zero, List.cons_append, List.nil_append, isN, cnt_nil, cnt_cons, Bool.not_true, Bool.not_false, if_true, if_false, Option.map_some, Nat.reduceAdd, Nat.reduceSub, Nat.reduceLT, Nat.reduceLeDiff, Int.reduceLT, Bool.false_eq_true]
    refine x_step fun K3 hK3 => ?_
    simp only [Ok_ok, Ok_bind, x_nil, x_one, x_asg, x_exp, x_ret, x_retN, x_pas, x_brk, x_cnt, x_ife, nxQ_nx, nxQ_rt, nxQ_bk, nxQ_ct, rtQ_nx, rtQ_rt, d_var', gv_some, d_non, d_bl, d_int, d_str, d_glb, d_tup, d_lst, d_bin, d_cmp, d_neg, d_nt, d_isN, d_nsN, d_chn, d_and, d_or, d_ife, d_cal, d_bi, d_isi, d_mth, d_ix, d_sl, d_rvs, d_lrg, d_lc, l_nil, l_cons, o_nil, o_cons, oiD, negD, notD, i_rng, i_enm, i_zip, i_cons, g_var, g_tup, g_ix, gs_nil, gs_cons, b_add, b_sub, b_mul, b_modP, b_fdvP, b_pow, b_adds, b_addt, b_addl, b_mull, addL_eq, c_lt, c_le, c_gt, c_ge, c_eq, c_ne, eqO_f, eqO_t, eq_ii, eq_ss, bi_len, lenD_some, len_t, len_r, seqO_l, seqO_s, bi_int, bi_intb, bi_maxii, bi_minii, ofS_some, bi_listr, bi_listt, bi_tupr, bi_tupt, ixO_some, ix_t, ix_r, at_0, at_1, at_2, at_3, sl_t, sl_r, rv_r, set_r, Ok_lim, decide_eq_true_eq, Ok_tstN, Ok_tstP, Ok_tst, tst_t, tst_f, List.getElem?_cons_zero, List.getElem?_cons_succ, List.set_cons_zero, List.set_cons_succ, List.map_cons, List.map_nil, List.length_cons, List.length_nil, List.replicate_succ, List.replicate_zero, List.cons_append, List.nil_append, isN, cnt_nil, cnt_cons, Bool.not_true, Bool.not_false, if_true, if_false, Option.map_some, Nat.reduceAdd, Nat.reduceSub, Nat.reduceLT, Nat.reduceLeDiff, Int.reduceLT, Bool.false_eq_true]
    refine hK3 _ _ (x_step fun K4 hK4 => ?_)
    simp only [Ok_ok, Ok_bind, x_nil, x_one, x_asg, x_exp, x_ret, x_retN, x_pas, x_brk, x_cnt, x_ife, nxQ_nx, nxQ_rt, nxQ_bk, nxQ_ct, rtQ_nx, rtQ_rt, d_var', gv_some, d_non, d_bl, d_int, d_str, d_glb, d_tup, d_lst, d_bin, d_cmp, d_neg, d_nt, d_isN, d_nsN, d_chn, d_and, d_or, d_ife, d_cal, d_bi, d_isi, d_mth, d_ix, d_sl, d_rvs, d_lrg, d_lc, l_nil, l_cons, o_nil, o_cons, oiD, negD, notD, i_rng, i_enm, i_zip, i_cons, g_var, g_tup, g_ix, gs_nil, gs_cons, b_add, b_sub, b_mul, b_modP, b_fdvP, b_pow, b_adds, b_addt, b_addl, b_mull, addL_eq, c_lt, c_le, c_gt, c_ge, c_eq, c_ne, eqO_f, eqO_t, eq_ii, eq_ss, bi_len, lenD_some, len_t, len_r, seqO_l, seqO_s, bi_int, bi_intb, bi_maxii, bi_minii, ofS_some, bi_listr, bi_listt, bi_tupr, bi_tupt, ixO_some, ix_t, ix_r, at_0, at_1, at_2, at_3, sl_t, sl_r, rv_r, set_r, Ok_lim, decide_eq_true_eq, Ok_tstN, Ok_tstP, Ok_tst, tst_t, tst_f, List.getElem?_cons_zero, List.getElem?_cons_succ, List.set_cons_zero, List.set_cons_succ, List.map_cons, List.map_nil, List.length_cons, List.length_nil, List.replicate_succ, List.replicate_zero, List.cons_append, List.nil_append, isN, cnt_nil, cnt_cons, Bool.not_true, Bool.not_false, if_true, if_false, Option.map_some, Nat.reduceAdd, Nat.reduceSub, Nat.reduceLT, Nat.reduceLeDiff, Int.reduceLT, Bool.false_eq_true]
    have el : c - 1 - (0 + (r : Int)) = c - 1 - r := by omega
    rw [el]
    generalize hlat : c - 1 - (r : Int) = later
    rw [hlat] at hw
    refine Ok_newA fun a6 S6 ha6 e6 el6 f6 => ?_
    simp only [Ok_ok, Ok_bind, x_nil, x_one, x_asg, x_exp, x_ret, x_retN, x_pas, x_brk, x_cnt, x_ife, nxQ_nx, nxQ_rt, nxQ_bk, nxQ_ct, rtQ_nx, rtQ_rt, d_var', gv_some, d_non, d_bl, d_int, d_str, d_glb, d_tup, d_lst, d_bin, d_cmp, d_neg, d_nt, d_isN, d_nsN, d_chn, d_and, d_or, d_ife, d_cal, d_bi, d_isi, d_mth, d_ix, d_sl, d_rvs, d_lrg, d_lc, l_nil, l_cons, o_nil, o_cons, oiD, negD, notD, i_rng, i_enm, i_zip, i_cons, g_var, g_tup, g_ix, gs_nil, gs_cons, b_add, b_sub, b_mul, b_modP, b_fdvP, b_pow, b_adds, b_addt, b_addl, b_mull, addL_eq, c_lt, c_le, c_gt, c_ge, c_eq, c_ne, eqO_f, eqO_t, eq_ii, eq_ss, bi_len, lenD_some, len_t, len_r, seqO_l, seqO_s, bi_int, bi_intb, bi_maxii, bi_minii, ofS_some, bi_listr, bi_listt, bi_tupr, bi_tupt, ixO_some, ix_t, ix_r, at_0, at_1, at_2, at_3, sl_t, sl_r, rv_r, set_r, Ok_lim, decide_eq_true_eq, Ok_tstN, Ok_tstP, Ok_tst, tst_t, tst_f, List.getElem?_cons_zero, List.getElem?_cons_succ, List.set_cons_zero, List.set_cons_succ, List.map_cons, List.map_nil, List.length_cons, List.length_nil, List.replicate_succ, List.replicate_zero, List.cons_append, List.nil_append, isN, cnt_nil, cnt_cons, Bool.not_true, Bool.not_false, if_true, if_false, Option.map_some, Nat.reduceAdd, Nat.reduceSub, Nat.reduceLT, Nat.reduceLeDiff, Int.reduceLT, Bool.false_eq_true, ha6, w2_at (show 0 ≤ later by omega) (show later ≤ 3 by omega)]
    have w0 : 1 ≤ w2 later ∧ w2 later ≤ 8 := by
      unfold w2
      have : later = 0 ∨ later = 1 ∨ later = 2 ∨ later = 3 := by omega
      rcases this with rfl | rfl | rfl | rfl <;> decide
    have x0 : 1 ≤ product * w2 later := by have := Int.mul_le_mul p0 w0.1 (by decide) (by omega); simpa using this
    rw [if_pos (mulOk_r (by omega) (by omega))]
    rw [b_fdvP (by omega) (by omega)]
    obtain ⟨r0, r1, r2⟩ := room_of x0 hw
    generalize hroom : Int.fdiv 100 (product * w2 later) = room at r0 r1 r2
    refine Ok_newA fun a7 S7 ha7 e7 el7 f7 => ?_
    have F7 : Fr [] S5 S7 := f6.trans f7
    have hm1 : later + 1 ≤ m := by omega
    have hnn := sumR_nn ds
    have p7 : p < S6.length := by have := hp5.lt; have := f6.1; omega
    clear f6 f7 ha6 e6 el6 el7 K3 hK3
    refine hK4 _ _ (x_step fun K5 hK5 => ?_)
    refine waysFor_ok (left := m - later) (room := room) ha7 (by omega) (by omega) r0 fun b ys T8 v9 v15 v16 v17 v18 v19 hys hyl hyn hb hbl f8 => ?_
    have F8 : Fr [] S5 T8 := F7.trans f8
    have hp8 := hp5.fr F8 (by simp)
    have hbp : p ≠ b := by
      have := f8.1
      rcases hbl with h | h
      · omega
      · have := lt_of_get ha7; omega
    refine hK5 _ _ (x_step fun K6 hK6 => ?_)
    simp only [Ok_ok, Ok_bind, x_nil, x_one, x_asg, x_exp, x_ret, x_retN, x_pas, x_brk, x_cnt, x_ife, nxQ_nx, nxQ_rt, nxQ_bk, nxQ_ct, rtQ_nx, rtQ_rt, d_var', gv_some, d_non, d_bl, d_int, d_str, d_glb, d_tup, d_lst, d_bin, d_cmp, d_neg, d_nt, d_isN, d_nsN, d_chn, d_and, d_or, d_ife, d_cal, d_bi, d_isi, d_mth, d_ix, d_sl, d_rvs, d_lrg, d_lc, l_nil, l_cons, o_nil, o_cons, oiD, negD, notD, i_rng, i_enm, i_zip, i_cons, g_var, g_tup, g_ix, gs_nil, gs_cons, b_add, b_sub, b_mul, b_modP, b_fdvP, b_pow, b_adds, b_addt, b_addl, b_mull, addL_eq, c_lt, c_le, c_gt, c_ge, c_eq, c_ne, eqO_f, eqO_t, eq_ii, eq_ss, bi_len, lenD_some, len_t, len_r, seqO_l, seqO_s, bi_int, bi_intb, bi_maxii, bi_minii, ofS_some, bi_listr, bi_listt, bi_tupr, bi_tupt, ixO_some, ix_t, ix_r, at_0, at_1, at_2, at_3, sl_t, sl_r, rv_r, set_r, Ok_lim, decide_eq_true_eq, Ok_tstN, Ok_tstP, Ok_tst, tst_t, tst_f, List.getElem?_cons_zero, List.getElem?_cons_succ, List.set_cons_zero, List.set_cons_succ, List.map_cons, List.map_nil, List.length_cons, List.length_nil, List.replicate_succ, List.replicate_zero, List.cons_append, List.nil_append, isN, cnt_nil, cnt_cons, Bool.not_true, Bool.not_false, if_true, if_false, Option.map_some, Nat.reduceAdd, Nat.reduceSub, Nat.reduceLT, Nat.reduceLeDiff, Int.reduceLT, Bool.false_eq_true]
    refine ho p _ _ ys _ _ hp8 (by omega) (by rw [seq_r, hb]; rfl) (by intro h; cases h; exact hbp rfl) hyn (by omega) fun d S9 hd hp9 f9 => ?_
    obtain ⟨many, loss, turns, rfl, g1, g2, g3, g4, g5, g6⟩ := hys d hd
    simp only [Ok_ok, Ok_bind, x_nil, x_one, x_asg, x_exp, x_ret, x_retN, x_pas, x_brk, x_cnt, x_ife, nxQ_nx, nxQ_rt, nxQ_bk, nxQ_ct, rtQ_nx, rtQ_rt, d_var', gv_some, d_non, d_bl, d_int, d_str, d_glb, d_tup, d_lst, d_bin, d_cmp, d_neg, d_nt, d_isN, d_nsN, d_chn, d_and, d_or, d_ife, d_cal, d_bi, d_isi, d_mth, d_ix, d_sl, d_rvs, d_lrg, d_lc, l_nil, l_cons, o_nil, o_cons, oiD, negD, notD, i_rng, i_enm, i_zip, i_cons, g_var, g_tup, g_ix, gs_nil, gs_cons, b_add, b_sub, b_mul, b_modP, b_fdvP, b_pow, b_adds, b_addt, b_addl, b_mull, addL_eq, c_lt, c_le, c_gt, c_ge, c_eq, c_ne, eqO_f, eqO_t, eq_ii, eq_ss, bi_len, lenD_some, len_t, len_r, seqO_l, seqO_s, bi_int, bi_intb, bi_maxii, bi_minii, ofS_some, bi_listr, bi_listt, bi_tupr, bi_tupt, ixO_some, ix_t, ix_r, at_0, at_1, at_2, at_3, sl_t, sl_r, rv_r, set_r, Ok_lim, decide_eq_true_eq, Ok_tstN, Ok_tstP, Ok_tst, tst_t, tst_f, List.getElem?_cons_zero, List.getElem?_cons_succ, List.set_cons_zero, List.set_cons_succ, List.map_cons, List.map_nil, List.length_cons, List.length_nil, List.replicate_succ, List.replicate_zero, List.cons_append, List.nil_append, isN, cnt_nil, cnt_cons, Bool.not_true, Bool.not_false, if_true, if_false, Option.map_some, Nat.reduceAdd, Nat.reduceSub, Nat.reduceLT, Nat.reduceLeDiff, Int.reduceLT, Bool.false_eq_true]
    refine hK6 _ _ (x_step fun K7 hK7 => ?_)
    simp only [Ok_ok, Ok_bind, x_nil, x_one, x_asg, x_exp, x_ret, x_retN, x_pas, x_brk, x_cnt, x_ife, nxQ_nx, nxQ_rt, nxQ_bk, nxQ_ct, rtQ_nx, rtQ_rt, d_var', gv_some, d_non, d_bl, d_int, d_str, d_glb, d_tup, d_lst, d_bin, d_cmp, d_neg, d_nt, d_isN, d_nsN, d_chn, d_and, d_or, d_ife, d_cal, d_bi, d_isi, d_mth, d_ix, d_sl, d_rvs, d_lrg, d_lc, l_nil, l_cons, o_nil, o_cons, oiD, negD, notD, i_rng, i_enm, i_zip, i_cons, g_var, g_tup, g_ix, gs_nil, gs_cons, b_add, b_sub, b_mul, b_modP, b_fdvP, b_pow, b_adds, b_addt, b_addl, b_mull, addL_eq, c_lt, c_le, c_gt, c_ge, c_eq, c_ne, eqO_f, eqO_t, eq_ii, eq_ss, bi_len, lenD_some, len_t, len_r, seqO_l, seqO_s, bi_int, bi_intb, bi_maxii, bi_minii, ofS_some, bi_listr, bi_listt, bi_tupr, bi_tupt, ixO_some, ix_t, ix_r, at_0, at_1, at_2, at_3, sl_t, sl_r, rv_r, set_r, Ok_lim, decide_eq_true_eq, Ok_tstN, Ok_tstP, Ok_tst, tst_t, tst_f, List.getElem?_cons_zero, List.getElem?_cons_succ, List.set_cons_zero, List.set_cons_succ, List.map_cons, List.map_nil, List.length_cons, List.length_nil, List.replicate_succ, List.replicate_zero, List.cons_append, List.nil_append, isN, cnt_nil, cnt_cons, Bool.not_true, Bool.not_false, if_true, if_false, Option.map_some, Nat.reduceAdd, Nat.reduceSub, Nat.reduceLT, Nat.reduceLeDiff, Int.reduceLT, Bool.false_eq_true]
    obtain ⟨y0, y1⟩ := mul_bound (a := many) (b := loss + 1) (m := 10) (n := 11) (by omega) (by omega) (by omega) (by omega)
    have tt : 0 ≤ (1 + if turns then (1 : Int) else 0) ∧ (1 + if turns then (1 : Int) else 0) ≤ 2 := by split <;> decide
    obtain ⟨y2, y3⟩ := mul_bound y0 tt.1 y1 tt.2
    rw [if_pos (mulOk_r (by omega) (by omega)), if_pos (mulOk_r (by omega) (by omega)), if_pos (mulOk_r (by omega) (by omega))]
    generalize hfac : many * (loss + 1) * (1 + if turns then (1 : Int) else 0) = fac at g6 y2 y3
    refine hK7 _ _ (x_step fun K8 hK8 => ?_)
    simp only [Ok_ok, Ok_bind, x_nil, x_one, x_asg, x_exp, x_ret, x_retN, x_pas, x_brk, x_cnt, x_ife, nxQ_nx, nxQ_rt, nxQ_bk, nxQ_ct, rtQ_nx, rtQ_rt, d_var', gv_some, d_non, d_bl, d_int, d_str, d_glb, d_tup, d_lst, d_bin, d_cmp, d_neg, d_nt, d_isN, d_nsN, d_chn, d_and, d_or, d_ife, d_cal, d_bi, d_isi, d_mth, d_ix, d_sl, d_rvs, d_lrg, d_lc, l_nil, l_cons, o_nil, o_cons, oiD, negD, notD, i_rng, i_enm, i_zip, i_cons, g_var, g_tup, g_ix, gs_nil, gs_cons, b_add, b_sub, b_mul, b_modP, b_fdvP, b_pow, b_adds, b_addt, b_addl, b_mull, addL_eq, c_lt, c_le, c_gt, c_ge, c_eq, c_ne, eqO_f, eqO_t, eq_ii, eq_ss, bi_len, lenD_some, len_t, len_r, seqO_l, seqO_s, bi_int, bi_intb, bi_maxii, bi_minii, ofS_some, bi_listr, bi_listt, bi_tupr, bi_tupt, ixO_some, ix_t, ix_r, at_0, at_1, at_2, at_3, sl_t, sl_r, rv_r, set_r, Ok_lim, decide_eq_true_eq, Ok_tstN, Ok_tstP, Ok_tst, tst_t, tst_f, List.getElem?_cons_zero, List.getElem?_cons_succ, List.set_cons_zero, List.set_cons_succ, List.map_cons, List.map_nil, List.length_cons, List.length_nil, List.replicate_succ, List.replicate_zero, List.cons_append, List.nil_append, isN, cnt_nil, cnt_cons, Bool.not_true, Bool.not_false, if_true, if_false, Option.map_some, Nat.reduceAdd, Nat.reduceSub, Nat.reduceLT, Nat.reduceLeDiff, Int.reduceLT, Bool.false_eq_true]
    refine hK8 _ _ (x_step fun K9 hK9 => ?_)
    simp only [Ok_ok, Ok_bind, x_nil, x_one, x_asg, x_exp, x_ret, x_retN, x_pas, x_brk, x_cnt, x_ife, nxQ_nx, nxQ_rt, nxQ_bk, nxQ_ct, rtQ_nx, rtQ_rt, d_var', gv_some, d_non, d_bl, d_int, d_str, d_glb, d_tup, d_lst, d_bin, d_cmp, d_neg, d_nt, d_isN, d_nsN, d_chn, d_and, d_or, d_ife, d_cal, d_bi, d_isi, d_mth, d_ix, d_sl, d_rvs, d_lrg, d_lc, l_nil, l_cons, o_nil, o_cons, oiD, negD, notD, i_rng, i_enm, i_zip, i_cons, g_var, g_tup, g_ix, gs_nil, gs_cons, b_add, b_sub, b_mul, b_modP, b_fdvP, b_pow, b_adds, b_addt, b_addl, b_mull, addL_eq, c_lt, c_le, c_gt, c_ge, c_eq, c_ne, eqO_f, eqO_t, eq_ii, eq_ss, bi_len, lenD_some, len_t, len_r, seqO_l, seqO_s, bi_int, bi_intb, bi_maxii, bi_minii, ofS_some, bi_listr, bi_listt, bi_tupr, bi_tupt, ixO_some, ix_t, ix_r, at_0, at_1, at_2, at_3, sl_t, sl_r, rv_r, set_r, Ok_lim, decide_eq_true_eq, Ok_tstN, Ok_tstP, Ok_tst, tst_t, tst_f, List.getElem?_cons_zero, List.getElem?_cons_succ, List.set_cons_zero, List.set_cons_succ, List.map_cons, List.map_nil, List.length_cons, List.length_nil, List.replicate_succ, List.replicate_zero, List.cons_append, List.nil_append, isN, cnt_nil, cnt_cons, Bool.not_true, Bool.not_false, if_true, if_false, Option.map_some, Nat.reduceAdd, Nat.reduceSub, Nat.reduceLT, Nat.reduceLeDiff, Int.reduceLT, Bool.false_eq_true]
    refine hl _ _ ?_
    rw [if_pos (mulOk_l (by decide) (by decide)), if_pos (mulOk_l (by decide) (by decide))]
    rw [sl_s (by rw [abc_len]; decide)]
    obtain ⟨own1, own2⟩ := own_ok (i := 3 + 5 * (0 + (r : Int))) (j := 8 + 5 * (0 + (r : Int))) (by omega) (by omega) (by omega)
    generalize (⟨(cutD ("abcdefghijklmnopqrstuvwxyz" : Str).cps.toList (some (3 + 5 * (0 + (r : Int)))) (some (8 + 5 * (0 + (r : Int))))).toArray⟩ : Str) = own at own1 own2
    refine hK9 _ _ (x_step fun K10 hK10 => ?_)
    simp only [Ok_ok, Ok_bind, x_nil, x_one, x_asg, x_exp, x_ret, x_retN, x_pas, x_brk, x_cnt, x_ife, nxQ_nx, nxQ_rt, nxQ_bk, nxQ_ct, rtQ_nx, rtQ_rt, d_var', gv_some, d_non, d_bl, d_int, d_str, d_glb, d_tup, d_lst, d_bin, d_cmp, d_neg, d_nt, d_isN, d_nsN, d_chn, d_and, d_or, d_ife, d_cal, d_bi, d_isi, d_mth, d_ix, d_sl, d_rvs, d_lrg, d_lc, l_nil, l_cons, o_nil, o_cons, oiD, negD, notD, i_rng, i_enm, i_zip, i_cons, g_var, g_tup, g_ix, gs_nil, gs_cons, b_add, b_sub, b_mul, b_modP, b_fdvP, b_pow, b_adds, b_addt, b_addl, b_mull, addL_eq, c_lt, c_le, c_gt, c_ge, c_eq, c_ne, eqO_f, eqO_t, eq_ii, eq_ss, bi_len, lenD_some, len_t, len_r, seqO_l, seqO_s, bi_int, bi_intb, bi_maxii, bi_minii, ofS_some, bi_listr, bi_listt, bi_tupr, bi_tupt, ixO_some, ix_t, ix_r, at_0, at_1, at_2, at_3, sl_t, sl_r, rv_r, set_r, Ok_lim, decide_eq_true_eq, Ok_tstN, Ok_tstP, Ok_tst, tst_t, tst_f, List.getElem?_cons_zero, List.getElem?_cons_succ, List.set_cons_zero, List.set_cons_succ, List.map_cons, List.map_nil, List.length_cons, List.length_nil, List.replicate_succ, List.replicate_zero, List.cons_append, List.nil_append, isN, cnt_nil, cnt_cons, Bool.not_true, Bool.not_false, if_true, if_false, Option.map_some, Nat.reduceAdd, Nat.reduceSub, Nat.reduceLT, Nat.reduceLeDiff, Int.reduceLT, Bool.false_eq_true]
    refine hl _ _ ?_
    refine Ok_newA fun a10 S10 ha10 e10 el10 f10 => ?_
    have p9 : p < S9.length := hp9.lt
    refine ho p _ _ _ _ _ (hp9.fr f10 (by simp)) (by omega) (by rw [seq_r, ha10]; rfl) (by intro h; cases h; omega) (by simp) (by simp) fun d S11 hd2 hp11 f11 => ?_
    obtain ⟨x, rfl, hx1, hx2, hx3⟩ : ∃ x : Str, d = .str x ∧ LowS x ∧ 0 < x.length ∧ x.length ≤ 1000000 := by
      simp only [List.mem_cons, List.not_mem_nil, or_false] at hd2
      rcases hd2 with rfl | rfl | rfl | rfl | rfl
      · exact ⟨_, rfl, by show ∀ c ∈ ("ab" : Str).cps.toList, 97 ≤ c ∧ c ≤ 122; decide +kernel, by decide +kernel, by decide +kernel⟩
      · exact ⟨_, rfl, by show ∀ c ∈ ("abc" : Str).cps.toList, 97 ≤ c ∧ c ≤ 122; decide +kernel, by decide +kernel, by decide +kernel⟩
      · exact ⟨_, rfl, own1, by omega, by omega⟩
      · exact ⟨_, rfl, own1, by omega, by omega⟩
      · exact ⟨_, rfl, abc_low, by rw [abc_len]; decide, by rw [abc_len]; decide⟩
    have hf11 : S11[f]? = some (.lst ds) := f11.get (f10.get0 (f9.get (F8.get0 hf) (by simp; omega))) (by simp; omega)
    have F11 : Fr [p] S S11 := ((F5.trans (F8.any.trans f9)).trans f10.any).trans f11
    refine hK10 _ _ ?_
    simp only [Ok_ok, Ok_bind, x_nil, x_one, x_asg, x_exp, x_ret, x_retN, x_pas, x_brk, x_cnt, x_ife, nxQ_nx, nxQ_rt, nxQ_bk, nxQ_ct, rtQ_nx, rtQ_rt, d_var', gv_some, d_non, d_bl, d_int, d_str, d_glb, d_tup, d_lst, d_bin, d_cmp, d_neg, d_nt, d_isN, d_nsN, d_chn, d_and, d_or, d_ife, d_cal, d_bi, d_isi, d_mth, d_ix, d_sl, d_rvs, d_lrg, d_lc, l_nil, l_cons, o_nil, o_cons, oiD, negD, notD, i_rng, i_enm, i_zip, i_cons, g_var, g_tup, g_ix, gs_nil, gs_cons, b_add, b_sub, b_mul, b_modP, b_fdvP, b_pow, b_adds, b_addt, b_addl, b_mull, addL_eq, c_lt, c_le, c_gt, c_ge, c_eq, c_ne, eqO_f, eqO_t, eq_ii, eq_ss, bi_len, lenD_some, len_t, len_r, seqO_l, seqO_s, bi_int, bi_intb, bi_maxii, bi_minii, ofS_some, bi_listr, bi_listt, bi_tupr, bi_tupt, ixO_some, ix_t, ix_r, at_0, at_1, at_2, at_3, sl_t, sl_r, rv_r, set_r, Ok_lim, decide_eq_true_eq, Ok_tstN, Ok_tstP, Ok_tst, tst_t, tst_f, List.getElem?_cons_zero, List.getElem?_cons_succ, List.set_cons_zero, List.set_cons_succ, List.map_cons, List.map_nil, List.length_cons, List.length_nil, List.replicate_succ, List.replicate_zero, List.cons_append, List.nil_append, isN, cnt_nil, cnt_cons, Bool.not_true, Bool.not_false, if_true, if_false, Option.map_some, Nat.reduceAdd, Nat.reduceSub, Nat.reduceLT, Nat.reduceLeDiff, Int.reduceLT, Bool.false_eq_true, mk_append hf11, mk_join]
    rw [rg_1 (by omega) (by omega)]
    refine lcGo_ok (fun (i : Nat) (rs : List D) (S' : Hs) => ∃ cs : List Nat, rs = cs.map (fun c => D.str ⟨#[c]⟩) ∧ cs.length = i ∧ (∀ c ∈ cs, 97 ≤ c ∧ c ≤ 122) ∧ Pen S' p (k + 2 + 12 * r + 2 + i) ∧ Fr [p] S11 S') ⟨[], rfl, rfl, by simp, hp11, .refl⟩ (fun _ _ _ _ _ => held_nil) ?_ ?_
    · rintro i d rs S' hd ⟨cs, rfl, h1, h2, h3, h4⟩
      obtain ⟨hin, rfl⟩ := rangeD_get hd
      rw [lcT_eq]
      simp only [wipeR, Ok_ok, Ok_bind, x_nil, x_one, x_asg, x_exp, x_ret, x_retN, x_pas, x_brk, x_cnt, x_ife, nxQ_nx, nxQ_rt, nxQ_bk, nxQ_ct, rtQ_nx, rtQ_rt, d_var', gv_some, d_non, d_bl, d_int, d_str, d_glb, d_tup, d_lst, d_bin, d_cmp, d_neg, d_nt, d_isN, d_nsN, d_chn, d_and, d_or, d_ife, d_cal, d_bi, d_isi, d_mth, d_ix, d_sl, d_rvs, d_lrg, d_lc, l_nil, l_cons, o_nil, o_cons, oiD, negD, notD, i_rng, i_enm, i_zip, i_cons, g_var, g_tup, g_ix, gs_nil, gs_cons, b_add, b_sub, b_mul, b_modP, b_fdvP, b_pow, b_adds, b_addt, b_addl, b_mull, addL_eq, c_lt, c_le, c_gt, c_ge, c_eq, c_ne, eqO_f, eqO_t, eq_ii, eq_ss, bi_len, lenD_some, len_t, len_r, seqO_l, seqO_s, bi_int, bi_intb, bi_maxii, bi_minii, ofS_some, bi_listr, bi_listt, bi_tupr, bi_tupt, ixO_some, ix_t, ix_r, at_0, at_1, at_2, at_3, sl_t, sl_r, rv_r, set_r, Ok_lim, decide_eq_true_eq, Ok_tstN, Ok_tstP, Ok_tst, tst_t, tst_f, List.getElem?_cons_zero, List.getElem?_cons_succ, List.set_cons_zero, List.set_cons_succ, List.map_cons, List.map_nil, List.length_cons, List.length_nil, List.replicate_succ, List.replicate_zero, List.cons_append, List.nil_append, isN, cnt_nil, cnt_cons, Bool.not_true, Bool.not_false, if_true, if_false, Option.map_some, Nat.reduceAdd, Nat.reduceSub, Nat.reduceLT, Nat.reduceLeDiff, Int.reduceLT, Bool.false_eq_true]
      refine hos _ _ _ _ _ h3 (by omega) hx2 hx3 fun c S'' hc hp' f' => ?_
      exact ⟨cs ++ [c], by simp, by simp [h1], fun c' hc' => (List.mem_append.mp hc').elim (h2 c') fun h => by rw [List.mem_singleton.mp h]; exact hx1 c hc, hp', h4.trans f'⟩
    · rintro rs S12 ⟨cs, rfl, h1, h2, h3, h4⟩
      rw [rangeD_len] at h1 h3 ⊢
      rw [Ok_lim (by omega)]
      refine Ok_newA fun a13 S13 ha13 e13 el13 f13 => ?_
      rw [m_join (ds := cs.map fun c => D.str ⟨#[c]⟩) (by rw [seq_r, ha13]; rfl) (strsOf_map cs) (by
        rw [len_map, List.length_map]
        have : ("" : Str).length = 0 := by decide
        rw [this]; omega), join_signs]
      have hf13 : S13[f]? = some (.lst ds) := f13.get0 (h4.get hf11 (by simp; omega))
      rw [m_append hf13 (by omega)]
      have fS13 := lt_of_get hf13
      have hR : ReelD (.tup [.str ⟨cs.toArray⟩, .int loss, .bl turns]) := ⟨_, _, _, rfl, fun c hc => h2 c (by simpa using hc), by show 1 ≤ cs.toArray.size; simp; omega, by show cs.toArray.size ≤ 10; simp; omega, g4, by show loss ≤ (cs.toArray.size : Int); simp; omega⟩
      have hlen : ((⟨cs.toArray⟩ : Str).length : Int) = many := by show (cs.toArray.size : Int) = many; simp; omega
      have hfR : facR (.tup [.str ⟨cs.toArray⟩, .int loss, .bl turns]) = fac + 1 := by simp only [facR, hlen, hfac]
      have hA0 : 0 ≤ product * (fac + 1) := Int.mul_nonneg (by omega) (by omega)
      have hA100 : product * (fac + 1) * w2 later ≤ 100 := by
        have h1 : (fac + 1) * (product * w2 later) ≤ room * (product * w2 later) := Int.mul_le_mul_of_nonneg_right (by omega) (by omega)
        have e : product * (fac + 1) * w2 later = (fac + 1) * (product * w2 later) := by rw [Int.mul_comm product, Int.mul_assoc]
        omega
      refine ⟨m - many, product * (fac + 1), ds ++ [.tup [.str ⟨cs.toArray⟩, .int loss, .bl turns]], _, _, _, _, _, _, _, _, _, _, _, _, _, rfl, by rw [List.getElem?_set_self fS13], by simp [hr], fun d hd => ?_, by rw [prodR_app, hpr, hfR], by rw [sumR_app]; simp only [lenR, hlen]; omega, ?_, ?_, fun hlt => ?_, by omega, ?_, ?_⟩
      · rcases List.mem_append.mp hd with h | h
        · exact hds d h
        · rw [List.mem_singleton.mp h]; exact hR
      · have := Int.mul_le_mul p0 (show 1 ≤ fac + 1 by omega) (by decide) (by omega); omega
      · have hA := hA100; have := Int.mul_le_mul_of_nonneg_left w0.1 hA0; omega
      · have e2 : w2 later = 2 * w2 (c - 1 - ((r + 1 : Nat) : Int)) := by
          have e3 : c - 1 - ((r + 1 : Nat) : Int) = later - 1 := by omega
          rw [e3]
          have : later = 1 ∨ later = 2 ∨ later = 3 := by omega
          rcases this with e | e | e <;> rw [e] <;> decide
        rw [e2, Int.mul_left_comm] at hA100
        omega
      · refine Pen.mono (k := k + 2 + 12 * r + 2 + many.toNat) ?_ (by omega)
        have : p < f := by omega
        have h3' : Pen S12 p (k + 2 + 12 * r + 2 + many.toNat) := h3.mono (by omega)
        exact (h3'.fr f13 (by simp)).set this
      · exact (F11.trans (h4.trans f13.any)).since (j := f) (.set (by simp)) fS
  · rintro ρ S5 ⟨m, product, ds, u2, u8, u9, u10, u11, u12, u13, u14, u15, u16, u17, u18, u19, rfl, hf, hr, hds, hpr, hsum, p0, p1, hw, hm, hp5, F5⟩
    rw [rangeD_len] at hr hp5 hm
    refine hK2 _ _ (x_step fun K3 hK3 => ?_)
    simp only [Ok_ok, Ok_bind, x_nil, x_one, x_asg, x_exp, x_ret, x_retN, x_pas, x_brk, x_cnt, x_ife, nxQ_nx, nxQ_rt, nxQ_bk, nxQ_ct, rtQ_nx, rtQ_rt, d_var', gv_some, d_non, d_bl, d_int, d_str, d_glb, d_tup, d_lst, d_bin, d_cmp, d_neg, d_nt, d_isN, d_nsN, d_chn, d_and, d_or, d_ife, d_cal, d_bi, d_isi, d_mth, d_ix, d_sl, d_rvs, d_lrg, d_lc, l_nil, l_cons, o_nil, o_cons, oiD, negD, notD, i_rng, i_enm, i_zip, i_cons, g_var, g_tup, g_ix, gs_nil, gs_cons, b_add, b_sub, b_mul, b_modP, b_fdvP, b_pow, b_adds, b_addt, b_addl, b_mull, addL_eq, c_lt, c_le, c_gt, c_ge, c_eq, c_ne, eqO_f, eqO_t, eq_ii, eq_ss, bi_len, lenD_some, len_t, len_r, seqO_l, seqO_s, bi_int, bi_intb, bi_maxii, bi_minii, ofS_some, bi_listr, bi_listt, bi_tupr, bi_tupt, ixO_some, ix_t, ix_r, at_0, at_1, at_2, at_3, sl_t, sl_r, rv_r, set_r, Ok_lim, decide_eq_true_eq, Ok_tstN, Ok_tstP, Ok_tst, tst_t, tst_f, List.getElem?_cons_zero, List.getElem?_cons_succ, List.set_cons_zero, List.set_cons_succ, List.map_cons, List.map_nil, List.length_cons, List.length_nil, List.replicate_succ, List.replicate_zero, List.cons_append, List.nil_append, isN, cnt_nil, cnt_cons, Bool.not_true, Bool.not_false, if_true, if_false, Option.map_some, Nat.reduceAdd, Nat.reduceSub, Nat.reduceLT, Nat.reduceLeDiff, Int.reduceLT, Bool.false_eq_true]
    refine Ok_newA fun a S6 ha ea ela f6 => ?_
    have hf6 := f6.get0 hf
    have haf : a ≠ f := by have := lt_of_get hf; omega
    have hap : p < a := by have := hp5.lt; omega
    have hfp : p < f := by omega
    refine hK3 _ _ (x_step fun K4 hK4 => ?_)
    rw [x_whl]
    refine whlGo_ok (fun (n : Nat) (ρ : Rho) (S' : Hs) => ∃ (xs ys : List D), ρ = [some (.ref p), some (.int m), u2, some (.ref a), some (.int c), some (.int product), some (.ref f), some (.bl pl), u8, u9, u10, u11, u12, u13, u14, u15, u16, u17, u18, u19] ∧
        S'[f]? = some (.lst xs) ∧ S'[a]? = some (.lst ys) ∧ xs.length = n ∧ (ys ++ xs).Perm ds ∧ n ≤ 4 ∧ Pen S' p (k + 90 - n) ∧ Fr [p] S S')
      ds.length (by omega) ⟨ds, [], rfl, hf6, ha, rfl, .refl _, by omega, (hp5.fr f6 (by simp)).mono (by omega), F5.trans f6.any⟩ ?_
    rintro n ρ S7 ⟨xs, ys, rfl, hx, hy, hn, hperm, hn4, hp7, F7⟩
    have hl := hperm.length_eq
    rw [List.length_append] at hl
    have hxd : ∀ d ∈ xs, ReelD d := fun d hd => hds d (hperm.subset (List.mem_append_right _ hd))
    simp only [Ok_ok, Ok_bind, x_nil, x_one, x_asg, x_exp, x_ret, x_retN, x_pas, x_brk, x_cnt, x_ife, nxQ_nx, nxQ_rt, nxQ_bk, nxQ_ct, rtQ_nx, rtQ_rt, d_var', gv_some, d_non, d_bl, d_int, d_str, d_glb, d_tup, d_lst, d_bin, d_cmp, d_neg, d_nt, d_isN, d_nsN, d_chn, d_and, d_or, d_ife, d_cal, d_bi, d_isi, d_mth, d_ix, d_sl, d_rvs, d_lrg, d_lc, l_nil, l_cons, o_nil, o_cons, oiD, negD, notD, i_rng, i_enm, i_zip, i_cons, g_var, g_tup, g_ix, gs_nil, gs_cons, b_add, b_sub, b_mul, b_modP, b_fdvP, b_pow, b_adds, b_addt, b_addl, b_mull, addL_eq, c_lt, c_le, c_gt, c_ge, c_eq, c_ne, eqO_f, eqO_t, eq_ii, eq_ss, bi_len, lenD_some, len_t, len_r, seqO_l, seqO_s, bi_int, bi_intb, bi_maxii, bi_minii, ofS_some, bi_listr, bi_listt, bi_tupr, bi_tupt, ixO_some, ix_t, ix_r, at_0, at_1, at_2, at_3, sl_t, sl_r, rv_r, set_r, Ok_lim, decide_eq_true_eq, Ok_tstN, Ok_tstP, Ok_tst, tst_t, tst_f, List.getElem?_cons_zero, List.getElem?_cons_succ, List.set_cons_zero, List.set_cons_succ, List.map_cons, List.map_nil, List.length_cons, List.length_nil, List.replicate_succ, List.replicate_zero, List.cons_append, List.nil_append, isN, cnt_nil, cnt_cons, Bool.not_true, Bool.not_false, if_true, if_false, Option.map_some, Nat.reduceAdd, Nat.reduceSub, Nat.reduceLT, Nat.reduceLeDiff, Int.reduceLT, Bool.false_eq_true]
    refine Ok_newA fun b S8 hb eb elb f8 => ?_
    rw [eq_nil (f8.get0 hx) hb (pureDs_mem.mpr fun d hd => (hxd d hd).pure) (deps_le.mpr fun d hd => (hxd d hd).dep), eqO_t]
    refine ⟨_, rfl, fun hne => ?_, fun he => ?_⟩
    · have hxne : xs ≠ [] := by intro e; simp [e] at hne
      have hxpos := List.length_pos_iff.mpr hxne
      refine ⟨by omega, ?_⟩
      have hx8 := f8.get0 hx
      have hy8 := f8.get0 hy
      have hp8 := hp7.fr f8 (by simp)
      simp only [Ok_ok, Ok_bind, x_nil, x_one, x_asg, x_exp, x_ret, x_retN, x_pas, x_brk, x_cnt, x_ife, nxQ_nx, nxQ_rt, nxQ_bk, nxQ_ct, rtQ_nx, rtQ_rt, d_var', gv_some, d_non, d_bl, d_int, d_str, d_glb, d_tup, d_lst, d_bin, d_cmp, d_neg, d_nt, d_isN, d_nsN, d_chn, d_and, d_or, d_ife, d_cal, d_bi, d_isi, d_mth, d_ix, d_sl, d_rvs, d_lrg, d_lc, l_nil, l_cons, o_nil, o_cons, oiD, negD, notD, i_rng, i_enm, i_zip, i_cons, g_var, g_tup, g_ix, gs_nil, gs_cons, b_add, b_sub, b_mul, b_modP, b_fdvP, b_pow, b_adds, b_addt, b_addl, b_mull, addL_eq, c_lt, c_le, c_gt, c_ge, c_eq, c_ne, eqO_f, eqO_t, eq_ii, eq_ss, bi_len, lenD_some, len_t, len_r, seqO_l, seqO_s, bi_int, bi_intb, bi_maxii, bi_minii, ofS_some, bi_listr, bi_listt, bi_tupr, bi_tupt, ixO_some, ix_t, ix_r, at_0, at_1, at_2, at_3, sl_t, sl_r, rv_r, set_r, Ok_lim, decide_eq_true_eq, Ok_tstN, Ok_tstP, Ok_tst, tst_t, tst_f, List.getElem?_cons_zero, List.getElem?_cons_succ, List.set_cons_zero, List.set_cons_succ, List.map_cons, List.map_nil, List.length_cons, List.length_nil, List.replicate_succ, List.replicate_zero, List.cons_append, List.nil_append, isN, cnt_nil, cnt_cons, Bool.not_true, Bool.not_false, if_true, if_false, Option.map_some, Nat.reduceAdd, Nat.reduceSub, Nat.reduceLT, Nat.reduceLeDiff, Int.reduceLT, Bool.false_eq_true, mk_append hy8, mk_pop hx8, hx8]
      refine ht _ _ _ _ _ hp8 (by omega) (by omega) (by omega) fun z S9 z0 z1 hp9 f9 => ?_
      obtain ⟨j, rfl⟩ := Int.eq_ofNat_of_zero_le z0
      have hj : j < xs.length := by omega
      have hx9 := f9.get hx8 (by simp; omega)
      have hy9 := f9.get hy8 (by simp; omega)
      rw [m_popi hx9 (List.getElem?_eq_getElem hj) (by omega)]
      rw [m_append (xs := ys) (by rw [List.getElem?_set_ne (Ne.symm haf)]; exact hy9) (by omega)]
      have l1 := lt_of_get hx9
      have l2 := lt_of_get hy9
      refine ⟨xs.eraseIdx j, ys ++ [xs[j]], trivial, ?_, ?_, ?_, ?_, by omega, ?_, ?_⟩
      · rw [List.getElem?_set_ne haf, List.getElem?_set_self l1]
      · rw [List.getElem?_set_self (by rw [List.length_set]; exact l2)]
      · rw [List.length_eraseIdx_of_lt hj]; omega
      · refine List.Perm.trans ?_ hperm
        rw [List.append_assoc]
        exact List.Perm.append_left _ (erase_perm hj)
      · exact ((hp9.mono (by omega)).set hfp).set hap
      · have q1 : Fr [p] S S9 := (F7.trans f8.any).trans f9
        exact (q1.since (j := f) (.set (by simp)) fS).since (j := a) (.set (by simp)) (by have := F5.1; omega)
    · have hx0 : xs = [] := by
        by_cases e : xs = []
        · exact e
        · simp [e] at he
      subst hx0
      rw [List.append_nil] at hperm
      refine hK4 _ _ ?_
      simp only [Ok_ok, Ok_bind, x_nil, x_one, x_asg, x_exp, x_ret, x_retN, x_pas, x_brk, x_cnt, x_ife, nxQ_nx, nxQ_rt, nxQ_bk, nxQ_ct, rtQ_nx, rtQ_rt, d_var', gv_some, d_non, d_bl, d_int, d_str, d_glb, d_tup, d_lst, d_bin, d_cmp, d_neg, d_nt, d_isN, d_nsN, d_chn, d_and, d_or, d_ife, d_cal, d_bi, d_isi, d_mth, d_ix, d_sl, d_rvs, d_lrg, d_lc, l_nil, l_cons, o_nil, o_cons, oiD, negD, notD, i_rng, i_enm, i_zip, i_cons, g_var, g_tup, g_ix, gs_nil, gs_cons, b_add, b_sub, b_mul, b_modP, b_fdvP, b_pow, b_adds, b_addt, b_addl, b_mull, addL_eq, c_lt, c_le, c_gt, c_ge, c_eq, c_ne, eqO_f, eqO_t, eq_ii, eq_ss, bi_len, lenD_some, len_t, len_r, seqO_l, seqO_s, bi_int, bi_intb, bi_maxii, bi_minii, ofS_some, bi_listr, bi_listt, bi_tupr, bi_tupt, ixO_some, ix_t, ix_r, at_0, at_1, at_2, at_3, sl_t, sl_r, rv_r, set_r, Ok_lim, decide_eq_true_eq, Ok_tstN, Ok_tstP, Ok_tst, tst_t, tst_f, List.getElem?_cons_zero, List.getElem?_cons_succ, List.set_cons_zero, List.set_cons_succ, List.map_cons, List.map_nil, List.length_cons, List.length_nil, List.replicate_succ, List.replicate_zero, List.cons_append, List.nil_append, isN, cnt_nil, cnt_cons, Bool.not_true, Bool.not_false, if_true, if_false, Option.map_some, Nat.reduceAdd, Nat.reduceSub, Nat.reduceLT, Nat.reduceLeDiff, Int.reduceLT, Bool.false_eq_true, f8.get0 hy]
      exact q ys S8 (by simp at hl; omega) (by simp at hl; omega) (fun d hd => hds d (hperm.subset hd)) (by rw [prodR_perm hperm]; omega) (by rw [sumR_perm hperm]; omega) ((hp7.fr f8 (by simp)).mono (by omega)) (F7.trans f8.any)
end RS

namespace RS
open PySem
/-- a frame's pair -/
def PairD (n : Nat) (d : D) : Prop := ∃ r q : Int, d = .tup [.int r, .int q] ∧ 0 ≤ r ∧ r < n ∧ 0 ≤ q ∧ q < 10
theorem PairD.pure {n : Nat} {d : D} (h : PairD n d) : pureD d = true := by
  obtain ⟨r, q, rfl, _⟩ := h; rfl
theorem PairD.dep {n : Nat} {d : D} (h : PairD n d) : dep d ≤ 60 := by
  obtain ⟨r, q, rfl, _⟩ := h; simp [RS.dep, deps]
abbrev Rw := List (Nat × List D)
def sumLen (rw : Rw) : Nat := (rw.map fun x => x.2.length).sum
def popAt (b : Nat) (rw : Rw) : Rw := rw.map fun z => if z.1 = b then (z.1, z.2.eraseIdx 0) else z
theorem popAt_fst (b : Nat) (rw : Rw) : (popAt b rw).map (·.1) = rw.map (·.1) := by
  unfold popAt
  rw [List.map_map]
  refine List.map_congr_left fun z _ => ?_
  simp only [Function.comp]
  split <;> rfl
theorem popAt_not {b : Nat} {rw : Rw} (h : b ∉ rw.map (·.1)) : popAt b rw = rw := by
  unfold popAt
  conv => rhs; rw [← List.map_id rw]
  refine List.map_congr_left fun z hz => ?_
  rw [if_neg fun e => h (List.mem_map.mpr ⟨z, hz, e⟩)]; rfl
theorem popAt_sum {b : Nat} {xs : List D} : ∀ {rw : Rw}, (rw.map (·.1)).Nodup → (b, xs) ∈ rw → xs ≠ [] → sumLen (popAt b rw) + 1 = sumLen rw
  | [], _, h, _ => by cases h
  | z :: rw, hn, h, hx => by
    rw [List.map_cons, List.nodup_cons] at hn
    rcases List.mem_cons.mp h with e | e
    · subst e
      have e2 := popAt_not hn.1
      have : 0 < xs.length := List.length_pos_iff.mpr hx
      show sumLen ((if b = b then (b, xs.eraseIdx 0) else (b, xs)) :: popAt b rw) + 1 = _
      rw [e2, if_pos rfl]
      simp only [sumLen, List.map_cons, List.sum_cons]
      rw [List.length_eraseIdx_of_lt this]
      omega
    · have ih := popAt_sum hn.2 e hx
      have : z.1 ≠ b := fun q => hn.1 (by rw [q]; exact List.mem_map.mpr ⟨_, e, rfl⟩)
      show sumLen ((if z.1 = b then (z.1, z.2.eraseIdx 0) else z) :: popAt b rw) + 1 = _
      rw [if_neg this]
      simp only [sumLen, List.map_cons, List.sum_cons] at ih ⊢
      omega
theorem sumLen_pos {rw : Rw} (h : 0 < sumLen rw) : ∃ x ∈ rw, x.2 ≠ [] := by
  induction rw with
  | nil => simp [sumLen] at h
  | cons z rw ih =>
    by_cases e : z.2 = []
    · simp only [sumLen, List.map_cons, List.sum_cons, e, List.length_nil, Nat.zero_add] at h
      obtain ⟨x, h1, h2⟩ := ih h
      exact ⟨x, by simp [h1], h2⟩
    · exact ⟨z, by simp, e⟩
theorem sumLen_le {rw : Rw} {n : Nat} (h : ∀ x ∈ rw, x.2.length ≤ n) : sumLen rw ≤ rw.length * n := by
  induction rw with
  | nil => simp [sumLen]
  | cons z rw ih =>
    have h1 := h z (by simp)
    have h2 := ih fun x hx => h x (by simp [hx])
    simp only [sumLen, List.map_cons, List.sum_cons, List.length_cons, Nat.succ_mul] at h2 ⊢
    omega
/-- the rows: their places in the heap -/
def RowsAt (S : Hs) (lo n : Nat) (rw : Rw) : Prop := (rw.map (·.1)).Nodup ∧ ∀ x ∈ rw, lo ≤ x.1 ∧ S[x.1]? = some (.lst x.2) ∧ x.2.length ≤ 10 ∧ ∀ d ∈ x.2, PairD n d
theorem RowsAt.fr {S S' : Hs} {lo n : Nat} {rw : Rw} {m : List Nat} (h : RowsAt S lo n rw) (f : Fr m S S') (hm : ∀ i ∈ m, i < lo) : RowsAt S' lo n rw :=
  ⟨h.1, fun x hx => by
    obtain ⟨h1, h2, h3⟩ := h.2 x hx
    exact ⟨h1, f.get h2 fun z => by have := hm _ z; omega, h3⟩⟩
theorem ints_sum (rw : Rw) : intsOf (rw.map fun x => D.int (x.2.length : Int)) = some (rw.map fun x => (x.2.length : Int)) ∧ (rw.map fun x => (x.2.length : Int)).sum = (sumLen rw : Int) := by
  induction rw with
  | nil => exact ⟨rfl, rfl⟩
  | cons x rw ih =>
    refine ⟨?_, ?_⟩
    · have := ih.1
      unfold intsOf at this ⊢
      simp only [List.map_cons, mapO, asI, this]
    · have := ih.2
      simp only [List.map_cons, List.sum_cons, sumLen] at this ⊢
      omega
theorem m_pop0 {S : Hs} {Q : D → Hs → Prop} {a : Nat} {xs : List D} {d : D} (h : S[a]? = some (.lst xs)) (e : xs[0]? = some d) : Ok (mtF S .pop (.ref a) [.int 0]) Q = Q d (S.set a (.lst (xs.eraseIdx 0))) := m_popi (k := 0) h e (by decide)
theorem draw_cut_ok {Φ : Nat → List D → Hs → R D} {G : Nat → D} {W i1 it p k : Nat} {ds : List D} {S : Hs} {Q : D → Hs → Prop} (ho : OneOk Φ i1) (ht : TakeOk Φ it) (hp : Pen S p k) (hk : k + 200 ≤ 1048576) (hds : ∀ d ∈ ds, ReelD d) (hl : ds.length ≤ 4)
    (q : ∀ a xs S', S'[a]? = some (.lst xs) → S.length ≤ a → (∀ d ∈ xs, PairD ds.length d) → xs.length ≤ 40 → Pen S' p (k + 100) → Fr [p] S S' → Q (.ref a) S') :
    Ok (exec Φ G W (B_law_draw_cut it i1) [some (.ref p), some (.tup ds), none, none, none, none, none, none, none, none] S) (rtQ Q) := by
  unfold B_law_draw_cut
  refine x_step fun K1 hK1 => ?_
  simp only [Ok_ok, Ok_bind, x_nil, x_one, x_asg, x_exp, x_ret, x_retN, x_pas, x_brk, x_cnt, x_ife, nxQ_nx, nxQ_rt, nxQ_bk, nxQ_ct, rtQ_nx, rtQ_rt, d_var', gv_some, d_non, d_bl, d_int, d_str, d_glb, d_tup, d_lst, d_bin, d_cmp, d_neg, d_nt, d_isN, d_nsN, d_chn, d_and, d_or, d_ife, d_cal, d_bi, d_isi, d_mth, d_ix, d_sl, d_rvs, d_lrg, d_lc, l_nil, l_cons, o_nil, o_cons, oiD, negD, notD, i_rng, i_enm, i_zip, i_cons, g_var, g_tup, g_ix, gs_nil, gs_cons, b_add, b_sub, b_mul, b_modP, b_fdvP, b_pow, b_adds, b_addt, b_addl, b_mull, addL_eq, c_lt, c_le, c_gt, c_ge, c_eq, c_ne, eqO_f, eqO_t, eq_ii, eq_ss, bi_len, lenD_some, len_t, len_r, seqO_l, seqO_s, bi_int, bi_intb, bi_maxii, bi_minii, ofS_some, bi_listr, bi_listt, bi_tupr, bi_tupt, ixO_some, ix_t, ix_r, at_0, at_1, at_2, at_3, sl_t, sl_r, rv_r, set_r, Ok_lim, decide_eq_true_eq, Ok_tstN, Ok_tstP, Ok_tst, tst_t, tst_f, List.getElem?_cons_zero, List.getElem?_cons_succ, List.set_cons_zero, List.set_cons_succ, List.map_cons, List.map_nil, List.length_cons, List.length_nil, List.replicate_succ, List.replicate_zero, List.cons_append, List.nil_append, isN, cnt_nil, cnt_cons, Bool.not_true, Bool.not_false, if_true, if_false, Option.map_some, Nat.reduceAdd, Nat.reduceSub, Nat.reduceLT, Nat.reduceLeDiff, Int.reduceLT, Bool.false_eq_true]
  have pS := hp.lt
  refine Ok_newA fun ra S1 hra era elra f1 => ?_
  refine Ok_newA fun ca S2 hca eca elca f2 => ?_
  have hra2 := f2.get0 hra
  refine hK1 _ _ (x_step fun K2 hK2 => ?_)
  rw [x_for]
  simp only [Ok_ok, Ok_bind, x_nil, x_one, x_asg, x_exp, x_ret, x_retN, x_pas, x_brk, x_cnt, x_ife, nxQ_nx, nxQ_rt, nxQ_bk, nxQ_ct, rtQ_nx, rtQ_rt, d_var', gv_some, d_non, d_bl, d_int, d_str, d_glb, d_tup, d_lst, d_bin, d_cmp, d_neg, d_nt, d_isN, d_nsN, d_chn, d_and, d_or, d_ife, d_cal, d_bi, d_isi, d_mth, d_ix, d_sl, d_rvs, d_lrg, d_lc, l_nil, l_cons, o_nil, o_cons, oiD, negD, notD, i_rng, i_enm, i_zip, i_cons, g_var, g_tup, g_ix, gs_nil, gs_cons, b_add, b_sub, b_mul, b_modP, b_fdvP, b_pow, b_adds, b_addt, b_addl, b_mull, addL_eq, c_lt, c_le, c_gt, c_ge, c_eq, c_ne, eqO_f, eqO_t, eq_ii, eq_ss, bi_len, lenD_some, len_t, len_r, seqO_l, seqO_s, bi_int, bi_intb, bi_maxii, bi_minii, ofS_some, bi_listr, bi_listt, bi_tupr, bi_tupt, ixO_some, ix_t, ix_r, at_0, at_1, at_2, at_3, sl_t, sl_r, rv_r, set_r, Ok_lim, decide_eq_true_eq, Ok_tstN, Ok_tstP, Ok_tst, tst_t, tst_f, List.getElem?_cons_zero, List.getElem?_cons_succ, List.set_cons_zero, List.set_cons_succ, List.map_cons, List.map_nil, List.length_cons, List.length_nil, List.replicate_succ, List.replicate_zero, List.cons_append, List.nil_append, isN, cnt_nil, cnt_cons, Bool.not_true, Bool.not_false, if_true, if_false, Option.map_some, Nat.reduceAdd, Nat.reduceSub, Nat.reduceLT, Nat.reduceLeDiff, Int.reduceLT, Bool.false_eq_true]
  rw [en_t]
  refine forGo_ok (fun (i : Nat) (ρ : Rho) (S' : Hs) => ∃ (rw : Rw) (u2 u5 u6 u7 u8 u9 : Option D), ρ = [some (.ref p), some (.tup ds), u2, some (.ref ra), some (.ref ca), u5, u6, u7, u8, u9] ∧
      S'[ra]? = some (.lst (rw.map fun x => .ref x.1)) ∧ S'[ca]? = some (.lst []) ∧ RowsAt S' S2.length ds.length rw ∧ rw.length = i ∧ Pen S' p (k + 12 * i) ∧ Fr [p] S S')
    ⟨[], none, none, none, none, none, none, rfl, hra2, hca, ⟨by simp, by simp⟩, rfl, (hp.fr f1 (by simp)).fr f2 (by simp), (f1.trans f2).any⟩ (fun _ _ _ _ _ => held_nil) ?_ ?_
  · rintro i d ρ S3 hd ⟨rw, u2, u5, u6, u7, u8, u9, rfl, hr3, hc3, hrw, hi, hp3, F3⟩
    rw [numbered_get] at hd
    cases ed : ds[i]? with
    | none => rw [ed] at hd; cases hd
    | some d0 =>
    rw [ed] at hd
    cases hd
    have hil := (List.getElem?_eq_some_iff.mp ed).1
    obtain ⟨s, loss, turns, rfl, s1, s2, s3, l0, l1⟩ := hds _ (List.mem_of_getElem? ed)
    simp only [Ok_ok, Ok_bind, x_nil, x_one, x_asg, x_exp, x_ret, x_retN, x_pas, x_brk, x_cnt, x_ife, nxQ_nx, nxQ_rt, nxQ_bk, nxQ_ct, rtQ_nx, rtQ_rt, d_var', gv_some, d_non, d_bl, d_int, d_str, d_glb, d_tup, d_lst, d_bin, d_cmp, d_neg, d_nt, d_isN, d_nsN, d_chn, d_and, d_or, d_ife, d_cal, d_bi, d_isi, d_mth, d_ix, d_sl, d_rvs, d_lrg, d_lc, l_nil, l_cons, o_nil, o_cons, oiD, negD, notD, i_rng, i_enm, i_zip, i_cons, g_var, g_tup, g_ix, gs_nil, gs_cons, b_add, b_sub, b_mul, b_modP, b_fdvP, b_pow, b_adds, b_addt, b_addl, b_mull, addL_eq, c_lt, c_le, c_gt, c_ge, c_eq, c_ne, eqO_f, eqO_t, eq_ii, eq_ss, bi_len, lenD_some, len_t, len_r, seqO_l, seqO_s, bi_int, bi_intb, bi_maxii, bi_minii, ofS_some, bi_listr, bi_listt, bi_tupr, bi_tupt, ixO_some, ix_t, ix_r, at_0, at_1, at_2, at_3, sl_t, sl_r, rv_r, set_r, Ok_lim, decide_eq_true_eq, Ok_tstN, Ok_tstP, Ok_tst, tst_t, tst_f, List.getElem?_cons_zero, List.getElem?_cons_succ, List.set_cons_zero, List.set_cons_succ, List.map_cons, List.map_nil, List.length_cons, List.length_nil, List.replicate_succ, List.replicate_zero, List.cons_append, List.nil_append, isN, cnt_nil, cnt_cons, Bool.not_true, Bool.not_false, if_true, if_false, Option.map_some, Nat.reduceAdd, Nat.reduceSub, Nat.reduceLT, Nat.reduceLeDiff, Int.reduceLT, Bool.false_eq_true]
    refine x_step fun K3 hK3 => ?_
    simp only [Ok_ok, Ok_bind, x_nil, x_one, x_asg, x_exp, x_ret, x_retN, x_pas, x_brk, x_cnt, x_ife, nxQ_nx, nxQ_rt, nxQ_bk, nxQ_ct, rtQ_nx, rtQ_rt, d_var', gv_some, d_non, d_bl, d_int, d_str, d_glb, d_tup, d_lst, d_bin, d_cmp, d_neg, d_nt, d_isN, d_nsN, d_chn, d_and, d_or, d_ife, d_cal, d_bi, d_isi, d_mth, d_ix, d_sl, d_rvs, d_lrg, d_lc, l_nil, l_cons, o_nil, o_cons, oiD, negD, notD, i_rng, i_enm, i_zip, i_cons, g_var, g_tup, g_ix, gs_nil, gs_cons, b_add, b_sub, b_mul, b_modP, b_fdvP, b_pow, b_adds, b_addt, b_addl, b_mull, addL_eq, c_lt, c_le, c_gt, c_ge, c_eq, c_ne, eqO_f, eqO_t, eq_ii, eq_ss, bi_len, lenD_some, len_t, len_r, seqO_l, seqO_s, bi_int, bi_intb, bi_maxii, bi_minii, ofS_some, bi_listr, bi_listt, bi_tupr, bi_tupt, ixO_some, ix_t, ix_r, at_0, at_1, at_2, at_3, sl_t, sl_r, rv_r, set_r, Ok_lim, decide_eq_true_eq, Ok_tstN, Ok_tstP, Ok_tst, tst_t, tst_f, List.getElem?_cons_zero, List.getElem?_cons_succ, List.set_cons_zero, List.set_cons_succ, List.map_cons, List.map_nil, List.length_cons, List.length_nil, List.replicate_succ, List.replicate_zero, List.cons_append, List.nil_append, isN, cnt_nil, cnt_cons, Bool.not_true, Bool.not_false, if_true, if_false, Option.map_some, Nat.reduceAdd, Nat.reduceSub, Nat.reduceLT, Nat.reduceLeDiff, Int.reduceLT, Bool.false_eq_true, len_s (show s.length ≤ 1000000 by omega)]
    rw [lr_1 (by omega) (by omega)]
    refine Ok_newA fun b S4 hb eb elb f4 => ?_
    have hp4 := hp3.fr f4 (by simp)
    refine hK3 _ _ (x_step fun K4 hK4 => ?_)
    rw [x_for]
    simp only [Ok_ok, Ok_bind, x_nil, x_one, x_asg, x_exp, x_ret, x_retN, x_pas, x_brk, x_cnt, x_ife, nxQ_nx, nxQ_rt, nxQ_bk, nxQ_ct, rtQ_nx, rtQ_rt, d_var', gv_some, d_non, d_bl, d_int, d_str, d_glb, d_tup, d_lst, d_bin, d_cmp, d_neg, d_nt, d_isN, d_nsN, d_chn, d_and, d_or, d_ife, d_cal, d_bi, d_isi, d_mth, d_ix, d_sl, d_rvs, d_lrg, d_lc, l_nil, l_cons, o_nil, o_cons, oiD, negD, notD, i_rng, i_enm, i_zip, i_cons, g_var, g_tup, g_ix, gs_nil, gs_cons, b_add, b_sub, b_mul, b_modP, b_fdvP, b_pow, b_adds, b_addt, b_addl, b_mull, addL_eq, c_lt, c_le, c_gt, c_ge, c_eq, c_ne, eqO_f, eqO_t, eq_ii, eq_ss, bi_len, lenD_some, len_t, len_r, seqO_l, seqO_s, bi_int, bi_intb, bi_maxii, bi_minii, ofS_some, bi_listr, bi_listt, bi_tupr, bi_tupt, ixO_some, ix_t, ix_r, at_0, at_1, at_2, at_3, sl_t, sl_r, rv_r, set_r, Ok_lim, decide_eq_true_eq, Ok_tstN, Ok_tstP, Ok_tst, tst_t, tst_f, List.getElem?_cons_zero, List.getElem?_cons_succ, List.set_cons_zero, List.set_cons_succ, List.map_cons, List.map_nil, List.length_cons, List.length_nil, List.replicate_succ, List.replicate_zero, List.cons_append, List.nil_append, isN, cnt_nil, cnt_cons, Bool.not_true, Bool.not_false, if_true, if_false, Option.map_some, Nat.reduceAdd, Nat.reduceSub, Nat.reduceLT, Nat.reduceLeDiff, Int.reduceLT, Bool.false_eq_true]
    refine ht _ _ _ _ _ hp4 (by omega) (by omega) (by omega) fun z S5 z0 z1 hp5 f5 => ?_
    rw [rg_1 (by omega) (by omega)]
    have pb : p < b := by have := hp3.lt; omega
    have S2b : S2.length ≤ b := by have := F3.1; have := lt_of_get hc3; omega
    have rab : ra < b := by omega
    have cab : ca < b := by omega
    have hb5 := f5.get hb (by simp; omega)
    refine forGo_ok (fun (j : Nat) (ρ : Rho) (S' : Hs) => ∃ (xs : List D) (v2 : Option D), ρ = [some (.ref p), some (.tup ds), v2, some (.ref ra), some (.ref ca), some (.int ((0 + i : Nat) : Int)), some (.tup [.str s, .int loss, .bl turns]), some (.ref b), u8, u9] ∧
        S'[b]? = some (.lst xs) ∧ (∀ d ∈ xs, ∃ q : Int, d = .int q ∧ 0 ≤ q ∧ q < 10) ∧ xs.length + j = s.length ∧ Pen S' p (k + 12 * i + 1 + j) ∧ Fr [b, p] S5 S')
      ⟨_, _, rfl, hb5, fun d hd => ?_, by rw [rangeD_len]; omega, hp5, .refl⟩ (fun _ _ _ _ _ => held_nil) ?_ ?_
    · obtain ⟨n, hn⟩ := List.mem_iff_getElem?.mp hd
      obtain ⟨h1, rfl⟩ := rangeD_get hn
      exact ⟨_, rfl, by omega, by omega⟩
    · rintro j d ρ S6 hd ⟨xs, v2, rfl, hb6, hxs, hxl, hp6, f6⟩
      obtain ⟨hj, rfl⟩ := rangeD_get hd
      simp only [Ok_ok, Ok_bind, x_nil, x_one, x_asg, x_exp, x_ret, x_retN, x_pas, x_brk, x_cnt, x_ife, nxQ_nx, nxQ_rt, nxQ_bk, nxQ_ct, rtQ_nx, rtQ_rt, d_var', gv_some, d_non, d_bl, d_int, d_str, d_glb, d_tup, d_lst, d_bin, d_cmp, d_neg, d_nt, d_isN, d_nsN, d_chn, d_and, d_or, d_ife, d_cal, d_bi, d_isi, d_mth, d_ix, d_sl, d_rvs, d_lrg, d_lc, l_nil, l_cons, o_nil, o_cons, oiD, negD, notD, i_rng, i_enm, i_zip, i_cons, g_var, g_tup, g_ix, gs_nil, gs_cons, b_add, b_sub, b_mul, b_modP, b_fdvP, b_pow, b_adds, b_addt, b_addl, b_mull, addL_eq, c_lt, c_le, c_gt, c_ge, c_eq, c_ne, eqO_f, eqO_t, eq_ii, eq_ss, bi_len, lenD_some, len_t, len_r, seqO_l, seqO_s, bi_int, bi_intb, bi_maxii, bi_minii, ofS_some, bi_listr, bi_listt, bi_tupr, bi_tupt, ixO_some, ix_t, ix_r, at_0, at_1, at_2, at_3, sl_t, sl_r, rv_r, set_r, Ok_lim, decide_eq_true_eq, Ok_tstN, Ok_tstP, Ok_tst, tst_t, tst_f, List.getElem?_cons_zero, List.getElem?_cons_succ, List.set_cons_zero, List.set_cons_succ, List.map_cons, List.map_nil, List.length_cons, List.length_nil, List.replicate_succ, List.replicate_zero, List.cons_append, List.nil_append, isN, cnt_nil, cnt_cons, Bool.not_true, Bool.not_false, if_true, if_false, Option.map_some, Nat.reduceAdd, Nat.reduceSub, Nat.reduceLT, Nat.reduceLeDiff, Int.reduceLT, Bool.false_eq_true, mk_pop hb6, hb6]
      refine ht _ _ _ _ _ hp6 (by omega) (by omega) (by omega) fun z2 S7 z3 z4 hp7 f7 => ?_
      obtain ⟨n, rfl⟩ := Int.eq_ofNat_of_zero_le z3
      have hn : n < xs.length := by omega
      have hb7 := f7.get hb6 (by simp; omega)
      rw [m_popi hb7 (List.getElem?_eq_getElem hn) (by omega)]
      refine ⟨xs.eraseIdx n, _, rfl, by rw [List.getElem?_set_self (lt_of_get hb7)], fun d hd => hxs d (List.mem_of_mem_eraseIdx hd), by rw [List.length_eraseIdx_of_lt hn]; omega, hp7.set pb, (f6.trans (f7.mono (by simp))).trans (.set (by simp))⟩
    · rintro ρ S6 ⟨xs, v2, rfl, hb6, hxs, hxl, hp6, f6⟩
      rw [rangeD_len] at hxl hp6
      have F6 : Fr [p] S3 S6 := (f4.any.trans f5).since (j := b) f6 (by omega)
      refine hK4 _ _ (x_step fun K5 hK5 => ?_)
      simp only [Ok_ok, Ok_bind, x_nil, x_one, x_asg, x_exp, x_ret, x_retN, x_pas, x_brk, x_cnt, x_ife, nxQ_nx, nxQ_rt, nxQ_bk, nxQ_ct, rtQ_nx, rtQ_rt, d_var', gv_some, d_non, d_bl, d_int, d_str, d_glb, d_tup, d_lst, d_bin, d_cmp, d_neg, d_nt, d_isN, d_nsN, d_chn, d_and, d_or, d_ife, d_cal, d_bi, d_isi, d_mth, d_ix, d_sl, d_rvs, d_lrg, d_lc, l_nil, l_cons, o_nil, o_cons, oiD, negD, notD, i_rng, i_enm, i_zip, i_cons, g_var, g_tup, g_ix, gs_nil, gs_cons, b_add, b_sub, b_mul, b_modP, b_fdvP, b_pow, b_adds, b_addt, b_addl, b_mull, addL_eq, c_lt, c_le, c_gt, c_ge, c_eq, c_ne, eqO_f, eqO_t, eq_ii, eq_ss, bi_len, lenD_some, len_t, len_r, seqO_l, seqO_s, bi_int, bi_intb, bi_maxii, bi_minii, ofS_some, bi_listr, bi_listt, bi_tupr, bi_tupt, ixO_some, ix_t, ix_r, at_0, at_1, at_2, at_3, sl_t, sl_r, rv_r, set_r, Ok_lim, decide_eq_true_eq, Ok_tstN, Ok_tstP, Ok_tst, tst_t, tst_f, List.getElem?_cons_zero, List.getElem?_cons_succ, List.set_cons_zero, List.set_cons_succ, List.map_cons, List.map_nil, List.length_cons, List.length_nil, List.replicate_succ, List.replicate_zero, List.cons_append, List.nil_append, isN, cnt_nil, cnt_cons, Bool.not_true, Bool.not_false, if_true, if_false, Option.map_some, Nat.reduceAdd, Nat.reduceSub, Nat.reduceLT, Nat.reduceLeDiff, Int.reduceLT, Bool.false_eq_true]
      -- the places, turned about or not
      have go : ∀ (e : Nat) (ys : List D) (S7 : Hs), S7[e]? = some (.lst ys) → (∀ d ∈ ys, ∃ q : Int, d = .int q ∧ 0 ≤ q ∧ q < 10) → ys.length ≤ 10 → Pen S7 p (k + 12 * (i + 1)) → Fr [p] S3 S7 → S3.length ≤ e →
          K5 [some (.ref p), some (.tup ds), v2, some (.ref ra), some (.ref ca), some (.int ((0 + i : Nat) : Int)), some (.tup [.str s, .int loss, .bl turns]), some (.ref e), u8, u9] S7 := by
        intro e ys S7 he hys hyl hp7 F7 hel
        have hr7 := F7.get hr3 (by simp; omega)
        refine hK5 _ _ ?_
        simp only [Ok_ok, Ok_bind, x_nil, x_one, x_asg, x_exp, x_ret, x_retN, x_pas, x_brk, x_cnt, x_ife, nxQ_nx, nxQ_rt, nxQ_bk, nxQ_ct, rtQ_nx, rtQ_rt, d_var', gv_some, d_non, d_bl, d_int, d_str, d_glb, d_tup, d_lst, d_bin, d_cmp, d_neg, d_nt, d_isN, d_nsN, d_chn, d_and, d_or, d_ife, d_cal, d_bi, d_isi, d_mth, d_ix, d_sl, d_rvs, d_lrg, d_lc, l_nil, l_cons, o_nil, o_cons, oiD, negD, notD, i_rng, i_enm, i_zip, i_cons, g_var, g_tup, g_ix, gs_nil, gs_cons, b_add, b_sub, b_mul, b_modP, b_fdvP, b_pow, b_adds, b_addt, b_addl, b_mull, addL_eq, c_lt, c_le, c_gt, c_ge, c_eq, c_ne, eqO_f, eqO_t, eq_ii, eq_ss, bi_len, lenD_some, len_t, len_r, seqO_l, seqO_s, bi_int, bi_intb, bi_maxii, bi_minii, ofS_some, bi_listr, bi_listt, bi_tupr, bi_tupt, ixO_some, ix_t, ix_r, at_0, at_1, at_2, at_3, sl_t, sl_r, rv_r, set_r, Ok_lim, decide_eq_true_eq, Ok_tstN, Ok_tstP, Ok_tst, tst_t, tst_f, List.getElem?_cons_zero, List.getElem?_cons_succ, List.set_cons_zero, List.set_cons_succ, List.map_cons, List.map_nil, List.length_cons, List.length_nil, List.replicate_succ, List.replicate_zero, List.cons_append, List.nil_append, isN, cnt_nil, cnt_cons, Bool.not_true, Bool.not_false, if_true, if_false, Option.map_some, Nat.reduceAdd, Nat.reduceSub, Nat.reduceLT, Nat.reduceLeDiff, Int.reduceLT, Bool.false_eq_true, mk_append hr7]
        rw [src_l he]
        simp only [Ok_ok, Ok_bind, x_nil, x_one, x_asg, x_exp, x_ret, x_retN, x_pas, x_brk, x_cnt, x_ife, nxQ_nx, nxQ_rt, nxQ_bk, nxQ_ct, rtQ_nx, rtQ_rt, d_var', gv_some, d_non, d_bl, d_int, d_str, d_glb, d_tup, d_lst, d_bin, d_cmp, d_neg, d_nt, d_isN, d_nsN, d_chn, d_and, d_or, d_ife, d_cal, d_bi, d_isi, d_mth, d_ix, d_sl, d_rvs, d_lrg, d_lc, l_nil, l_cons, o_nil, o_cons, oiD, negD, notD, i_rng, i_enm, i_zip, i_cons, g_var, g_tup, g_ix, gs_nil, gs_cons, b_add, b_sub, b_mul, b_modP, b_fdvP, b_pow, b_adds, b_addt, b_addl, b_mull, addL_eq, c_lt, c_le, c_gt, c_ge, c_eq, c_ne, eqO_f, eqO_t, eq_ii, eq_ss, bi_len, lenD_some, len_t, len_r, seqO_l, seqO_s, bi_int, bi_intb, bi_maxii, bi_minii, ofS_some, bi_listr, bi_listt, bi_tupr, bi_tupt, ixO_some, ix_t, ix_r, at_0, at_1, at_2, at_3, sl_t, sl_r, rv_r, set_r, Ok_lim, decide_eq_true_eq, Ok_tstN, Ok_tstP, Ok_tst, tst_t, tst_f, List.getElem?_cons_zero, List.getElem?_cons_succ, List.set_cons_zero, List.set_cons_succ, List.map_cons, List.map_nil, List.length_cons, List.length_nil, List.replicate_succ, List.replicate_zero, List.cons_append, List.nil_append, isN, cnt_nil, cnt_cons, Bool.not_true, Bool.not_false, if_true, if_false, Option.map_some, Nat.reduceAdd, Nat.reduceSub, Nat.reduceLT, Nat.reduceLeDiff, Int.reduceLT, Bool.false_eq_true, ofO_some]
        refine lcGo_pure (fun S' => Fr [] S7 S') (fun d => some (.tup [.int ((0 + i : Nat) : Int), d])) .refl (fun S' h => held_l (h.get0 he)) (fun d hd S' h => ?_) (fun S8 h => ?_)
        · rw [lcT_eq]
          simp only [wipeR, Ok_ok, Ok_bind, x_nil, x_one, x_asg, x_exp, x_ret, x_retN, x_pas, x_brk, x_cnt, x_ife, nxQ_nx, nxQ_rt, nxQ_bk, nxQ_ct, rtQ_nx, rtQ_rt, d_var', gv_some, d_non, d_bl, d_int, d_str, d_glb, d_tup, d_lst, d_bin, d_cmp, d_neg, d_nt, d_isN, d_nsN, d_chn, d_and, d_or, d_ife, d_cal, d_bi, d_isi, d_mth, d_ix, d_sl, d_rvs, d_lrg, d_lc, l_nil, l_cons, o_nil, o_cons, oiD, negD, notD, i_rng, i_enm, i_zip, i_cons, g_var, g_tup, g_ix, gs_nil, gs_cons, b_add, b_sub, b_mul, b_modP, b_fdvP, b_pow, b_adds, b_addt, b_addl, b_mull, addL_eq, c_lt, c_le, c_gt, c_ge, c_eq, c_ne, eqO_f, eqO_t, eq_ii, eq_ss, bi_len, lenD_some, len_t, len_r, seqO_l, seqO_s, bi_int, bi_intb, bi_maxii, bi_minii, ofS_some, bi_listr, bi_listt, bi_tupr, bi_tupt, ixO_some, ix_t, ix_r, at_0, at_1, at_2, at_3, sl_t, sl_r, rv_r, set_r, Ok_lim, decide_eq_true_eq, Ok_tstN, Ok_tstP, Ok_tst, tst_t, tst_f, List.getElem?_cons_zero, List.getElem?_cons_succ, List.set_cons_zero, List.set_cons_succ, List.map_cons, List.map_nil, List.length_cons, List.length_nil, List.replicate_succ, List.replicate_zero, List.cons_append, List.nil_append, isN, cnt_nil, cnt_cons, Bool.not_true, Bool.not_false, if_true, if_false, Option.map_some, Nat.reduceAdd, Nat.reduceSub, Nat.reduceLT, Nat.reduceLeDiff, Int.reduceLT, Bool.false_eq_true]
          exact ⟨trivial, h⟩
        · rw [Ok_lim (by omega)]
          refine Ok_newA fun g S9 hg eg elg f9 => ?_
          have hr9 := f9.get0 (h.get0 hr7)
          rw [m_append hr9 (by rw [List.length_map]; omega)]
          have F9 : Fr [p] S3 S9 := (F7.trans h.any).trans f9.any
          have g3 : S3.length ≤ g := by have := F7.1; have := h.1; omega
          have S2g : S2.length ≤ g := by omega
          refine ⟨rw ++ [(g, ys.map fun d => .tup [.int ((0 + i : Nat) : Int), d])], _, _, _, _, _, _, rfl, ?_, ?_, ⟨?_, ?_⟩, ?_, ?_, ?_⟩
          · rw [List.getElem?_set_self (lt_of_get hr9), List.map_append]; rfl
          · rw [List.getElem?_set_ne (by omega)]
            exact F9.get hc3 (by simp; omega)
          · rw [List.map_append, List.nodup_append]
            refine ⟨hrw.1, by simp, fun a ha b hb => ?_⟩
            simp only [List.map_cons, List.map_nil, List.mem_singleton] at hb
            obtain ⟨x, hx, rfl⟩ := List.mem_map.mp ha
            have := lt_of_get (hrw.2 x hx).2.1
            omega
          · intro x hx
            rcases List.mem_append.mp hx with hx | hx
            · obtain ⟨h1, h2, h3⟩ := hrw.2 x hx
              refine ⟨h1, ?_, h3⟩
              rw [List.getElem?_set_ne (by omega)]
              exact F9.get h2 (by simp; omega)
            · rw [List.mem_singleton.mp hx]
              refine ⟨S2g, ?_, by simpa using hyl, fun d hd => ?_⟩
              · rw [List.getElem?_set_ne (by omega), hg]
                congr 2
                simp [List.filterMap_eq_map']
              · obtain ⟨x, hx, rfl⟩ := List.mem_map.mp hd
                obtain ⟨q, rfl, q0, q1⟩ := hys x hx
                exact ⟨_, _, rfl, by omega, by omega, q0, q1⟩
          · simp [hi]
          · exact ((hp7.fr h (by simp)).fr f9 (by simp)).fr (m := [ra]) (.set (by simp)) (by simp; omega)
          · have hra : S.length ≤ ra := by omega
            exact (F3.trans F9).since (j := ra) (.set (by simp)) hra
      have stay : K5 [some (.ref p), some (.tup ds), v2, some (.ref ra), some (.ref ca), some (.int ((0 + i : Nat) : Int)), some (.tup [.str s, .int loss, .bl turns]), some (.ref b), u8, u9] S6 := go b xs S6 hb6 hxs (by omega) (hp6.mono (by omega)) F6 (by omega)
      split
      · refine ht _ _ _ _ _ hp6 (by omega) (by decide) (by decide) fun z2 S7 z3 z4 hp7 f7 => ?_
        have hb7 := f7.get hb6 (by simp; omega)
        simp only [Ok_ok, Ok_bind, x_nil, x_one, x_asg, x_exp, x_ret, x_retN, x_pas, x_brk, x_cnt, x_ife, nxQ_nx, nxQ_rt, nxQ_bk, nxQ_ct, rtQ_nx, rtQ_rt, d_var', gv_some, d_non, d_bl, d_int, d_str, d_glb, d_tup, d_lst, d_bin, d_cmp, d_neg, d_nt, d_isN, d_nsN, d_chn, d_and, d_or, d_ife, d_cal, d_bi, d_isi, d_mth, d_ix, d_sl, d_rvs, d_lrg, d_lc, l_nil, l_cons, o_nil, o_cons, oiD, negD, notD, i_rng, i_enm, i_zip, i_cons, g_var, g_tup, g_ix, gs_nil, gs_cons, b_add, b_sub, b_mul, b_modP, b_fdvP, b_pow, b_adds, b_addt, b_addl, b_mull, addL_eq, c_lt, c_le, c_gt, c_ge, c_eq, c_ne, eqO_f, eqO_t, eq_ii, eq_ss, bi_len, lenD_some, len_t, len_r, seqO_l, seqO_s, bi_int, bi_intb, bi_maxii, bi_minii, ofS_some, bi_listr, bi_listt, bi_tupr, bi_tupt, ixO_some, ix_t, ix_r, at_0, at_1, at_2, at_3, sl_t, sl_r, rv_r, set_r, Ok_lim, decide_eq_true_eq, Ok_tstN, Ok_tstP, Ok_tst, tst_t, tst_f, List.getElem?_cons_zero, List.getElem?_cons_succ, List.set_cons_zero, List.set_cons_succ, List.map_cons, List.map_nil, List.length_cons, List.length_nil, List.replicate_succ, List.replicate_zero, List.cons_append, List.nil_append, isN, cnt_nil, cnt_cons, Bool.not_true, Bool.not_false, if_true, if_false, Option.map_some, Nat.reduceAdd, Nat.reduceSub, Nat.reduceLT, Nat.reduceLeDiff, Int.reduceLT, Bool.false_eq_true]
        split
        · simp only [Ok_ok, Ok_bind, x_nil, x_one, x_asg, x_exp, x_ret, x_retN, x_pas, x_brk, x_cnt, x_ife, nxQ_nx, nxQ_rt, nxQ_bk, nxQ_ct, rtQ_nx, rtQ_rt, d_var', gv_some, d_non, d_bl, d_int, d_str, d_glb, d_tup, d_lst, d_bin, d_cmp, d_neg, d_nt, d_isN, d_nsN, d_chn, d_and, d_or, d_ife, d_cal, d_bi, d_isi, d_mth, d_ix, d_sl, d_rvs, d_lrg, d_lc, l_nil, l_cons, o_nil, o_cons, oiD, negD, notD, i_rng, i_enm, i_zip, i_cons, g_var, g_tup, g_ix, gs_nil, gs_cons, b_add, b_sub, b_mul, b_modP, b_fdvP, b_pow, b_adds, b_addt, b_addl, b_mull, addL_eq, c_lt, c_le, c_gt, c_ge, c_eq, c_ne, eqO_f, eqO_t, eq_ii, eq_ss, bi_len, lenD_some, len_t, len_r, seqO_l, seqO_s, bi_int, bi_intb, bi_maxii, bi_minii, ofS_some, bi_listr, bi_listt, bi_tupr, bi_tupt, ixO_some, ix_t, ix_r, at_0, at_1, at_2, at_3, sl_t, sl_r, rv_r, set_r, Ok_lim, decide_eq_true_eq, Ok_tstN, Ok_tstP, Ok_tst, tst_t, tst_f, List.getElem?_cons_zero, List.getElem?_cons_succ, List.set_cons_zero, List.set_cons_succ, List.map_cons, List.map_nil, List.length_cons, List.length_nil, List.replicate_succ, List.replicate_zero, List.cons_append, List.nil_append, isN, cnt_nil, cnt_cons, Bool.not_true, Bool.not_false, if_true, if_false, Option.map_some, Nat.reduceAdd, Nat.reduceSub, Nat.reduceLT, Nat.reduceLeDiff, Int.reduceLT, Bool.false_eq_true, hb7]
          refine Ok_newA fun e S8 he ee ele f8 => ?_
          exact go e xs.reverse S8 he (fun d hd => hxs d (List.mem_reverse.mp hd)) (by rw [List.length_reverse]; omega) ((hp7.fr f8 (by simp)).mono (by omega)) ((F6.trans f7).trans f8.any) (by have := F6.1; have := f7.1; omega)
        · exact go b xs S7 hb7 hxs (by omega) (hp7.mono (by omega)) (F6.trans f7) (by omega)
      · exact stay
  · rintro ρ S3 ⟨rw, u2, u5, u6, u7, u8, u9, rfl, hr3, hc3, hrw, hi, hp3, F3⟩
    rw [numbered_len] at hi hp3
    have hN : sumLen rw ≤ 40 := Nat.le_trans (sumLen_le fun x hx => (hrw.2 x hx).2.2.1) (by omega)
    refine hK2 _ _ (x_step fun K3 hK3 => ?_)
    rw [x_for]
    simp only [Ok_ok, Ok_bind, x_nil, x_one, x_asg, x_exp, x_ret, x_retN, x_pas, x_brk, x_cnt, x_ife, nxQ_nx, nxQ_rt, nxQ_bk, nxQ_ct, rtQ_nx, rtQ_rt, d_var', gv_some, d_non, d_bl, d_int, d_str, d_glb, d_tup, d_lst, d_bin, d_cmp, d_neg, d_nt, d_isN, d_nsN, d_chn, d_and, d_or, d_ife, d_cal, d_bi, d_isi, d_mth, d_ix, d_sl, d_rvs, d_lrg, d_lc, l_nil, l_cons, o_nil, o_cons, oiD, negD, notD, i_rng, i_enm, i_zip, i_cons, g_var, g_tup, g_ix, gs_nil, gs_cons, b_add, b_sub, b_mul, b_modP, b_fdvP, b_pow, b_adds, b_addt, b_addl, b_mull, addL_eq, c_lt, c_le, c_gt, c_ge, c_eq, c_ne, eqO_f, eqO_t, eq_ii, eq_ss, bi_len, lenD_some, len_t, len_r, seqO_l, seqO_s, bi_int, bi_intb, bi_maxii, bi_minii, ofS_some, bi_listr, bi_listt, bi_tupr, bi_tupt, ixO_some, ix_t, ix_r, at_0, at_1, at_2, at_3, sl_t, sl_r, rv_r, set_r, Ok_lim, decide_eq_true_eq, Ok_tstN, Ok_tstP, Ok_tst, tst_t, tst_f, List.getElem?_cons_zero, List.getElem?_cons_succ, List.set_cons_zero, List.set_cons_succ, List.map_cons, List.map_nil, List.length_cons, List.length_nil, List.replicate_succ, List.replicate_zero, List.cons_append, List.nil_append, isN, cnt_nil, cnt_cons, Bool.not_true, Bool.not_false, if_true, if_false, Option.map_some, Nat.reduceAdd, Nat.reduceSub, Nat.reduceLT, Nat.reduceLeDiff, Int.reduceLT, Bool.false_eq_true]
    rw [src_l hr3]
    simp only [Ok_ok, Ok_bind, x_nil, x_one, x_asg, x_exp, x_ret, x_retN, x_pas, x_brk, x_cnt, x_ife, nxQ_nx, nxQ_rt, nxQ_bk, nxQ_ct, rtQ_nx, rtQ_rt, d_var', gv_some, d_non, d_bl, d_int, d_str, d_glb, d_tup, d_lst, d_bin, d_cmp, d_neg, d_nt, d_isN, d_nsN, d_chn, d_and, d_or, d_ife, d_cal, d_bi, d_isi, d_mth, d_ix, d_sl, d_rvs, d_lrg, d_lc, l_nil, l_cons, o_nil, o_cons, oiD, negD, notD, i_rng, i_enm, i_zip, i_cons, g_var, g_tup, g_ix, gs_nil, gs_cons, b_add, b_sub, b_mul, b_modP, b_fdvP, b_pow, b_adds, b_addt, b_addl, b_mull, addL_eq, c_lt, c_le, c_gt, c_ge, c_eq, c_ne, eqO_f, eqO_t, eq_ii, eq_ss, bi_len, lenD_some, len_t, len_r, seqO_l, seqO_s, bi_int, bi_intb, bi_maxii, bi_minii, ofS_some, bi_listr, bi_listt, bi_tupr, bi_tupt, ixO_some, ix_t, ix_r, at_0, at_1, at_2, at_3, sl_t, sl_r, rv_r, set_r, Ok_lim, decide_eq_true_eq, Ok_tstN, Ok_tstP, Ok_tst, tst_t, tst_f, List.getElem?_cons_zero, List.getElem?_cons_succ, List.set_cons_zero, List.set_cons_succ, List.map_cons, List.map_nil, List.length_cons, List.length_nil, List.replicate_succ, List.replicate_zero, List.cons_append, List.nil_append, isN, cnt_nil, cnt_cons, Bool.not_true, Bool.not_false, if_true, if_false, Option.map_some, Nat.reduceAdd, Nat.reduceSub, Nat.reduceLT, Nat.reduceLeDiff, Int.reduceLT, Bool.false_eq_true, ofO_some]
    refine lcGo_ok (fun (n : Nat) (r : List D) (S' : Hs) => r = (rw.take n).map (fun x => D.int (x.2.length : Int)) ∧ Fr [] S3 S') ⟨by simp, .refl⟩ (fun _ _ _ _ h => held_l (h.2.get0 hr3)) ?_ ?_
    · rintro n d r S' hd ⟨rfl, f⟩
      rw [List.getElem?_map] at hd
      obtain ⟨x, hx, rfl⟩ := Option.map_eq_some_iff.mp hd
      rw [lcT_eq]
      simp only [wipeR, Ok_ok, Ok_bind, x_nil, x_one, x_asg, x_exp, x_ret, x_retN, x_pas, x_brk, x_cnt, x_ife, nxQ_nx, nxQ_rt, nxQ_bk, nxQ_ct, rtQ_nx, rtQ_rt, d_var', gv_some, d_non, d_bl, d_int, d_str, d_glb, d_tup, d_lst, d_bin, d_cmp, d_neg, d_nt, d_isN, d_nsN, d_chn, d_and, d_or, d_ife, d_cal, d_bi, d_isi, d_mth, d_ix, d_sl, d_rvs, d_lrg, d_lc, l_nil, l_cons, o_nil, o_cons, oiD, negD, notD, i_rng, i_enm, i_zip, i_cons, g_var, g_tup, g_ix, gs_nil, gs_cons, b_add, b_sub, b_mul, b_modP, b_fdvP, b_pow, b_adds, b_addt, b_addl, b_mull, addL_eq, c_lt, c_le, c_gt, c_ge, c_eq, c_ne, eqO_f, eqO_t, eq_ii, eq_ss, bi_len, lenD_some, len_t, len_r, seqO_l, seqO_s, bi_int, bi_intb, bi_maxii, bi_minii, ofS_some, bi_listr, bi_listt, bi_tupr, bi_tupt, ixO_some, ix_t, ix_r, at_0, at_1, at_2, at_3, sl_t, sl_r, rv_r, set_r, Ok_lim, decide_eq_true_eq, Ok_tstN, Ok_tstP, Ok_tst, tst_t, tst_f, List.getElem?_cons_zero, List.getElem?_cons_succ, List.set_cons_zero, List.set_cons_succ, List.map_cons, List.map_nil, List.length_cons, List.length_nil, List.replicate_succ, List.replicate_zero, List.cons_append, List.nil_append, isN, cnt_nil, cnt_cons, Bool.not_true, Bool.not_false, if_true, if_false, Option.map_some, Nat.reduceAdd, Nat.reduceSub, Nat.reduceLT, Nat.reduceLeDiff, Int.reduceLT, Bool.false_eq_true, f.get0 (hrw.2 x (List.mem_of_getElem? hx)).2.1]
      refine ⟨?_, f⟩
      rw [List.take_succ, hx]
      simp
    · rintro r S4 ⟨rfl, f4⟩
      rw [List.length_map, List.take_length, Ok_lim (by omega)]
      refine Ok_newA fun g S5 hg eg elg f5 => ?_
      rw [bi_sum hg (ints_sum rw).1, (ints_sum rw).2, rg_1 (by omega) (by omega)]
      have F5 : Fr [] S3 S5 := f4.trans f5
      have low : ∀ i ∈ ([p, ca] : List Nat), i < S2.length := by simp; omega
      refine forGo_ok (fun (n : Nat) (ρ : Rho) (S' : Hs) => ∃ (rs : Rw) (cs : List D) (u2 u8 : Option D), ρ = [some (.ref p), some (.tup ds), u2, some (.ref ra), some (.ref ca), u5, u6, u7, u8, u9] ∧
          S'[ra]? = some (.lst (rs.map fun x => .ref x.1)) ∧ S'[ca]? = some (.lst cs) ∧ RowsAt S' S2.length ds.length rs ∧ rs.length = rw.length ∧ sumLen rs + n = sumLen rw ∧ cs.length = n ∧ (∀ d ∈ cs, PairD ds.length d) ∧ Pen S' p (k + 48 + n) ∧ Fr [p] S S')
        ⟨rw, [], u2, u8, rfl, F5.get0 hr3, F5.get0 hc3, hrw.fr F5 (by simp), rfl, by omega, rfl, by simp, (hp3.fr F5 (by simp)).mono (by omega), F3.trans F5.any⟩ (fun _ _ _ _ _ => held_nil) ?_ ?_
      · rintro n d ρ S6 hd ⟨rs, cs, u2, u8, rfl, hr6, hc6, hrs, hrl, hsum, hcl, hcs, hp6, F6⟩
        obtain ⟨hn, rfl⟩ := rangeD_get hd
        simp only [Ok_ok, Ok_bind, x_nil, x_one, x_asg, x_exp, x_ret, x_retN, x_pas, x_brk, x_cnt, x_ife, nxQ_nx, nxQ_rt, nxQ_bk, nxQ_ct, rtQ_nx, rtQ_rt, d_var', gv_some, d_non, d_bl, d_int, d_str, d_glb, d_tup, d_lst, d_bin, d_cmp, d_neg, d_nt, d_isN, d_nsN, d_chn, d_and, d_or, d_ife, d_cal, d_bi, d_isi, d_mth, d_ix, d_sl, d_rvs, d_lrg, d_lc, l_nil, l_cons, o_nil, o_cons, oiD, negD, notD, i_rng, i_enm, i_zip, i_cons, g_var, g_tup, g_ix, gs_nil, gs_cons, b_add, b_sub, b_mul, b_modP, b_fdvP, b_pow, b_adds, b_addt, b_addl, b_mull, addL_eq, c_lt, c_le, c_gt, c_ge, c_eq, c_ne, eqO_f, eqO_t, eq_ii, eq_ss, bi_len, lenD_some, len_t, len_r, seqO_l, seqO_s, bi_int, bi_intb, bi_maxii, bi_minii, ofS_some, bi_listr, bi_listt, bi_tupr, bi_tupt, ixO_some, ix_t, ix_r, at_0, at_1, at_2, at_3, sl_t, sl_r, rv_r, set_r, Ok_lim, decide_eq_true_eq, Ok_tstN, Ok_tstP, Ok_tst, tst_t, tst_f, List.getElem?_cons_zero, List.getElem?_cons_succ, List.set_cons_zero, List.set_cons_succ, List.map_cons, List.map_nil, List.length_cons, List.length_nil, List.replicate_succ, List.replicate_zero, List.cons_append, List.nil_append, isN, cnt_nil, cnt_cons, Bool.not_true, Bool.not_false, if_true, if_false, Option.map_some, Nat.reduceAdd, Nat.reduceSub, Nat.reduceLT, Nat.reduceLeDiff, Int.reduceLT, Bool.false_eq_true]
        refine x_step fun K4 hK4 => ?_
        simp only [Ok_ok, Ok_bind, x_nil, x_one, x_asg, x_exp, x_ret, x_retN, x_pas, x_brk, x_cnt, x_ife, nxQ_nx, nxQ_rt, nxQ_bk, nxQ_ct, rtQ_nx, rtQ_rt, d_var', gv_some, d_non, d_bl, d_int, d_str, d_glb, d_tup, d_lst, d_bin, d_cmp, d_neg, d_nt, d_isN, d_nsN, d_chn, d_and, d_or, d_ife, d_cal, d_bi, d_isi, d_mth, d_ix, d_sl, d_rvs, d_lrg, d_lc, l_nil, l_cons, o_nil, o_cons, oiD, negD, notD, i_rng, i_enm, i_zip, i_cons, g_var, g_tup, g_ix, gs_nil, gs_cons, b_add, b_sub, b_mul, b_modP, b_fdvP, b_pow, b_adds, b_addt, b_addl, b_mull, addL_eq, c_lt, c_le, c_gt, c_ge, c_eq, c_ne, eqO_f, eqO_t, eq_ii, eq_ss, bi_len, lenD_some, len_t, len_r, seqO_l, seqO_s, bi_int, bi_intb, bi_maxii, bi_minii, ofS_some, bi_listr, bi_listt, bi_tupr, bi_tupt, ixO_some, ix_t, ix_r, at_0, at_1, at_2, at_3, sl_t, sl_r, rv_r, set_r, Ok_lim, decide_eq_true_eq, Ok_tstN, Ok_tstP, Ok_tst, tst_t, tst_f, List.getElem?_cons_zero, List.getElem?_cons_succ, List.set_cons_zero, List.set_cons_succ, List.map_cons, List.map_nil, List.length_cons, List.length_nil, List.replicate_succ, List.replicate_zero, List.cons_append, List.nil_append, isN, cnt_nil, cnt_cons, Bool.not_true, Bool.not_false, if_true, if_false, Option.map_some, Nat.reduceAdd, Nat.reduceSub, Nat.reduceLT, Nat.reduceLeDiff, Int.reduceLT, Bool.false_eq_true]
        rw [src_l hr6]
        simp only [Ok_ok, Ok_bind, x_nil, x_one, x_asg, x_exp, x_ret, x_retN, x_pas, x_brk, x_cnt, x_ife, nxQ_nx, nxQ_rt, nxQ_bk, nxQ_ct, rtQ_nx, rtQ_rt, d_var', gv_some, d_non, d_bl, d_int, d_str, d_glb, d_tup, d_lst, d_bin, d_cmp, d_neg, d_nt, d_isN, d_nsN, d_chn, d_and, d_or, d_ife, d_cal, d_bi, d_isi, d_mth, d_ix, d_sl, d_rvs, d_lrg, d_lc, l_nil, l_cons, o_nil, o_cons, oiD, negD, notD, i_rng, i_enm, i_zip, i_cons, g_var, g_tup, g_ix, gs_nil, gs_cons, b_add, b_sub, b_mul, b_modP, b_fdvP, b_pow, b_adds, b_addt, b_addl, b_mull, addL_eq, c_lt, c_le, c_gt, c_ge, c_eq, c_ne, eqO_f, eqO_t, eq_ii, eq_ss, bi_len, lenD_some, len_t, len_r, seqO_l, seqO_s, bi_int, bi_intb, bi_maxii, bi_minii, ofS_some, bi_listr, bi_listt, bi_tupr, bi_tupt, ixO_some, ix_t, ix_r, at_0, at_1, at_2, at_3, sl_t, sl_r, rv_r, set_r, Ok_lim, decide_eq_true_eq, Ok_tstN, Ok_tstP, Ok_tst, tst_t, tst_f, List.getElem?_cons_zero, List.getElem?_cons_succ, List.set_cons_zero, List.set_cons_succ, List.map_cons, List.map_nil, List.length_cons, List.length_nil, List.replicate_succ, List.replicate_zero, List.cons_append, List.nil_append, isN, cnt_nil, cnt_cons, Bool.not_true, Bool.not_false, if_true, if_false, Option.map_some, Nat.reduceAdd, Nat.reduceSub, Nat.reduceLT, Nat.reduceLeDiff, Int.reduceLT, Bool.false_eq_true, ofO_some]
        refine lcGo_ok (fun (m : Nat) (r : List D) (S' : Hs) => r = ((rs.take m).filter fun x => !(decide (x.2 = []))).map (fun x => D.ref x.1) ∧ Fr [] S6 S') ⟨by simp, .refl⟩ (fun _ _ _ _ h => held_l (h.2.get0 hr6)) ?_ ?_
        · rintro m d r S' hd ⟨rfl, f⟩
          rw [List.getElem?_map] at hd
          obtain ⟨x, hx, rfl⟩ := Option.map_eq_some_iff.mp hd
          obtain ⟨x1, x2, x3, x4⟩ := hrs.2 x (List.mem_of_getElem? hx)
          rw [lcT_eq]
          simp only [wipeR, Ok_ok, Ok_bind, x_nil, x_one, x_asg, x_exp, x_ret, x_retN, x_pas, x_brk, x_cnt, x_ife, nxQ_nx, nxQ_rt, nxQ_bk, nxQ_ct, rtQ_nx, rtQ_rt, d_var', gv_some, d_non, d_bl, d_int, d_str, d_glb, d_tup, d_lst, d_bin, d_cmp, d_neg, d_nt, d_isN, d_nsN, d_chn, d_and, d_or, d_ife, d_cal, d_bi, d_isi, d_mth, d_ix, d_sl, d_rvs, d_lrg, d_lc, l_nil, l_cons, o_nil, o_cons, oiD, negD, notD, i_rng, i_enm, i_zip, i_cons, g_var, g_tup, g_ix, gs_nil, gs_cons, b_add, b_sub, b_mul, b_modP, b_fdvP, b_pow, b_adds, b_addt, b_addl, b_mull, addL_eq, c_lt, c_le, c_gt, c_ge, c_eq, c_ne, eqO_f, eqO_t, eq_ii, eq_ss, bi_len, lenD_some, len_t, len_r, seqO_l, seqO_s, bi_int, bi_intb, bi_maxii, bi_minii, ofS_some, bi_listr, bi_listt, bi_tupr, bi_tupt, ixO_some, ix_t, ix_r, at_0, at_1, at_2, at_3, sl_t, sl_r, rv_r, set_r, Ok_lim, decide_eq_true_eq, Ok_tstN, Ok_tstP, Ok_tst, tst_t, tst_f, List.getElem?_cons_zero, List.getElem?_cons_succ, List.set_cons_zero, List.set_cons_succ, List.map_cons, List.map_nil, List.length_cons, List.length_nil, List.replicate_succ, List.replicate_zero, List.cons_append, List.nil_append, isN, cnt_nil, cnt_cons, Bool.not_true, Bool.not_false, if_true, if_false, Option.map_some, Nat.reduceAdd, Nat.reduceSub, Nat.reduceLT, Nat.reduceLeDiff, Int.reduceLT, Bool.false_eq_true]
          refine Ok_newA fun e S7 he ee ele f7 => ?_
          rw [eq_nil (f7.get0 (f.get0 x2)) he (pureDs_mem.mpr fun d hd => (x4 d hd).pure) (deps_le.mpr fun d hd => (x4 d hd).dep), eqO_t, Ok_tstN]
          have tk : rs.take (m + 1) = rs.take m ++ [x] := by rw [List.take_succ, hx]; rfl
          split
          · rename_i hnil
            refine ⟨?_, f.trans f7⟩
            rw [tk, List.filter_append]
            simp [hnil]
          · rename_i hnil
            simp only [Ok_ok, Ok_bind, x_nil, x_one, x_asg, x_exp, x_ret, x_retN, x_pas, x_brk, x_cnt, x_ife, nxQ_nx, nxQ_rt, nxQ_bk, nxQ_ct, rtQ_nx, rtQ_rt, d_var', gv_some, d_non, d_bl, d_int, d_str, d_glb, d_tup, d_lst, d_bin, d_cmp, d_neg, d_nt, d_isN, d_nsN, d_chn, d_and, d_or, d_ife, d_cal, d_bi, d_isi, d_mth, d_ix, d_sl, d_rvs, d_lrg, d_lc, l_nil, l_cons, o_nil, o_cons, oiD, negD, notD, i_rng, i_enm, i_zip, i_cons, g_var, g_tup, g_ix, gs_nil, gs_cons, b_add, b_sub, b_mul, b_modP, b_fdvP, b_pow, b_adds, b_addt, b_addl, b_mull, addL_eq, c_lt, c_le, c_gt, c_ge, c_eq, c_ne, eqO_f, eqO_t, eq_ii, eq_ss, bi_len, lenD_some, len_t, len_r, seqO_l, seqO_s, bi_int, bi_intb, bi_maxii, bi_minii, ofS_some, bi_listr, bi_listt, bi_tupr, bi_tupt, ixO_some, ix_t, ix_r, at_0, at_1, at_2, at_3, sl_t, sl_r, rv_r, set_r, Ok_lim, decide_eq_true_eq, Ok_tstN, Ok_tstP, Ok_tst, tst_t, tst_f, List.getElem?_cons_zero, List.getElem?_cons_succ, List.set_cons_zero, List.set_cons_succ, List.map_cons, List.map_nil, List.length_cons, List.length_nil, List.replicate_succ, List.replicate_zero, List.cons_append, List.nil_append, isN, cnt_nil, cnt_cons, Bool.not_true, Bool.not_false, if_true, if_false, Option.map_some, Nat.reduceAdd, Nat.reduceSub, Nat.reduceLT, Nat.reduceLeDiff, Int.reduceLT, Bool.false_eq_true]
            refine ⟨?_, f.trans f7⟩
            rw [tk, List.filter_append, List.map_append]
            simp at hnil
            simp [hnil]
        · rintro r S7 ⟨rfl, f7⟩
          rw [List.length_map, List.take_length, Ok_lim (by omega)]
          refine Ok_newA fun e S8 he ee ele f8 => ?_
          have F8 : Fr [] S6 S8 := f7.trans f8
          obtain ⟨w, hw1, hw2⟩ := sumLen_pos (rw := rs) (by omega)
          refine ho p _ _ _ _ _ (hp6.fr F8 (by simp)) (by omega) (by rw [seq_r, he]; rfl) (by intro h; cases h; have := hp6.lt; have := f7.1; omega) (fun h => ?_) (Nat.lt_of_le_of_lt (by rw [List.length_map]; exact List.length_filter_le _ _) (show rs.length < 1073741824 by omega)) fun d S9 hd hp9 f9 => ?_
          · have : D.ref w.1 ∈ ((rs.filter fun x => !(decide (x.2 = []))).map fun x => D.ref x.1) := List.mem_map.mpr ⟨w, List.mem_filter.mpr ⟨hw1, by simp [hw2]⟩, rfl⟩
            rw [h] at this
            cases this
          · obtain ⟨x, hx, rfl⟩ := List.mem_map.mp hd
            obtain ⟨hx, hxn⟩ := List.mem_filter.mp hx
            have hxn : x.2 ≠ [] := by simpa using hxn
            obtain ⟨x1, x2, x3, x4⟩ := hrs.2 x hx
            have F9 : Fr [p] S6 S9 := F8.any.trans f9
            have hx9 := F9.get x2 (by simp; omega)
            have hc9 := F9.get hc6 (by simp; omega)
            have hr9 := F9.get hr6 (by simp; omega)
            have hpos := List.length_pos_iff.mpr hxn
            refine hK4 _ _ ?_
            simp only [Ok_ok, Ok_bind, x_nil, x_one, x_asg, x_exp, x_ret, x_retN, x_pas, x_brk, x_cnt, x_ife, nxQ_nx, nxQ_rt, nxQ_bk, nxQ_ct, rtQ_nx, rtQ_rt, d_var', gv_some, d_non, d_bl, d_int, d_str, d_glb, d_tup, d_lst, d_bin, d_cmp, d_neg, d_nt, d_isN, d_nsN, d_chn, d_and, d_or, d_ife, d_cal, d_bi, d_isi, d_mth, d_ix, d_sl, d_rvs, d_lrg, d_lc, l_nil, l_cons, o_nil, o_cons, oiD, negD, notD, i_rng, i_enm, i_zip, i_cons, g_var, g_tup, g_ix, gs_nil, gs_cons, b_add, b_sub, b_mul, b_modP, b_fdvP, b_pow, b_adds, b_addt, b_addl, b_mull, addL_eq, c_lt, c_le, c_gt, c_ge, c_eq, c_ne, eqO_f, eqO_t, eq_ii, eq_ss, bi_len, lenD_some, len_t, len_r, seqO_l, seqO_s, bi_int, bi_intb, bi_maxii, bi_minii, ofS_some, bi_listr, bi_listt, bi_tupr, bi_tupt, ixO_some, ix_t, ix_r, at_0, at_1, at_2, at_3, sl_t, sl_r, rv_r, set_r, Ok_lim, decide_eq_true_eq, Ok_tstN, Ok_tstP, Ok_tst, tst_t, tst_f, List.getElem?_cons_zero, List.getElem?_cons_succ, List.set_cons_zero, List.set_cons_succ, List.map_cons, List.map_nil, List.length_cons, List.length_nil, List.replicate_succ, List.replicate_zero, List.cons_append, List.nil_append, isN, cnt_nil, cnt_cons, Bool.not_true, Bool.not_false, if_true, if_false, Option.map_some, Nat.reduceAdd, Nat.reduceSub, Nat.reduceLT, Nat.reduceLeDiff, Int.reduceLT, Bool.false_eq_true, mk_append hc9, mk_pop hx9]
            rw [m_pop0 hx9 (List.getElem?_eq_getElem hpos)]
            have hcx : ca ≠ x.1 := by omega
            have hrx : ra ≠ x.1 := by omega
            have l1 := lt_of_get hx9
            have l2 := lt_of_get hc9
            rw [m_append (xs := cs) (by rw [List.getElem?_set_ne (Ne.symm hcx)]; exact hc9) (by omega)]
            refine ⟨popAt x.1 rs, cs ++ [x.2[0]], _, _, rfl, ?_, ?_, ⟨?_, ?_⟩, ?_, ?_, by simp [hcl], ?_, ?_, ?_⟩
            · rw [List.getElem?_set_ne (by omega), List.getElem?_set_ne (Ne.symm hrx), hr9]
              have e1 : ∀ l : Rw, (l.map fun x => D.ref x.1) = (l.map (·.1)).map D.ref := fun l => by rw [List.map_map]; rfl
              rw [e1, e1, popAt_fst]
            · rw [List.getElem?_set_self (by rw [List.length_set]; exact l2)]
            · rw [popAt_fst]; exact hrs.1
            · intro y hy
              obtain ⟨z, hz, e⟩ := List.mem_map.mp hy
              obtain ⟨z1, z2, z3, z4⟩ := hrs.2 z hz
              by_cases hzx : z.1 = x.1
              · have hzx2 : z = x := by
                  have e1 := z2; rw [hzx, x2] at e1
                  have : z.2 = x.2 := (O.lst.inj (Option.some.inj e1)).symm
                  exact Prod.ext hzx this
                subst hzx2
                rw [if_pos rfl] at e
                subst e
                refine ⟨z1, ?_, by rw [List.length_eraseIdx_of_lt hpos]; omega, fun d hd => z4 d (List.mem_of_mem_eraseIdx hd)⟩
                rw [List.getElem?_set_ne hcx, List.getElem?_set_self l1]
              · rw [if_neg hzx] at e
                subst e
                refine ⟨z1, ?_, z3, z4⟩
                rw [List.getElem?_set_ne (by omega), List.getElem?_set_ne (Ne.symm hzx)]
                exact F9.get z2 (by simp; omega)
            · unfold popAt; rw [List.length_map]; exact hrl
            · have := popAt_sum hrs.1 (b := x.1) (xs := x.2) hx hxn; omega
            · intro d hd
              rcases List.mem_append.mp hd with h | h
              · exact hcs d h
              · rw [List.mem_singleton.mp h]; exact x4 _ (List.getElem_mem _)
            · have h1 : p < x.1 := by omega
              have h2 : p < ca := by omega
              exact ((hp9.mono (by omega)).set h1).set h2
            · have h1 : S.length ≤ x.1 := by omega
              have h2 : S.length ≤ ca := by omega
              exact ((F6.trans F9).since (j := x.1) (.set (by simp)) h1).since (j := ca) (.set (by simp)) h2
      · rintro ρ S6 ⟨rs, cs, u2, u8, rfl, hr6, hc6, hrs, hrl, hsum, hcl, hcs, hp6, F6⟩
        rw [rangeD_len] at hsum hcl hp6
        refine hK3 _ _ ?_
        simp only [Ok_ok, Ok_bind, x_nil, x_one, x_asg, x_exp, x_ret, x_retN, x_pas, x_brk, x_cnt, x_ife, nxQ_nx, nxQ_rt, nxQ_bk, nxQ_ct, rtQ_nx, rtQ_rt, d_var', gv_some, d_non, d_bl, d_int, d_str, d_glb, d_tup, d_lst, d_bin, d_cmp, d_neg, d_nt, d_isN, d_nsN, d_chn, d_and, d_or, d_ife, d_cal, d_bi, d_isi, d_mth, d_ix, d_sl, d_rvs, d_lrg, d_lc, l_nil, l_cons, o_nil, o_cons, oiD, negD, notD, i_rng, i_enm, i_zip, i_cons, g_var, g_tup, g_ix, gs_nil, gs_cons, b_add, b_sub, b_mul, b_modP, b_fdvP, b_pow, b_adds, b_addt, b_addl, b_mull, addL_eq, c_lt, c_le, c_gt, c_ge, c_eq, c_ne, eqO_f, eqO_t, eq_ii, eq_ss, bi_len, lenD_some, len_t, len_r, seqO_l, seqO_s, bi_int, bi_intb, bi_maxii, bi_minii, ofS_some, bi_listr, bi_listt, bi_tupr, bi_tupt, ixO_some, ix_t, ix_r, at_0, at_1, at_2, at_3, sl_t, sl_r, rv_r, set_r, Ok_lim, decide_eq_true_eq, Ok_tstN, Ok_tstP, Ok_tst, tst_t, tst_f, List.getElem?_cons_zero, List.getElem?_cons_succ, List.set_cons_zero, List.set_cons_succ, List.map_cons, List.map_nil, List.length_cons, List.length_nil, List.replicate_succ, List.replicate_zero, List.cons_append, List.nil_append, isN, cnt_nil, cnt_cons, Bool.not_true, Bool.not_false, if_true, if_false, Option.map_some, Nat.reduceAdd, Nat.reduceSub, Nat.reduceLT, Nat.reduceLeDiff, Int.reduceLT, Bool.false_eq_true]
        exact q ca cs S6 hc6 (by omega) hcs (by omega) (hp6.mono (by omega)) F6
end RS

namespace RS
open PySem
def B_shares : C :=
  (.cons (.ret (.bi .tuple (.cons (.lc [2] (.bi .len (.cons (.lc [3] (.var 3) (.var 3) (.cons (.var 0) .nil) (.cmp .eq (.ix (.var 3) (.int 0)) (.var 2))) .nil)) (.var 2) (.rng (.cons (.var 1) .nil)) (.bl true)) .nil)))
  .nil)

def B_law (c_law_open c_law_draw_stock c_law_draw_cut c_law_take c_law_same c_shares : Nat) : C :=
  (.cons (.asg (.var 1) (.cal c_law_open (.cons (.var 0) .nil)))
  (.cons (.for_ (.var 2) (.rng (.cons (.int 4) .nil))
      (.cons (.asg (.var 3) (.cal c_law_draw_stock (.cons (.var 1) (.cons (.int 12) .nil))))
      (.cons (.asg (.var 4) (.bi .tuple (.cons (.sl (.cal c_law_draw_cut (.cons (.var 1) (.cons (.var 3) .nil))) .nil (.cons (.int 16) .nil)) .nil)))
      (.cons (.asg (.var 5) (.bi .max (.cons (.bin .add (.lst (.cons (.int 0) .nil)) (.lc [8, 9] (.bin .add (.var 8) (.int 1)) (.tup (.cons (.var 8) (.cons (.var 9) .nil))) (.cons (.var 4) .nil) (.bl true))) .nil)))
      (.cons (.for_ (.var 6) (.cons (.lst (.cons (.var 5) (.cons (.bi .len (.cons (.var 3) .nil)) (.cons (.int 4) (.cons (.int 5) (.cons (.int 7) (.cons (.bin .add (.int 4) (.cal c_law_take (.cons (.var 1) (.cons (.int 20) .nil)))) .nil))))))) .nil)
          (.cons (.ife (.cmp .ge (.var 6) (.var 5))
              (.cons (.asg (.var 7) (.bi .tuple (.cons (.lc [8] (.bi .len (.cons (.lc [10, 9] (.var 9) (.tup (.cons (.var 10) (.cons (.var 9) .nil))) (.cons (.var 4) .nil) (.cmp .eq (.var 10) (.var 8))) .nil)) (.var 8) (.rng (.cons (.var 6) .nil)) (.bl true)) .nil)))
              (.cons (.ife (.nt (.cal c_law_same (.cons (.cal c_shares (.cons (.var 4) (.cons (.var 6) .nil))) (.cons (.var 7) .nil))))
                  (.cons (.ret (.bl false))
                  .nil)
                  .nil)
              .nil))
              .nil)
          .nil))
      .nil)))))
  (.cons (.ret (.bl true))
  .nil)))


def fstD : D → Int
  | .tup [.int r, _] => r
  | _ => 0
/-- how many of a cut's pairs are of a reel -/
def countR (xs : List D) (r : Int) : Nat := (xs.filter fun d => decide (fstD d = r)).length
def sharesD (xs : List D) (n : Int) : List D := (rangeD 0 n.toNat).map fun d => match d with
  | .int r => .int (countR xs r : Int)
  | d => d
theorem countR_le (xs : List D) (r : Int) : countR xs r ≤ xs.length := List.length_filter_le _ _
theorem filterMap_filter {xs : List D} {P : D → Prop} [DecidablePred P] {f : D → D} : (xs.filterMap fun d => if P d then some (f d) else none).length = (xs.filter fun d => decide (P d)).length := by
  induction xs with
  | nil => rfl
  | cons x xs ih =>
    simp only [List.filterMap_cons, List.filter_cons]
    by_cases h : P x
    · simp [h, ih]
    · simp [h, ih]
theorem rangeD_map {n : Nat} {g : D → Option D} {f : D → D} (h : ∀ d ∈ rangeD 0 n, g d = some (f d)) : (rangeD 0 n).filterMap g = (rangeD 0 n).map f := by
  generalize rangeD 0 n = l at h
  induction l with
  | nil => rfl
  | cons x l ih =>
    rw [List.filterMap_cons, h x (by simp), List.map_cons, ih fun d hd => h d (by simp [hd])]
theorem shares_ok {Φ : Nat → List D → Hs → R D} {G : Nat → D} {W m : Nat} {xs : List D} {n : Int} {S : Hs} {Q : D → Hs → Prop} (hx : ∀ d ∈ xs, PairD m d) (hl : xs.length ≤ 1000) (h0 : 0 ≤ n) (h1 : n ≤ 1000) (q : ∀ S', Fr [] S S' → Q (.tup (sharesD xs n)) S') :
    Ok (exec Φ G W B_shares [some (.tup xs), some (.int n), none, none] S) (rtQ Q) := by
  unfold B_shares
  simp only [Ok_ok, Ok_bind, x_nil, x_one, x_asg, x_exp, x_ret, x_retN, x_pas, x_brk, x_cnt, x_ife, nxQ_nx, nxQ_rt, nxQ_bk, nxQ_ct, rtQ_nx, rtQ_rt, d_var', gv_some, d_non, d_bl, d_int, d_str, d_glb, d_tup, d_lst, d_bin, d_cmp, d_neg, d_nt, d_isN, d_nsN, d_chn, d_and, d_or, d_ife, d_cal, d_bi, d_isi, d_mth, d_ix, d_sl, d_rvs, d_lrg, d_lc, l_nil, l_cons, o_nil, o_cons, oiD, negD, notD, i_rng, i_enm, i_zip, i_cons, g_var, g_tup, g_ix, gs_nil, gs_cons, b_add, b_sub, b_mul, b_modP, b_fdvP, b_pow, b_adds, b_addt, b_addl, b_mull, addL_eq, c_lt, c_le, c_gt, c_ge, c_eq, c_ne, eqO_f, eqO_t, eq_ii, eq_ss, bi_len, lenD_some, len_t, len_r, seqO_l, seqO_s, bi_int, bi_intb, bi_maxii, bi_minii, ofS_some, bi_listr, bi_listt, bi_tupr, bi_tupt, ixO_some, ix_t, ix_r, at_0, at_1, at_2, at_3, sl_t, sl_r, rv_r, set_r, Ok_lim, decide_eq_true_eq, Ok_tstN, Ok_tstP, Ok_tst, tst_t, tst_f, List.getElem?_cons_zero, List.getElem?_cons_succ, List.set_cons_zero, List.set_cons_succ, List.map_cons, List.map_nil, List.length_cons, List.length_nil, List.replicate_succ, List.replicate_zero, List.cons_append, List.nil_append, isN, cnt_nil, cnt_cons, Bool.not_true, Bool.not_false, if_true, if_false, Option.map_some, Nat.reduceAdd, Nat.reduceSub, Nat.reduceLT, Nat.reduceLeDiff, Int.reduceLT, Bool.false_eq_true]
  rw [rg_1 (by omega) (by omega)]
  refine lcGo_pure (fun S' => Fr [] S S') (fun d => match d with | .int r => some (.int (countR xs r : Int)) | d => some d) .refl (fun _ _ => held_nil) (fun d hd S1 f1 => ?_) (fun S1 f1 => ?_)
  · obtain ⟨i, hi⟩ := List.mem_iff_getElem?.mp hd
    obtain ⟨_, rfl⟩ := rangeD_get hi
    rw [lcT_eq]
    simp only [wipeR, Ok_ok, Ok_bind, x_nil, x_one, x_asg, x_exp, x_ret, x_retN, x_pas, x_brk, x_cnt, x_ife, nxQ_nx, nxQ_rt, nxQ_bk, nxQ_ct, rtQ_nx, rtQ_rt, d_var', gv_some, d_non, d_bl, d_int, d_str, d_glb, d_tup, d_lst, d_bin, d_cmp, d_neg, d_nt, d_isN, d_nsN, d_chn, d_and, d_or, d_ife, d_cal, d_bi, d_isi, d_mth, d_ix, d_sl, d_rvs, d_lrg, d_lc, l_nil, l_cons, o_nil, o_cons, oiD, negD, notD, i_rng, i_enm, i_zip, i_cons, g_var, g_tup, g_ix, gs_nil, gs_cons, b_add, b_sub, b_mul, b_modP, b_fdvP, b_pow, b_adds, b_addt, b_addl, b_mull, addL_eq, c_lt, c_le, c_gt, c_ge, c_eq, c_ne, eqO_f, eqO_t, eq_ii, eq_ss, bi_len, lenD_some, len_t, len_r, seqO_l, seqO_s, bi_int, bi_intb, bi_maxii, bi_minii, ofS_some, bi_listr, bi_listt, bi_tupr, bi_tupt, ixO_some, ix_t, ix_r, at_0, at_1, at_2, at_3, sl_t, sl_r, rv_r, set_r, Ok_lim, decide_eq_true_eq, Ok_tstN, Ok_tstP, Ok_tst, tst_t, tst_f, List.getElem?_cons_zero, List.getElem?_cons_succ, List.set_cons_zero, List.set_cons_succ, List.map_cons, List.map_nil, List.length_cons, List.length_nil, List.replicate_succ, List.replicate_zero, List.cons_append, List.nil_append, isN, cnt_nil, cnt_cons, Bool.not_true, Bool.not_false, if_true, if_false, Option.map_some, Nat.reduceAdd, Nat.reduceSub, Nat.reduceLT, Nat.reduceLeDiff, Int.reduceLT, Bool.false_eq_true]
    rw [src_t]
    simp only [Ok_ok, Ok_bind, x_nil, x_one, x_asg, x_exp, x_ret, x_retN, x_pas, x_brk, x_cnt, x_ife, nxQ_nx, nxQ_rt, nxQ_bk, nxQ_ct, rtQ_nx, rtQ_rt, d_var', gv_some, d_non, d_bl, d_int, d_str, d_glb, d_tup, d_lst, d_bin, d_cmp, d_neg, d_nt, d_isN, d_nsN, d_chn, d_and, d_or, d_ife, d_cal, d_bi, d_isi, d_mth, d_ix, d_sl, d_rvs, d_lrg, d_lc, l_nil, l_cons, o_nil, o_cons, oiD, negD, notD, i_rng, i_enm, i_zip, i_cons, g_var, g_tup, g_ix, gs_nil, gs_cons, b_add, b_sub, b_mul, b_modP, b_fdvP, b_pow, b_adds, b_addt, b_addl, b_mull, addL_eq, c_lt, c_le, c_gt, c_ge, c_eq, c_ne, eqO_f, eqO_t, eq_ii, eq_ss, bi_len, lenD_some, len_t, len_r, seqO_l, seqO_s, bi_int, bi_intb, bi_maxii, bi_minii, ofS_some, bi_listr, bi_listt, bi_tupr, bi_tupt, ixO_some, ix_t, ix_r, at_0, at_1, at_2, at_3, sl_t, sl_r, rv_r, set_r, Ok_lim, decide_eq_true_eq, Ok_tstN, Ok_tstP, Ok_tst, tst_t, tst_f, List.getElem?_cons_zero, List.getElem?_cons_succ, List.set_cons_zero, List.set_cons_succ, List.map_cons, List.map_nil, List.length_cons, List.length_nil, List.replicate_succ, List.replicate_zero, List.cons_append, List.nil_append, isN, cnt_nil, cnt_cons, Bool.not_true, Bool.not_false, if_true, if_false, Option.map_some, Nat.reduceAdd, Nat.reduceSub, Nat.reduceLT, Nat.reduceLeDiff, Int.reduceLT, Bool.false_eq_true, ofO_some]
    refine lcGo_pure (fun S' => Fr [] S1 S') (fun d => if decide (fstD d = 0 + (i : Int)) = true then some (id d) else none) .refl (fun _ _ => held_nil) (fun d hd S2 f2 => ?_) (fun S2 f2 => ?_)
    · obtain ⟨r, q, rfl, _⟩ := hx d hd
      rw [lcT_eq]
      simp only [wipeR, Ok_ok, Ok_bind, x_nil, x_one, x_asg, x_exp, x_ret, x_retN, x_pas, x_brk, x_cnt, x_ife, nxQ_nx, nxQ_rt, nxQ_bk, nxQ_ct, rtQ_nx, rtQ_rt, d_var', gv_some, d_non, d_bl, d_int, d_str, d_glb, d_tup, d_lst, d_bin, d_cmp, d_neg, d_nt, d_isN, d_nsN, d_chn, d_and, d_or, d_ife, d_cal, d_bi, d_isi, d_mth, d_ix, d_sl, d_rvs, d_lrg, d_lc, l_nil, l_cons, o_nil, o_cons, oiD, negD, notD, i_rng, i_enm, i_zip, i_cons, g_var, g_tup, g_ix, gs_nil, gs_cons, b_add, b_sub, b_mul, b_modP, b_fdvP, b_pow, b_adds, b_addt, b_addl, b_mull, addL_eq, c_lt, c_le, c_gt, c_ge, c_eq, c_ne, eqO_f, eqO_t, eq_ii, eq_ss, bi_len, lenD_some, len_t, len_r, seqO_l, seqO_s, bi_int, bi_intb, bi_maxii, bi_minii, ofS_some, bi_listr, bi_listt, bi_tupr, bi_tupt, ixO_some, ix_t, ix_r, at_0, at_1, at_2, at_3, sl_t, sl_r, rv_r, set_r, Ok_lim, decide_eq_true_eq, Ok_tstN, Ok_tstP, Ok_tst, tst_t, tst_f, List.getElem?_cons_zero, List.getElem?_cons_succ, List.set_cons_zero, List.set_cons_succ, List.map_cons, List.map_nil, List.length_cons, List.length_nil, List.replicate_succ, List.replicate_zero, List.cons_append, List.nil_append, isN, cnt_nil, cnt_cons, Bool.not_true, Bool.not_false, if_true, if_false, Option.map_some, Nat.reduceAdd, Nat.reduceSub, Nat.reduceLT, Nat.reduceLeDiff, Int.reduceLT, Bool.false_eq_true, fstD, id]
      split
      · rename_i h; simp only [h, Ok_ok, Ok_bind, x_nil, x_one, x_asg, x_exp, x_ret, x_retN, x_pas, x_brk, x_cnt, x_ife, nxQ_nx, nxQ_rt, nxQ_bk, nxQ_ct, rtQ_nx, rtQ_rt, d_var', gv_some, d_non, d_bl, d_int, d_str, d_glb, d_tup, d_lst, d_bin, d_cmp, d_neg, d_nt, d_isN, d_nsN, d_chn, d_and, d_or, d_ife, d_cal, d_bi, d_isi, d_mth, d_ix, d_sl, d_rvs, d_lrg, d_lc, l_nil, l_cons, o_nil, o_cons, oiD, negD, notD, i_rng, i_enm, i_zip, i_cons, g_var, g_tup, g_ix, gs_nil, gs_cons, b_add, b_sub, b_mul, b_modP, b_fdvP, b_pow, b_adds, b_addt, b_addl, b_mull, addL_eq, c_lt, c_le, c_gt, c_ge, c_eq, c_ne, eqO_f, eqO_t, eq_ii, eq_ss, bi_len, lenD_some, len_t, len_r, seqO_l, seqO_s, bi_int, bi_intb, bi_maxii, bi_minii, ofS_some, bi_listr, bi_listt, bi_tupr, bi_tupt, ixO_some, ix_t, ix_r, at_0, at_1, at_2, at_3, sl_t, sl_r, rv_r, set_r, Ok_lim, decide_eq_true_eq, Ok_tstN, Ok_tstP, Ok_tst, tst_t, tst_f, List.getElem?_cons_zero, List.getElem?_cons_succ, List.set_cons_zero, List.set_cons_succ, List.map_cons, List.map_nil, List.length_cons, List.length_nil, List.replicate_succ, List.replicate_zero, List.cons_append, List.nil_append, isN, cnt_nil, cnt_cons, Bool.not_true, Bool.not_false, if_true, if_false, Option.map_some, Nat.reduceAdd, Nat.reduceSub, Nat.reduceLT, Nat.reduceLeDiff, Int.reduceLT, Bool.false_eq_true]; exact ⟨trivial, f2⟩
      · rename_i h; simp only [h, Ok_ok, Ok_bind, x_nil, x_one, x_asg, x_exp, x_ret, x_retN, x_pas, x_brk, x_cnt, x_ife, nxQ_nx, nxQ_rt, nxQ_bk, nxQ_ct, rtQ_nx, rtQ_rt, d_var', gv_some, d_non, d_bl, d_int, d_str, d_glb, d_tup, d_lst, d_bin, d_cmp, d_neg, d_nt, d_isN, d_nsN, d_chn, d_and, d_or, d_ife, d_cal, d_bi, d_isi, d_mth, d_ix, d_sl, d_rvs, d_lrg, d_lc, l_nil, l_cons, o_nil, o_cons, oiD, negD, notD, i_rng, i_enm, i_zip, i_cons, g_var, g_tup, g_ix, gs_nil, gs_cons, b_add, b_sub, b_mul, b_modP, b_fdvP, b_pow, b_adds, b_addt, b_addl, b_mull, addL_eq, c_lt, c_le, c_gt, c_ge, c_eq, c_ne, eqO_f, eqO_t, eq_ii, eq_ss, bi_len, lenD_some, len_t, len_r, seqO_l, seqO_s, bi_int, bi_intb, bi_maxii, bi_minii, ofS_some, bi_listr, bi_listt, bi_tupr, bi_tupt, ixO_some, ix_t, ix_r, at_0, at_1, at_2, at_3, sl_t, sl_r, rv_r, set_r, Ok_lim, decide_eq_true_eq, Ok_tstN, Ok_tstP, Ok_tst, tst_t, tst_f, List.getElem?_cons_zero, List.getElem?_cons_succ, List.set_cons_zero, List.set_cons_succ, List.map_cons, List.map_nil, List.length_cons, List.length_nil, List.replicate_succ, List.replicate_zero, List.cons_append, List.nil_append, isN, cnt_nil, cnt_cons, Bool.not_true, Bool.not_false, if_true, if_false, Option.map_some, Nat.reduceAdd, Nat.reduceSub, Nat.reduceLT, Nat.reduceLeDiff, Int.reduceLT, Bool.false_eq_true]; exact ⟨trivial, f2⟩
    · rw [Ok_lim (by omega)]
      refine Ok_newA fun a S3 ha ea ela f3 => ?_
      simp only [Ok_ok, Ok_bind, x_nil, x_one, x_asg, x_exp, x_ret, x_retN, x_pas, x_brk, x_cnt, x_ife, nxQ_nx, nxQ_rt, nxQ_bk, nxQ_ct, rtQ_nx, rtQ_rt, d_var', gv_some, d_non, d_bl, d_int, d_str, d_glb, d_tup, d_lst, d_bin, d_cmp, d_neg, d_nt, d_isN, d_nsN, d_chn, d_and, d_or, d_ife, d_cal, d_bi, d_isi, d_mth, d_ix, d_sl, d_rvs, d_lrg, d_lc, l_nil, l_cons, o_nil, o_cons, oiD, negD, notD, i_rng, i_enm, i_zip, i_cons, g_var, g_tup, g_ix, gs_nil, gs_cons, b_add, b_sub, b_mul, b_modP, b_fdvP, b_pow, b_adds, b_addt, b_addl, b_mull, addL_eq, c_lt, c_le, c_gt, c_ge, c_eq, c_ne, eqO_f, eqO_t, eq_ii, eq_ss, bi_len, lenD_some, len_t, len_r, seqO_l, seqO_s, bi_int, bi_intb, bi_maxii, bi_minii, ofS_some, bi_listr, bi_listt, bi_tupr, bi_tupt, ixO_some, ix_t, ix_r, at_0, at_1, at_2, at_3, sl_t, sl_r, rv_r, set_r, Ok_lim, decide_eq_true_eq, Ok_tstN, Ok_tstP, Ok_tst, tst_t, tst_f, List.getElem?_cons_zero, List.getElem?_cons_succ, List.set_cons_zero, List.set_cons_succ, List.map_cons, List.map_nil, List.length_cons, List.length_nil, List.replicate_succ, List.replicate_zero, List.cons_append, List.nil_append, isN, cnt_nil, cnt_cons, Bool.not_true, Bool.not_false, if_true, if_false, Option.map_some, Nat.reduceAdd, Nat.reduceSub, Nat.reduceLT, Nat.reduceLeDiff, Int.reduceLT, Bool.false_eq_true, ha]
      exact ⟨by rw [filterMap_filter]; rfl, (f1.trans f2).trans f3⟩
  · rw [rangeD_len, Ok_lim (by omega)]
    refine Ok_newA fun a S3 ha ea ela f3 => ?_
    simp only [Ok_ok, Ok_bind, x_nil, x_one, x_asg, x_exp, x_ret, x_retN, x_pas, x_brk, x_cnt, x_ife, nxQ_nx, nxQ_rt, nxQ_bk, nxQ_ct, rtQ_nx, rtQ_rt, d_var', gv_some, d_non, d_bl, d_int, d_str, d_glb, d_tup, d_lst, d_bin, d_cmp, d_neg, d_nt, d_isN, d_nsN, d_chn, d_and, d_or, d_ife, d_cal, d_bi, d_isi, d_mth, d_ix, d_sl, d_rvs, d_lrg, d_lc, l_nil, l_cons, o_nil, o_cons, oiD, negD, notD, i_rng, i_enm, i_zip, i_cons, g_var, g_tup, g_ix, gs_nil, gs_cons, b_add, b_sub, b_mul, b_modP, b_fdvP, b_pow, b_adds, b_addt, b_addl, b_mull, addL_eq, c_lt, c_le, c_gt, c_ge, c_eq, c_ne, eqO_f, eqO_t, eq_ii, eq_ss, bi_len, lenD_some, len_t, len_r, seqO_l, seqO_s, bi_int, bi_intb, bi_maxii, bi_minii, ofS_some, bi_listr, bi_listt, bi_tupr, bi_tupt, ixO_some, ix_t, ix_r, at_0, at_1, at_2, at_3, sl_t, sl_r, rv_r, set_r, Ok_lim, decide_eq_true_eq, Ok_tstN, Ok_tstP, Ok_tst, tst_t, tst_f, List.getElem?_cons_zero, List.getElem?_cons_succ, List.set_cons_zero, List.set_cons_succ, List.map_cons, List.map_nil, List.length_cons, List.length_nil, List.replicate_succ, List.replicate_zero, List.cons_append, List.nil_append, isN, cnt_nil, cnt_cons, Bool.not_true, Bool.not_false, if_true, if_false, Option.map_some, Nat.reduceAdd, Nat.reduceSub, Nat.reduceLT, Nat.reduceLeDiff, Int.reduceLT, Bool.false_eq_true, ha]
    have e : sharesD xs n = (rangeD 0 n.toNat).filterMap fun d => match d with | .int r => some (.int (countR xs r : Int)) | d => some d := by
      unfold sharesD
      refine (rangeD_map fun d hd => ?_).symm
      cases d <;> rfl
    rw [← e]
    exact q _ (f1.trans f3)
theorem maxL_mem {xs : List Int} {m : Int} (h : maxL xs = some m) : m ∈ xs := by
  cases xs with
  | nil => cases h
  | cons x xs =>
    simp only [maxL, Option.some.injEq] at h
    subst h
    induction xs generalizing x with
    | nil => simp
    | cons y ys ih =>
      rw [List.foldl_cons]
      have := ih (if y > x then y else x)
      rcases List.mem_cons.mp this with e | e
      · rw [e]; split <;> simp
      · simp [e]
theorem maxL_cons (x : Int) (xs : List Int) : ∃ m, maxL (x :: xs) = some m := ⟨_, rfl⟩
theorem intsOf_map (ns : List Int) : intsOf (ns.map D.int) = some ns := by
  unfold intsOf
  induction ns with
  | nil => rfl
  | cons n ns ih => simp only [List.map_cons, mapO, asI, ih]
def DrawStockOk (Φ : Nat → List D → Hs → R D) (i : Nat) : Prop := ∀ (p k : Nat) (most : Int) (S : Hs) (Q : D → Hs → Prop), Pen S p k → k + 100 ≤ 1048576 → 4 ≤ most → most ≤ 1000 → (∀ ds S', 1 ≤ ds.length → ds.length ≤ 4 → (∀ d ∈ ds, ReelD d) → prodR ds ≤ 100 → sumR ds ≤ most → Pen S' p (k + 100) → Fr [p] S S' → Q (.tup ds) S') → Ok (Φ i [.ref p, .int most] S) Q
def DrawCutOk (Φ : Nat → List D → Hs → R D) (i : Nat) : Prop := ∀ (p k : Nat) (ds : List D) (S : Hs) (Q : D → Hs → Prop), Pen S p k → k + 200 ≤ 1048576 → (∀ d ∈ ds, ReelD d) → ds.length ≤ 4 → (∀ a xs S', S'[a]? = some (.lst xs) → S.length ≤ a → (∀ d ∈ xs, PairD ds.length d) → xs.length ≤ 40 → Pen S' p (k + 100) → Fr [p] S S' → Q (.ref a) S') → Ok (Φ i [.ref p, .tup ds] S) Q
def SharesOk (Φ : Nat → List D → Hs → R D) (i : Nat) : Prop := ∀ (m : Nat) (xs : List D) (n : Int) (S : Hs) (Q : D → Hs → Prop), (∀ d ∈ xs, PairD m d) → xs.length ≤ 1000 → 0 ≤ n → n ≤ 1000 → (∀ S', Fr [] S S' → Q (.tup (sharesD xs n)) S') → Ok (Φ i [.tup xs, .int n] S) Q
theorem shares_pure (xs : List D) (n : Int) : pureDs (sharesD xs n) = true ∧ deps (sharesD xs n) = 0 ∧ (sharesD xs n).length = n.toNat := by
  have h : ∀ d ∈ sharesD xs n, ∃ i : Int, d = .int i := by
    intro d hd
    obtain ⟨x, hx, rfl⟩ := List.mem_map.mp hd
    obtain ⟨i, hi⟩ := List.mem_iff_getElem?.mp hx
    obtain ⟨_, rfl⟩ := rangeD_get hi
    exact ⟨_, rfl⟩
  refine ⟨pureDs_mem.mpr fun d hd => ?_, Nat.le_zero.mp (deps_le.mpr fun d hd => ?_), by unfold sharesD; rw [List.length_map, rangeD_len]⟩
  · obtain ⟨i, rfl⟩ := h d hd; rfl
  · obtain ⟨i, rfl⟩ := h d hd; exact Nat.le_refl _
theorem smallAll_ints {ds : List D} (h : ∀ d ∈ ds, ∃ i : Int, d = .int i) : smallAll (dps ds) = true := by
  induction ds with
  | nil => rfl
  | cons d ds ih =>
    obtain ⟨i, rfl⟩ := h d (by simp)
    simp only [dps, dp, smallAll, smallP, Bool.true_and]
    exact ih fun d hd => h d (by simp [hd])
theorem law48_ok {Φ : Nat → List D → Hs → R D} {G : Nat → D} {W iop ist icu it isa ish s : Nat} {ns : List Int} {S : Hs} {Q : D → Hs → Prop} (hop : OpenOk Φ iop) (hst : DrawStockOk Φ ist) (hcu : DrawCutOk Φ icu) (ht : TakeOk Φ it) (hsa : SameOk Φ isa 2) (hsh : SharesOk Φ ish)
    (hs : S[s]? = some (.scr (ns.map D.int))) (hn : ns.length ≤ 63) (q : ∀ S', Q (.bl true) S') :
    Ok (exec Φ G W (B_law iop ist icu it isa ish) [some (.ref s), none, none, none, none, none, none, none, none, none, none] S) (rtQ Q) := by
  unfold B_law
  refine x_step fun K1 hK1 => ?_
  simp only [Ok_ok, Ok_bind, x_nil, x_one, x_asg, x_exp, x_ret, x_retN, x_pas, x_brk, x_cnt, x_ife, nxQ_nx, nxQ_rt, nxQ_bk, nxQ_ct, rtQ_nx, rtQ_rt, d_var', gv_some, d_non, d_bl, d_int, d_str, d_glb, d_tup, d_lst, d_bin, d_cmp, d_neg, d_nt, d_isN, d_nsN, d_chn, d_and, d_or, d_ife, d_cal, d_bi, d_isi, d_mth, d_ix, d_sl, d_rvs, d_lrg, d_lc, l_nil, l_cons, o_nil, o_cons, oiD, negD, notD, i_rng, i_enm, i_zip, i_cons, g_var, g_tup, g_ix, gs_nil, gs_cons, b_add, b_sub, b_mul, b_modP, b_fdvP, b_pow, b_adds, b_addt, b_addl, b_mull, addL_eq, c_lt, c_le, c_gt, c_ge, c_eq, c_ne, eqO_f, eqO_t, eq_ii, eq_ss, bi_len, lenD_some, len_t, len_r, seqO_l, seqO_s, bi_int, bi_intb, bi_maxii, bi_minii, ofS_some, bi_listr, bi_listt, bi_tupr, bi_tupt, ixO_some, ix_t, ix_r, at_0, at_1, at_2, at_3, sl_t, sl_r, rv_r, set_r, Ok_lim, decide_eq_true_eq, Ok_tstN, Ok_tstP, Ok_tst, tst_t, tst_f, List.getElem?_cons_zero, List.getElem?_cons_succ, List.set_cons_zero, List.set_cons_succ, List.map_cons, List.map_nil, List.length_cons, List.length_nil, List.replicate_succ, List.replicate_zero, List.cons_append, List.nil_append, isN, cnt_nil, cnt_cons, Bool.not_true, Bool.not_false, if_true, if_false, Option.map_some, Nat.reduceAdd, Nat.reduceSub, Nat.reduceLT, Nat.reduceLeDiff, Int.reduceLT, Bool.false_eq_true]
  refine hop s ns _ _ hs hn fun p S1 hpS hp1 f1 => ?_
  refine hK1 _ _ (x_step fun K2 hK2 => ?_)
  rw [x_for]
  simp only [Ok_ok, Ok_bind, x_nil, x_one, x_asg, x_exp, x_ret, x_retN, x_pas, x_brk, x_cnt, x_ife, nxQ_nx, nxQ_rt, nxQ_bk, nxQ_ct, rtQ_nx, rtQ_rt, d_var', gv_some, d_non, d_bl, d_int, d_str, d_glb, d_tup, d_lst, d_bin, d_cmp, d_neg, d_nt, d_isN, d_nsN, d_chn, d_and, d_or, d_ife, d_cal, d_bi, d_isi, d_mth, d_ix, d_sl, d_rvs, d_lrg, d_lc, l_nil, l_cons, o_nil, o_cons, oiD, negD, notD, i_rng, i_enm, i_zip, i_cons, g_var, g_tup, g_ix, gs_nil, gs_cons, b_add, b_sub, b_mul, b_modP, b_fdvP, b_pow, b_adds, b_addt, b_addl, b_mull, addL_eq, c_lt, c_le, c_gt, c_ge, c_eq, c_ne, eqO_f, eqO_t, eq_ii, eq_ss, bi_len, lenD_some, len_t, len_r, seqO_l, seqO_s, bi_int, bi_intb, bi_maxii, bi_minii, ofS_some, bi_listr, bi_listt, bi_tupr, bi_tupt, ixO_some, ix_t, ix_r, at_0, at_1, at_2, at_3, sl_t, sl_r, rv_r, set_r, Ok_lim, decide_eq_true_eq, Ok_tstN, Ok_tstP, Ok_tst, tst_t, tst_f, List.getElem?_cons_zero, List.getElem?_cons_succ, List.set_cons_zero, List.set_cons_succ, List.map_cons, List.map_nil, List.length_cons, List.length_nil, List.replicate_succ, List.replicate_zero, List.cons_append, List.nil_append, isN, cnt_nil, cnt_cons, Bool.not_true, Bool.not_false, if_true, if_false, Option.map_some, Nat.reduceAdd, Nat.reduceSub, Nat.reduceLT, Nat.reduceLeDiff, Int.reduceLT, Bool.false_eq_true]
  rw [rg_1 (by decide) (by decide)]
  refine forGo_ok (fun (i : Nat) (ρ : Rho) (S' : Hs) => ∃ (u2 u3 u4 u5 u6 u7 u8 u9 u10 : Option D), ρ = [some (.ref s), some (.ref p), u2, u3, u4, u5, u6, u7, u8, u9, u10] ∧ Pen S' p (1000 * i))
    ⟨_, _, _, _, _, _, _, _, _, rfl, hp1⟩ (fun _ _ _ _ _ => held_nil) ?_ ?_
  · rintro i d ρ S2 hd ⟨u2, u3, u4, u5, u6, u7, u8, u9, u10, rfl, hp2⟩
    obtain ⟨hi, rfl⟩ := rangeD_get hd
    have hi4 : i < 4 := hi
    simp only [Ok_ok, Ok_bind, x_nil, x_one, x_asg, x_exp, x_ret, x_retN, x_pas, x_brk, x_cnt, x_ife, nxQ_nx, nxQ_rt, nxQ_bk, nxQ_ct, rtQ_nx, rtQ_rt, d_var', gv_some, d_non, d_bl, d_int, d_str, d_glb, d_tup, d_lst, d_bin, d_cmp, d_neg, d_nt, d_isN, d_nsN, d_chn, d_and, d_or, d_ife, d_cal, d_bi, d_isi, d_mth, d_ix, d_sl, d_rvs, d_lrg, d_lc, l_nil, l_cons, o_nil, o_cons, oiD, negD, notD, i_rng, i_enm, i_zip, i_cons, g_var, g_tup, g_ix, gs_nil, gs_cons, b_add, b_sub, b_mul, b_modP, b_fdvP, b_pow, b_adds, b_addt, b_addl, b_mull, addL_eq, c_lt, c_le, c_gt, c_ge, c_eq, c_ne, eqO_f, eqO_t, eq_ii, eq_ss, bi_len, lenD_some, len_t, len_r, seqO_l, seqO_s, bi_int, bi_intb, bi_maxii, bi_minii, ofS_some, bi_listr, bi_listt, bi_tupr, bi_tupt, ixO_some, ix_t, ix_r, at_0, at_1, at_2, at_3, sl_t, sl_r, rv_r, set_r, Ok_lim, decide_eq_true_eq, Ok_tstN, Ok_tstP, Ok_tst, tst_t, tst_f, List.getElem?_cons_zero, List.getElem?_cons_succ, List.set_cons_zero, List.set_cons_succ, List.map_cons, List.map_nil, List.length_cons, List.length_nil, List.replicate_succ, List.replicate_zero, List.cons_append, List.nil_append, isN, cnt_nil, cnt_cons, Bool.not_true, Bool.not_false, if_true, if_false, Option.map_some, Nat.reduceAdd, Nat.reduceSub, Nat.reduceLT, Nat.reduceLeDiff, Int.reduceLT, Bool.false_eq_true]
    refine x_step fun K3 hK3 => ?_
    simp only [Ok_ok, Ok_bind, x_nil, x_one, x_asg, x_exp, x_ret, x_retN, x_pas, x_brk, x_cnt, x_ife, nxQ_nx, nxQ_rt, nxQ_bk, nxQ_ct, rtQ_nx, rtQ_rt, d_var', gv_some, d_non, d_bl, d_int, d_str, d_glb, d_tup, d_lst, d_bin, d_cmp, d_neg, d_nt, d_isN, d_nsN, d_chn, d_and, d_or, d_ife, d_cal, d_bi, d_isi, d_mth, d_ix, d_sl, d_rvs, d_lrg, d_lc, l_nil, l_cons, o_nil, o_cons, oiD, negD, notD, i_rng, i_enm, i_zip, i_cons, g_var, g_tup, g_ix, gs_nil, gs_cons, b_add, b_sub, b_mul, b_modP, b_fdvP, b_pow, b_adds, b_addt, b_addl, b_mull, addL_eq, c_lt, c_le, c_gt, c_ge, c_eq, c_ne, eqO_f, eqO_t, eq_ii, eq_ss, bi_len, lenD_some, len_t, len_r, seqO_l, seqO_s, bi_int, bi_intb, bi_maxii, bi_minii, ofS_some, bi_listr, bi_listt, bi_tupr, bi_tupt, ixO_some, ix_t, ix_r, at_0, at_1, at_2, at_3, sl_t, sl_r, rv_r, set_r, Ok_lim, decide_eq_true_eq, Ok_tstN, Ok_tstP, Ok_tst, tst_t, tst_f, List.getElem?_cons_zero, List.getElem?_cons_succ, List.set_cons_zero, List.set_cons_succ, List.map_cons, List.map_nil, List.length_cons, List.length_nil, List.replicate_succ, List.replicate_zero, List.cons_append, List.nil_append, isN, cnt_nil, cnt_cons, Bool.not_true, Bool.not_false, if_true, if_false, Option.map_some, Nat.reduceAdd, Nat.reduceSub, Nat.reduceLT, Nat.reduceLeDiff, Int.reduceLT, Bool.false_eq_true]
    refine hst p _ _ _ _ hp2 (by omega) (by decide) (by decide) fun ds S3 d1 d4 hds _ _ hp3 f3 => ?_
    refine hK3 _ _ (x_step fun K4 hK4 => ?_)
    simp only [Ok_ok, Ok_bind, x_nil, x_one, x_asg, x_exp, x_ret, x_retN, x_pas, x_brk, x_cnt, x_ife, nxQ_nx, nxQ_rt, nxQ_bk, nxQ_ct, rtQ_nx, rtQ_rt, d_var', gv_some, d_non, d_bl, d_int, d_str, d_glb, d_tup, d_lst, d_bin, d_cmp, d_neg, d_nt, d_isN, d_nsN, d_chn, d_and, d_or, d_ife, d_cal, d_bi, d_isi, d_mth, d_ix, d_sl, d_rvs, d_lrg, d_lc, l_nil, l_cons, o_nil, o_cons, oiD, negD, notD, i_rng, i_enm, i_zip, i_cons, g_var, g_tup, g_ix, gs_nil, gs_cons, b_add, b_sub, b_mul, b_modP, b_fdvP, b_pow, b_adds, b_addt, b_addl, b_mull, addL_eq, c_lt, c_le, c_gt, c_ge, c_eq, c_ne, eqO_f, eqO_t, eq_ii, eq_ss, bi_len, lenD_some, len_t, len_r, seqO_l, seqO_s, bi_int, bi_intb, bi_maxii, bi_minii, ofS_some, bi_listr, bi_listt, bi_tupr, bi_tupt, ixO_some, ix_t, ix_r, at_0, at_1, at_2, at_3, sl_t, sl_r, rv_r, set_r, Ok_lim, decide_eq_true_eq, Ok_tstN, Ok_tstP, Ok_tst, tst_t, tst_f, List.getElem?_cons_zero, List.getElem?_cons_succ, List.set_cons_zero, List.set_cons_succ, List.map_cons, List.map_nil, List.length_cons, List.length_nil, List.replicate_succ, List.replicate_zero, List.cons_append, List.nil_append, isN, cnt_nil, cnt_cons, Bool.not_true, Bool.not_false, if_true, if_false, Option.map_some, Nat.reduceAdd, Nat.reduceSub, Nat.reduceLT, Nat.reduceLeDiff, Int.reduceLT, Bool.false_eq_true]
    refine hcu p _ _ _ _ hp3 (by omega) hds d4 fun a xs S4 ha4 ea hxs hxl hp4 f4 => ?_
    simp only [Ok_ok, Ok_bind, x_nil, x_one, x_asg, x_exp, x_ret, x_retN, x_pas, x_brk, x_cnt, x_ife, nxQ_nx, nxQ_rt, nxQ_bk, nxQ_ct, rtQ_nx, rtQ_rt, d_var', gv_some, d_non, d_bl, d_int, d_str, d_glb, d_tup, d_lst, d_bin, d_cmp, d_neg, d_nt, d_isN, d_nsN, d_chn, d_and, d_or, d_ife, d_cal, d_bi, d_isi, d_mth, d_ix, d_sl, d_rvs, d_lrg, d_lc, l_nil, l_cons, o_nil, o_cons, oiD, negD, notD, i_rng, i_enm, i_zip, i_cons, g_var, g_tup, g_ix, gs_nil, gs_cons, b_add, b_sub, b_mul, b_modP, b_fdvP, b_pow, b_adds, b_addt, b_addl, b_mull, addL_eq, c_lt, c_le, c_gt, c_ge, c_eq, c_ne, eqO_f, eqO_t, eq_ii, eq_ss, bi_len, lenD_some, len_t, len_r, seqO_l, seqO_s, bi_int, bi_intb, bi_maxii, bi_minii, ofS_some, bi_listr, bi_listt, bi_tupr, bi_tupt, ixO_some, ix_t, ix_r, at_0, at_1, at_2, at_3, sl_t, sl_r, rv_r, set_r, Ok_lim, decide_eq_true_eq, Ok_tstN, Ok_tstP, Ok_tst, tst_t, tst_f, List.getElem?_cons_zero, List.getElem?_cons_succ, List.set_cons_zero, List.set_cons_succ, List.map_cons, List.map_nil, List.length_cons, List.length_nil, List.replicate_succ, List.replicate_zero, List.cons_append, List.nil_append, isN, cnt_nil, cnt_cons, Bool.not_true, Bool.not_false, if_true, if_false, Option.map_some, Nat.reduceAdd, Nat.reduceSub, Nat.reduceLT, Nat.reduceLeDiff, Int.reduceLT, Bool.false_eq_true, ha4]
    refine Ok_newA fun b S5 hb eb elb f5 => ?_
    simp only [Ok_ok, Ok_bind, x_nil, x_one, x_asg, x_exp, x_ret, x_retN, x_pas, x_brk, x_cnt, x_ife, nxQ_nx, nxQ_rt, nxQ_bk, nxQ_ct, rtQ_nx, rtQ_rt, d_var', gv_some, d_non, d_bl, d_int, d_str, d_glb, d_tup, d_lst, d_bin, d_cmp, d_neg, d_nt, d_isN, d_nsN, d_chn, d_and, d_or, d_ife, d_cal, d_bi, d_isi, d_mth, d_ix, d_sl, d_rvs, d_lrg, d_lc, l_nil, l_cons, o_nil, o_cons, oiD, negD, notD, i_rng, i_enm, i_zip, i_cons, g_var, g_tup, g_ix, gs_nil, gs_cons, b_add, b_sub, b_mul, b_modP, b_fdvP, b_pow, b_adds, b_addt, b_addl, b_mull, addL_eq, c_lt, c_le, c_gt, c_ge, c_eq, c_ne, eqO_f, eqO_t, eq_ii, eq_ss, bi_len, lenD_some, len_t, len_r, seqO_l, seqO_s, bi_int, bi_intb, bi_maxii, bi_minii, ofS_some, bi_listr, bi_listt, bi_tupr, bi_tupt, ixO_some, ix_t, ix_r, at_0, at_1, at_2, at_3, sl_t, sl_r, rv_r, set_r, Ok_lim, decide_eq_true_eq, Ok_tstN, Ok_tstP, Ok_tst, tst_t, tst_f, List.getElem?_cons_zero, List.getElem?_cons_succ, List.set_cons_zero, List.set_cons_succ, List.map_cons, List.map_nil, List.length_cons, List.length_nil, List.replicate_succ, List.replicate_zero, List.cons_append, List.nil_append, isN, cnt_nil, cnt_cons, Bool.not_true, Bool.not_false, if_true, if_false, Option.map_some, Nat.reduceAdd, Nat.reduceSub, Nat.reduceLT, Nat.reduceLeDiff, Int.reduceLT, Bool.false_eq_true, hb]
    have hys : ∀ d ∈ cutD xs none (some 16), PairD ds.length d := fun d hd => hxs d (cutD_mem hd)
    have hyl : (cutD xs none (some 16)).length ≤ 40 := by
      have : (cutD xs none (some 16)).length ≤ xs.length := by simp only [cutD, List.length_take, List.length_drop]; omega
      omega
    generalize cutD xs none (some 16) = ys at hys hyl hb
    have hp5 := hp4.fr f5 (by simp)
    refine hK4 _ _ (x_step fun K5 hK5 => ?_)
    simp only [Ok_ok, Ok_bind, x_nil, x_one, x_asg, x_exp, x_ret, x_retN, x_pas, x_brk, x_cnt, x_ife, nxQ_nx, nxQ_rt, nxQ_bk, nxQ_ct, rtQ_nx, rtQ_rt, d_var', gv_some, d_non, d_bl, d_int, d_str, d_glb, d_tup, d_lst, d_bin, d_cmp, d_neg, d_nt, d_isN, d_nsN, d_chn, d_and, d_or, d_ife, d_cal, d_bi, d_isi, d_mth, d_ix, d_sl, d_rvs, d_lrg, d_lc, l_nil, l_cons, o_nil, o_cons, oiD, negD, notD, i_rng, i_enm, i_zip, i_cons, g_var, g_tup, g_ix, gs_nil, gs_cons, b_add, b_sub, b_mul, b_modP, b_fdvP, b_pow, b_adds, b_addt, b_addl, b_mull, addL_eq, c_lt, c_le, c_gt, c_ge, c_eq, c_ne, eqO_f, eqO_t, eq_ii, eq_ss, bi_len, lenD_some, len_t, len_r, seqO_l, seqO_s, bi_int, bi_intb, bi_maxii, bi_minii, ofS_some, bi_listr, bi_listt, bi_tupr, bi_tupt, ixO_some, ix_t, ix_r, at_0, at_1, at_2, at_3, sl_t, sl_r, rv_r, set_r, Ok_lim, decide_eq_true_eq, Ok_tstN, Ok_tstP, Ok_tst, tst_t, tst_f, List.getElem?_cons_zero, List.getElem?_cons_succ, List.set_cons_zero, List.set_cons_succ, List.map_cons, List.map_nil, List.length_cons, List.length_nil, List.replicate_succ, List.replicate_zero, List.cons_append, List.nil_append, isN, cnt_nil, cnt_cons, Bool.not_true, Bool.not_false, if_true, if_false, Option.map_some, Nat.reduceAdd, Nat.reduceSub, Nat.reduceLT, Nat.reduceLeDiff, Int.reduceLT, Bool.false_eq_true]
    refine Ok_newA fun a6 S6 ha6 e6 el6 f6 => ?_
    rw [src_t]
    simp only [Ok_ok, Ok_bind, x_nil, x_one, x_asg, x_exp, x_ret, x_retN, x_pas, x_brk, x_cnt, x_ife, nxQ_nx, nxQ_rt, nxQ_bk, nxQ_ct, rtQ_nx, rtQ_rt, d_var', gv_some, d_non, d_bl, d_int, d_str, d_glb, d_tup, d_lst, d_bin, d_cmp, d_neg, d_nt, d_isN, d_nsN, d_chn, d_and, d_or, d_ife, d_cal, d_bi, d_isi, d_mth, d_ix, d_sl, d_rvs, d_lrg, d_lc, l_nil, l_cons, o_nil, o_cons, oiD, negD, notD, i_rng, i_enm, i_zip, i_cons, g_var, g_tup, g_ix, gs_nil, gs_cons, b_add, b_sub, b_mul, b_modP, b_fdvP, b_pow, b_adds, b_addt, b_addl, b_mull, addL_eq, c_lt, c_le, c_gt, c_ge, c_eq, c_ne, eqO_f, eqO_t, eq_ii, eq_ss, bi_len, lenD_some, len_t, len_r, seqO_l, seqO_s, bi_int, bi_intb, bi_maxii, bi_minii, ofS_some, bi_listr, bi_listt, bi_tupr, bi_tupt, ixO_some, ix_t, ix_r, at_0, at_1, at_2, at_3, sl_t, sl_r, rv_r, set_r, Ok_lim, decide_eq_true_eq, Ok_tstN, Ok_tstP, Ok_tst, tst_t, tst_f, List.getElem?_cons_zero, List.getElem?_cons_succ, List.set_cons_zero, List.set_cons_succ, List.map_cons, List.map_nil, List.length_cons, List.length_nil, List.replicate_succ, List.replicate_zero, List.cons_append, List.nil_append, isN, cnt_nil, cnt_cons, Bool.not_true, Bool.not_false, if_true, if_false, Option.map_some, Nat.reduceAdd, Nat.reduceSub, Nat.reduceLT, Nat.reduceLeDiff, Int.reduceLT, Bool.false_eq_true, ofO_some]
    refine lcGo_pure (fun S' => Fr [] S6 S') (fun d => some (.int (fstD d + 1))) .refl (fun _ _ => held_nil) (fun d hd S7 f7 => ?_) (fun S7 f7 => ?_)
    · obtain ⟨r, q, rfl, _⟩ := hys d hd
      rw [lcT_eq]
      simp only [wipeR, Ok_ok, Ok_bind, x_nil, x_one, x_asg, x_exp, x_ret, x_retN, x_pas, x_brk, x_cnt, x_ife, nxQ_nx, nxQ_rt, nxQ_bk, nxQ_ct, rtQ_nx, rtQ_rt, d_var', gv_some, d_non, d_bl, d_int, d_str, d_glb, d_tup, d_lst, d_bin, d_cmp, d_neg, d_nt, d_isN, d_nsN, d_chn, d_and, d_or, d_ife, d_cal, d_bi, d_isi, d_mth, d_ix, d_sl, d_rvs, d_lrg, d_lc, l_nil, l_cons, o_nil, o_cons, oiD, negD, notD, i_rng, i_enm, i_zip, i_cons, g_var, g_tup, g_ix, gs_nil, gs_cons, b_add, b_sub, b_mul, b_modP, b_fdvP, b_pow, b_adds, b_addt, b_addl, b_mull, addL_eq, c_lt, c_le, c_gt, c_ge, c_eq, c_ne, eqO_f, eqO_t, eq_ii, eq_ss, bi_len, lenD_some, len_t, len_r, seqO_l, seqO_s, bi_int, bi_intb, bi_maxii, bi_minii, ofS_some, bi_listr, bi_listt, bi_tupr, bi_tupt, ixO_some, ix_t, ix_r, at_0, at_1, at_2, at_3, sl_t, sl_r, rv_r, set_r, Ok_lim, decide_eq_true_eq, Ok_tstN, Ok_tstP, Ok_tst, tst_t, tst_f, List.getElem?_cons_zero, List.getElem?_cons_succ, List.set_cons_zero, List.set_cons_succ, List.map_cons, List.map_nil, List.length_cons, List.length_nil, List.replicate_succ, List.replicate_zero, List.cons_append, List.nil_append, isN, cnt_nil, cnt_cons, Bool.not_true, Bool.not_false, if_true, if_false, Option.map_some, Nat.reduceAdd, Nat.reduceSub, Nat.reduceLT, Nat.reduceLeDiff, Int.reduceLT, Bool.false_eq_true, fstD]
      exact ⟨trivial, f7⟩
    rw [Ok_lim (by omega)]
    refine Ok_newA fun a8 S8 ha8 e8 el8 f8 => ?_
    simp only [Ok_ok, Ok_bind, x_nil, x_one, x_asg, x_exp, x_ret, x_retN, x_pas, x_brk, x_cnt, x_ife, nxQ_nx, nxQ_rt, nxQ_bk, nxQ_ct, rtQ_nx, rtQ_rt, d_var', gv_some, d_non, d_bl, d_int, d_str, d_glb, d_tup, d_lst, d_bin, d_cmp, d_neg, d_nt, d_isN, d_nsN, d_chn, d_and, d_or, d_ife, d_cal, d_bi, d_isi, d_mth, d_ix, d_sl, d_rvs, d_lrg, d_lc, l_nil, l_cons, o_nil, o_cons, oiD, negD, notD, i_rng, i_enm, i_zip, i_cons, g_var, g_tup, g_ix, gs_nil, gs_cons, b_add, b_sub, b_mul, b_modP, b_fdvP, b_pow, b_adds, b_addt, b_addl, b_mull, addL_eq, c_lt, c_le, c_gt, c_ge, c_eq, c_ne, eqO_f, eqO_t, eq_ii, eq_ss, bi_len, lenD_some, len_t, len_r, seqO_l, seqO_s, bi_int, bi_intb, bi_maxii, bi_minii, ofS_some, bi_listr, bi_listt, bi_tupr, bi_tupt, ixO_some, ix_t, ix_r, at_0, at_1, at_2, at_3, sl_t, sl_r, rv_r, set_r, Ok_lim, decide_eq_true_eq, Ok_tstN, Ok_tstP, Ok_tst, tst_t, tst_f, List.getElem?_cons_zero, List.getElem?_cons_succ, List.set_cons_zero, List.set_cons_succ, List.map_cons, List.map_nil, List.length_cons, List.length_nil, List.replicate_succ, List.replicate_zero, List.cons_append, List.nil_append, isN, cnt_nil, cnt_cons, Bool.not_true, Bool.not_false, if_true, if_false, Option.map_some, Nat.reduceAdd, Nat.reduceSub, Nat.reduceLT, Nat.reduceLeDiff, Int.reduceLT, Bool.false_eq_true, f8.get0 (f7.get0 ha6), ha8]
    have e9 : (ys.filterMap fun d => some (D.int (fstD d + 1))) = (ys.map fun d => fstD d + 1).map D.int := by rw [List.map_map, List.filterMap_eq_map']; rfl
    rw [e9]
    rw [Ok_lim (by rw [List.length_map, List.length_map]; omega)]
    refine Ok_newA fun a9 S9 ha9 e9 el9 f9 => ?_
    obtain ⟨least, hleast⟩ := maxL_cons 0 (ys.map fun d => fstD d + 1)
    rw [bi_maxl (ns := 0 :: ys.map fun d => fstD d + 1) ha9 (intsOf_map (0 :: ys.map fun d => fstD d + 1)) hleast]
    have hl5 : 0 ≤ least ∧ least ≤ 5 := by
      have := maxL_mem hleast
      rcases List.mem_cons.mp this with e | e
      · omega
      · obtain ⟨d, hd, rfl⟩ := List.mem_map.mp e
        obtain ⟨r, q, rfl, r0, r1, _⟩ := hys d hd
        simp only [fstD]
        omega
    have hp9 := (((hp5.fr f6 (by simp)).fr f7 (by simp)).fr f8 (by simp)).fr f9 (by simp)
    clear hleast e9 ha9 ha8 ha6 f6 f7 f8 f9 f5 hb ha4
    refine hK5 _ _ ?_
    rw [x_one, x_for]
    simp only [Ok_ok, Ok_bind, x_nil, x_one, x_asg, x_exp, x_ret, x_retN, x_pas, x_brk, x_cnt, x_ife, nxQ_nx, nxQ_rt, nxQ_bk, nxQ_ct, rtQ_nx, rtQ_rt, d_var', gv_some, d_non, d_bl, d_int, d_str, d_glb, d_tup, d_lst, d_bin, d_cmp, d_neg, d_nt, d_isN, d_nsN, d_chn, d_and, d_or, d_ife, d_cal, d_bi, d_isi, d_mth, d_ix, d_sl, d_rvs, d_lrg, d_lc, l_nil, l_cons, o_nil, o_cons, oiD, negD, notD, i_rng, i_enm, i_zip, i_cons, g_var, g_tup, g_ix, gs_nil, gs_cons, b_add, b_sub, b_mul, b_modP, b_fdvP, b_pow, b_adds, b_addt, b_addl, b_mull, addL_eq, c_lt, c_le, c_gt, c_ge, c_eq, c_ne, eqO_f, eqO_t, eq_ii, eq_ss, bi_len, lenD_some, len_t, len_r, seqO_l, seqO_s, bi_int, bi_intb, bi_maxii, bi_minii, ofS_some, bi_listr, bi_listt, bi_tupr, bi_tupt, ixO_some, ix_t, ix_r, at_0, at_1, at_2, at_3, sl_t, sl_r, rv_r, set_r, Ok_lim, decide_eq_true_eq, Ok_tstN, Ok_tstP, Ok_tst, tst_t, tst_f, List.getElem?_cons_zero, List.getElem?_cons_succ, List.set_cons_zero, List.set_cons_succ, List.map_cons, List.map_nil, List.length_cons, List.length_nil, List.replicate_succ, List.replicate_zero, List.cons_append, List.nil_append, isN, cnt_nil, cnt_cons, Bool.not_true, Bool.not_false, if_true, if_false, Option.map_some, Nat.reduceAdd, Nat.reduceSub, Nat.reduceLT, Nat.reduceLeDiff, Int.reduceLT, Bool.false_eq_true]
    refine ht p _ _ _ _ hp9 (by omega) (by decide) (by decide) fun z S10 z0 z1 hp10 f10 => ?_
    simp only [Ok_ok, Ok_bind, x_nil, x_one, x_asg, x_exp, x_ret, x_retN, x_pas, x_brk, x_cnt, x_ife, nxQ_nx, nxQ_rt, nxQ_bk, nxQ_ct, rtQ_nx, rtQ_rt, d_var', gv_some, d_non, d_bl, d_int, d_str, d_glb, d_tup, d_lst, d_bin, d_cmp, d_neg, d_nt, d_isN, d_nsN, d_chn, d_and, d_or, d_ife, d_cal, d_bi, d_isi, d_mth, d_ix, d_sl, d_rvs, d_lrg, d_lc, l_nil, l_cons, o_nil, o_cons, oiD, negD, notD, i_rng, i_enm, i_zip, i_cons, g_var, g_tup, g_ix, gs_nil, gs_cons, b_add, b_sub, b_mul, b_modP, b_fdvP, b_pow, b_adds, b_addt, b_addl, b_mull, addL_eq, c_lt, c_le, c_gt, c_ge, c_eq, c_ne, eqO_f, eqO_t, eq_ii, eq_ss, bi_len, lenD_some, len_t, len_r, seqO_l, seqO_s, bi_int, bi_intb, bi_maxii, bi_minii, ofS_some, bi_listr, bi_listt, bi_tupr, bi_tupt, ixO_some, ix_t, ix_r, at_0, at_1, at_2, at_3, sl_t, sl_r, rv_r, set_r, Ok_lim, decide_eq_true_eq, Ok_tstN, Ok_tstP, Ok_tst, tst_t, tst_f, List.getElem?_cons_zero, List.getElem?_cons_succ, List.set_cons_zero, List.set_cons_succ, List.map_cons, List.map_nil, List.length_cons, List.length_nil, List.replicate_succ, List.replicate_zero, List.cons_append, List.nil_append, isN, cnt_nil, cnt_cons, Bool.not_true, Bool.not_false, if_true, if_false, Option.map_some, Nat.reduceAdd, Nat.reduceSub, Nat.reduceLT, Nat.reduceLeDiff, Int.reduceLT, Bool.false_eq_true]
    refine Ok_newA fun al S11 hal eal elal f11 => ?_
    rw [src_l hal]
    simp only [Ok_ok, Ok_bind, x_nil, x_one, x_asg, x_exp, x_ret, x_retN, x_pas, x_brk, x_cnt, x_ife, nxQ_nx, nxQ_rt, nxQ_bk, nxQ_ct, rtQ_nx, rtQ_rt, d_var', gv_some, d_non, d_bl, d_int, d_str, d_glb, d_tup, d_lst, d_bin, d_cmp, d_neg, d_nt, d_isN, d_nsN, d_chn, d_and, d_or, d_ife, d_cal, d_bi, d_isi, d_mth, d_ix, d_sl, d_rvs, d_lrg, d_lc, l_nil, l_cons, o_nil, o_cons, oiD, negD, notD, i_rng, i_enm, i_zip, i_cons, g_var, g_tup, g_ix, gs_nil, gs_cons, b_add, b_sub, b_mul, b_modP, b_fdvP, b_pow, b_adds, b_addt, b_addl, b_mull, addL_eq, c_lt, c_le, c_gt, c_ge, c_eq, c_ne, eqO_f, eqO_t, eq_ii, eq_ss, bi_len, lenD_some, len_t, len_r, seqO_l, seqO_s, bi_int, bi_intb, bi_maxii, bi_minii, ofS_some, bi_listr, bi_listt, bi_tupr, bi_tupt, ixO_some, ix_t, ix_r, at_0, at_1, at_2, at_3, sl_t, sl_r, rv_r, set_r, Ok_lim, decide_eq_true_eq, Ok_tstN, Ok_tstP, Ok_tst, tst_t, tst_f, List.getElem?_cons_zero, List.getElem?_cons_succ, List.set_cons_zero, List.set_cons_succ, List.map_cons, List.map_nil, List.length_cons, List.length_nil, List.replicate_succ, List.replicate_zero, List.cons_append, List.nil_append, isN, cnt_nil, cnt_cons, Bool.not_true, Bool.not_false, if_true, if_false, Option.map_some, Nat.reduceAdd, Nat.reduceSub, Nat.reduceLT, Nat.reduceLeDiff, Int.reduceLT, Bool.false_eq_true, ofO_some]
    have hp11 := hp10.fr f11 (by simp)
    refine forGo_ok (fun (j : Nat) (ρ : Rho) (S' : Hs) => ∃ (u6 u7 u8 u9 u10 : Option D), ρ = [some (.ref s), some (.ref p), some (.int (0 + (i : Int))), some (.tup ds), some (.tup ys), some (.int least), u6, u7, u8, u9, u10] ∧ Pen S' p (1000 * (i + 1)) ∧ Fr [] S11 S')
      ⟨_, _, _, _, _, rfl, hp11.mono (by omega), .refl⟩ (fun _ _ _ _ ⟨_, _, _, _, _, _, _, f⟩ => held_l (f.get0 hal)) ?_ ?_
    · rintro j d ρ S12 hd ⟨u6, u7, u8, u9, u10, rfl, hp12, f12⟩
      obtain ⟨n, rfl, n0, n1⟩ : ∃ n : Int, d = .int n ∧ 0 ≤ n ∧ n ≤ 1000 := by
        have := List.mem_of_getElem? hd
        simp only [List.mem_cons, List.not_mem_nil, or_false] at this
        rcases this with rfl | rfl | rfl | rfl | rfl | rfl <;> exact ⟨_, rfl, by omega, by omega⟩
      simp only [Ok_ok, Ok_bind, x_nil, x_one, x_asg, x_exp, x_ret, x_retN, x_pas, x_brk, x_cnt, x_ife, nxQ_nx, nxQ_rt, nxQ_bk, nxQ_ct, rtQ_nx, rtQ_rt, d_var', gv_some, d_non, d_bl, d_int, d_str, d_glb, d_tup, d_lst, d_bin, d_cmp, d_neg, d_nt, d_isN, d_nsN, d_chn, d_and, d_or, d_ife, d_cal, d_bi, d_isi, d_mth, d_ix, d_sl, d_rvs, d_lrg, d_lc, l_nil, l_cons, o_nil, o_cons, oiD, negD, notD, i_rng, i_enm, i_zip, i_cons, g_var, g_tup, g_ix, gs_nil, gs_cons, b_add, b_sub, b_mul, b_modP, b_fdvP, b_pow, b_adds, b_addt, b_addl, b_mull, addL_eq, c_lt, c_le, c_gt, c_ge, c_eq, c_ne, eqO_f, eqO_t, eq_ii, eq_ss, bi_len, lenD_some, len_t, len_r, seqO_l, seqO_s, bi_int, bi_intb, bi_maxii, bi_minii, ofS_some, bi_listr, bi_listt, bi_tupr, bi_tupt, ixO_some, ix_t, ix_r, at_0, at_1, at_2, at_3, sl_t, sl_r, rv_r, set_r, Ok_lim, decide_eq_true_eq, Ok_tstN, Ok_tstP, Ok_tst, tst_t, tst_f, List.getElem?_cons_zero, List.getElem?_cons_succ, List.set_cons_zero, List.set_cons_succ, List.map_cons, List.map_nil, List.length_cons, List.length_nil, List.replicate_succ, List.replicate_zero, List.cons_append, List.nil_append, isN, cnt_nil, cnt_cons, Bool.not_true, Bool.not_false, if_true, if_false, Option.map_some, Nat.reduceAdd, Nat.reduceSub, Nat.reduceLT, Nat.reduceLeDiff, Int.reduceLT, Bool.false_eq_true]
      split
      · refine x_step fun K6 hK6 => ?_
        simp only [Ok_ok, Ok_bind, x_nil, x_one, x_asg, x_exp, x_ret, x_retN, x_pas, x_brk, x_cnt, x_ife, nxQ_nx, nxQ_rt, nxQ_bk, nxQ_ct, rtQ_nx, rtQ_rt, d_var', gv_some, d_non, d_bl, d_int, d_str, d_glb, d_tup, d_lst, d_bin, d_cmp, d_neg, d_nt, d_isN, d_nsN, d_chn, d_and, d_or, d_ife, d_cal, d_bi, d_isi, d_mth, d_ix, d_sl, d_rvs, d_lrg, d_lc, l_nil, l_cons, o_nil, o_cons, oiD, negD, notD, i_rng, i_enm, i_zip, i_cons, g_var, g_tup, g_ix, gs_nil, gs_cons, b_add, b_sub, b_mul, b_modP, b_fdvP, b_pow, b_adds, b_addt, b_addl, b_mull, addL_eq, c_lt, c_le, c_gt, c_ge, c_eq, c_ne, eqO_f, eqO_t, eq_ii, eq_ss, bi_len, lenD_some, len_t, len_r, seqO_l, seqO_s, bi_int, bi_intb, bi_maxii, bi_minii, ofS_some, bi_listr, bi_listt, bi_tupr, bi_tupt, ixO_some, ix_t, ix_r, at_0, at_1, at_2, at_3, sl_t, sl_r, rv_r, set_r, Ok_lim, decide_eq_true_eq, Ok_tstN, Ok_tstP, Ok_tst, tst_t, tst_f, List.getElem?_cons_zero, List.getElem?_cons_succ, List.set_cons_zero, List.set_cons_succ, List.map_cons, List.map_nil, List.length_cons, List.length_nil, List.replicate_succ, List.replicate_zero, List.cons_append, List.nil_append, isN, cnt_nil, cnt_cons, Bool.not_true, Bool.not_false, if_true, if_false, Option.map_some, Nat.reduceAdd, Nat.reduceSub, Nat.reduceLT, Nat.reduceLeDiff, Int.reduceLT, Bool.false_eq_true]
        rw [rg_1 (by omega) (by omega)]
        refine lcGo_pure (fun S' => Fr [] S12 S') (fun d => match d with | .int r => some (.int (countR ys r : Int)) | d => some d) .refl (fun _ _ => held_nil) (fun d hd S13 f13 => ?_) (fun S13 f13 => ?_)
        · obtain ⟨i, hi⟩ := List.mem_iff_getElem?.mp hd
          obtain ⟨_, rfl⟩ := rangeD_get hi
          rw [lcT_eq]
          simp only [wipeR, Ok_ok, Ok_bind, x_nil, x_one, x_asg, x_exp, x_ret, x_retN, x_pas, x_brk, x_cnt, x_ife, nxQ_nx, nxQ_rt, nxQ_bk, nxQ_ct, rtQ_nx, rtQ_rt, d_var', gv_some, d_non, d_bl, d_int, d_str, d_glb, d_tup, d_lst, d_bin, d_cmp, d_neg, d_nt, d_isN, d_nsN, d_chn, d_and, d_or, d_ife, d_cal, d_bi, d_isi, d_mth, d_ix, d_sl, d_rvs, d_lrg, d_lc, l_nil, l_cons, o_nil, o_cons, oiD, negD, notD, i_rng, i_enm, i_zip, i_cons, g_var, g_tup, g_ix, gs_nil, gs_cons, b_add, b_sub, b_mul, b_modP, b_fdvP, b_pow, b_adds, b_addt, b_addl, b_mull, addL_eq, c_lt, c_le, c_gt, c_ge, c_eq, c_ne, eqO_f, eqO_t, eq_ii, eq_ss, bi_len, lenD_some, len_t, len_r, seqO_l, seqO_s, bi_int, bi_intb, bi_maxii, bi_minii, ofS_some, bi_listr, bi_listt, bi_tupr, bi_tupt, ixO_some, ix_t, ix_r, at_0, at_1, at_2, at_3, sl_t, sl_r, rv_r, set_r, Ok_lim, decide_eq_true_eq, Ok_tstN, Ok_tstP, Ok_tst, tst_t, tst_f, List.getElem?_cons_zero, List.getElem?_cons_succ, List.set_cons_zero, List.set_cons_succ, List.map_cons, List.map_nil, List.length_cons, List.length_nil, List.replicate_succ, List.replicate_zero, List.cons_append, List.nil_append, isN, cnt_nil, cnt_cons, Bool.not_true, Bool.not_false, if_true, if_false, Option.map_some, Nat.reduceAdd, Nat.reduceSub, Nat.reduceLT, Nat.reduceLeDiff, Int.reduceLT, Bool.false_eq_true]
          rw [src_t]
          simp only [Ok_ok, Ok_bind, x_nil, x_one, x_asg, x_exp, x_ret, x_retN, x_pas, x_brk, x_cnt, x_ife, nxQ_nx, nxQ_rt, nxQ_bk, nxQ_ct, rtQ_nx, rtQ_rt, d_var', gv_some, d_non, d_bl, d_int, d_str, d_glb, d_tup, d_lst, d_bin, d_cmp, d_neg, d_nt, d_isN, d_nsN, d_chn, d_and, d_or, d_ife, d_cal, d_bi, d_isi, d_mth, d_ix, d_sl, d_rvs, d_lrg, d_lc, l_nil, l_cons, o_nil, o_cons, oiD, negD, notD, i_rng, i_enm, i_zip, i_cons, g_var, g_tup, g_ix, gs_nil, gs_cons, b_add, b_sub, b_mul, b_modP, b_fdvP, b_pow, b_adds, b_addt, b_addl, b_mull, addL_eq, c_lt, c_le, c_gt, c_ge, c_eq, c_ne, eqO_f, eqO_t, eq_ii, eq_ss, bi_len, lenD_some, len_t, len_r, seqO_l, seqO_s, bi_int, bi_intb, bi_maxii, bi_minii, ofS_some, bi_listr, bi_listt, bi_tupr, bi_tupt, ixO_some, ix_t, ix_r, at_0, at_1, at_2, at_3, sl_t, sl_r, rv_r, set_r, Ok_lim, decide_eq_true_eq, Ok_tstN, Ok_tstP, Ok_tst, tst_t, tst_f, List.getElem?_cons_zero, List.getElem?_cons_succ, List.set_cons_zero, List.set_cons_succ, List.map_cons, List.map_nil, List.length_cons, List.length_nil, List.replicate_succ, List.replicate_zero, List.cons_append, List.nil_append, isN, cnt_nil, cnt_cons, Bool.not_true, Bool.not_false, if_true, if_false, Option.map_some, Nat.reduceAdd, Nat.reduceSub, Nat.reduceLT, Nat.reduceLeDiff, Int.reduceLT, Bool.false_eq_true, ofO_some]
          refine lcGo_pure (fun S' => Fr [] S13 S') (fun d => if fstD d = 0 + (i : Int) then some (match d with | .tup [_, x] => x | d => d) else none) .refl (fun _ _ => held_nil) (fun d hd S14 f14 => ?_) (fun S14 f14 => ?_)
          · obtain ⟨r, q, rfl, _⟩ := hys d hd
            rw [lcT_eq]
            simp only [wipeR, Ok_ok, Ok_bind, x_nil, x_one, x_asg, x_exp, x_ret, x_retN, x_pas, x_brk, x_cnt, x_ife, nxQ_nx, nxQ_rt, nxQ_bk, nxQ_ct, rtQ_nx, rtQ_rt, d_var', gv_some, d_non, d_bl, d_int, d_str, d_glb, d_tup, d_lst, d_bin, d_cmp, d_neg, d_nt, d_isN, d_nsN, d_chn, d_and, d_or, d_ife, d_cal, d_bi, d_isi, d_mth, d_ix, d_sl, d_rvs, d_lrg, d_lc, l_nil, l_cons, o_nil, o_cons, oiD, negD, notD, i_rng, i_enm, i_zip, i_cons, g_var, g_tup, g_ix, gs_nil, gs_cons, b_add, b_sub, b_mul, b_modP, b_fdvP, b_pow, b_adds, b_addt, b_addl, b_mull, addL_eq, c_lt, c_le, c_gt, c_ge, c_eq, c_ne, eqO_f, eqO_t, eq_ii, eq_ss, bi_len, lenD_some, len_t, len_r, seqO_l, seqO_s, bi_int, bi_intb, bi_maxii, bi_minii, ofS_some, bi_listr, bi_listt, bi_tupr, bi_tupt, ixO_some, ix_t, ix_r, at_0, at_1, at_2, at_3, sl_t, sl_r, rv_r, set_r, Ok_lim, decide_eq_true_eq, Ok_tstN, Ok_tstP, Ok_tst, tst_t, tst_f, List.getElem?_cons_zero, List.getElem?_cons_succ, List.set_cons_zero, List.set_cons_succ, List.map_cons, List.map_nil, List.length_cons, List.length_nil, List.replicate_succ, List.replicate_zero, List.cons_append, List.nil_append, isN, cnt_nil, cnt_cons, Bool.not_true, Bool.not_false, if_true, if_false, Option.map_some, Nat.reduceAdd, Nat.reduceSub, Nat.reduceLT, Nat.reduceLeDiff, Int.reduceLT, Bool.false_eq_true, fstD]
            split
            · rename_i h; simp only [h, Ok_ok, Ok_bind, x_nil, x_one, x_asg, x_exp, x_ret, x_retN, x_pas, x_brk, x_cnt, x_ife, nxQ_nx, nxQ_rt, nxQ_bk, nxQ_ct, rtQ_nx, rtQ_rt, d_var', gv_some, d_non, d_bl, d_int, d_str, d_glb, d_tup, d_lst, d_bin, d_cmp, d_neg, d_nt, d_isN, d_nsN, d_chn, d_and, d_or, d_ife, d_cal, d_bi, d_isi, d_mth, d_ix, d_sl, d_rvs, d_lrg, d_lc, l_nil, l_cons, o_nil, o_cons, oiD, negD, notD, i_rng, i_enm, i_zip, i_cons, g_var, g_tup, g_ix, gs_nil, gs_cons, b_add, b_sub, b_mul, b_modP, b_fdvP, b_pow, b_adds, b_addt, b_addl, b_mull, addL_eq, c_lt, c_le, c_gt, c_ge, c_eq, c_ne, eqO_f, eqO_t, eq_ii, eq_ss, bi_len, lenD_some, len_t, len_r, seqO_l, seqO_s, bi_int, bi_intb, bi_maxii, bi_minii, ofS_some, bi_listr, bi_listt, bi_tupr, bi_tupt, ixO_some, ix_t, ix_r, at_0, at_1, at_2, at_3, sl_t, sl_r, rv_r, set_r, Ok_lim, decide_eq_true_eq, Ok_tstN, Ok_tstP, Ok_tst, tst_t, tst_f, List.getElem?_cons_zero, List.getElem?_cons_succ, List.set_cons_zero, List.set_cons_succ, List.map_cons, List.map_nil, List.length_cons, List.length_nil, List.replicate_succ, List.replicate_zero, List.cons_append, List.nil_append, isN, cnt_nil, cnt_cons, Bool.not_true, Bool.not_false, if_true, if_false, Option.map_some, Nat.reduceAdd, Nat.reduceSub, Nat.reduceLT, Nat.reduceLeDiff, Int.reduceLT, Bool.false_eq_true]; exact ⟨trivial, f14⟩
            · rename_i h; simp only [h, Ok_ok, Ok_bind, x_nil, x_one, x_asg, x_exp, x_ret, x_retN, x_pas, x_brk, x_cnt, x_ife, nxQ_nx, nxQ_rt, nxQ_bk, nxQ_ct, rtQ_nx, rtQ_rt, d_var', gv_some, d_non, d_bl, d_int, d_str, d_glb, d_tup, d_lst, d_bin, d_cmp, d_neg, d_nt, d_isN, d_nsN, d_chn, d_and, d_or, d_ife, d_cal, d_bi, d_isi, d_mth, d_ix, d_sl, d_rvs, d_lrg, d_lc, l_nil, l_cons, o_nil, o_cons, oiD, negD, notD, i_rng, i_enm, i_zip, i_cons, g_var, g_tup, g_ix, gs_nil, gs_cons, b_add, b_sub, b_mul, b_modP, b_fdvP, b_pow, b_adds, b_addt, b_addl, b_mull, addL_eq, c_lt, c_le, c_gt, c_ge, c_eq, c_ne, eqO_f, eqO_t, eq_ii, eq_ss, bi_len, lenD_some, len_t, len_r, seqO_l, seqO_s, bi_int, bi_intb, bi_maxii, bi_minii, ofS_some, bi_listr, bi_listt, bi_tupr, bi_tupt, ixO_some, ix_t, ix_r, at_0, at_1, at_2, at_3, sl_t, sl_r, rv_r, set_r, Ok_lim, decide_eq_true_eq, Ok_tstN, Ok_tstP, Ok_tst, tst_t, tst_f, List.getElem?_cons_zero, List.getElem?_cons_succ, List.set_cons_zero, List.set_cons_succ, List.map_cons, List.map_nil, List.length_cons, List.length_nil, List.replicate_succ, List.replicate_zero, List.cons_append, List.nil_append, isN, cnt_nil, cnt_cons, Bool.not_true, Bool.not_false, if_true, if_false, Option.map_some, Nat.reduceAdd, Nat.reduceSub, Nat.reduceLT, Nat.reduceLeDiff, Int.reduceLT, Bool.false_eq_true]; exact ⟨trivial, f14⟩
          · rw [Ok_lim (by omega)]
            refine Ok_newA fun a S15 ha ea ela f15 => ?_
            simp only [Ok_ok, Ok_bind, x_nil, x_one, x_asg, x_exp, x_ret, x_retN, x_pas, x_brk, x_cnt, x_ife, nxQ_nx, nxQ_rt, nxQ_bk, nxQ_ct, rtQ_nx, rtQ_rt, d_var', gv_some, d_non, d_bl, d_int, d_str, d_glb, d_tup, d_lst, d_bin, d_cmp, d_neg, d_nt, d_isN, d_nsN, d_chn, d_and, d_or, d_ife, d_cal, d_bi, d_isi, d_mth, d_ix, d_sl, d_rvs, d_lrg, d_lc, l_nil, l_cons, o_nil, o_cons, oiD, negD, notD, i_rng, i_enm, i_zip, i_cons, g_var, g_tup, g_ix, gs_nil, gs_cons, b_add, b_sub, b_mul, b_modP, b_fdvP, b_pow, b_adds, b_addt, b_addl, b_mull, addL_eq, c_lt, c_le, c_gt, c_ge, c_eq, c_ne, eqO_f, eqO_t, eq_ii, eq_ss, bi_len, lenD_some, len_t, len_r, seqO_l, seqO_s, bi_int, bi_intb, bi_maxii, bi_minii, ofS_some, bi_listr, bi_listt, bi_tupr, bi_tupt, ixO_some, ix_t, ix_r, at_0, at_1, at_2, at_3, sl_t, sl_r, rv_r, set_r, Ok_lim, decide_eq_true_eq, Ok_tstN, Ok_tstP, Ok_tst, tst_t, tst_f, List.getElem?_cons_zero, List.getElem?_cons_succ, List.set_cons_zero, List.set_cons_succ, List.map_cons, List.map_nil, List.length_cons, List.length_nil, List.replicate_succ, List.replicate_zero, List.cons_append, List.nil_append, isN, cnt_nil, cnt_cons, Bool.not_true, Bool.not_false, if_true, if_false, Option.map_some, Nat.reduceAdd, Nat.reduceSub, Nat.reduceLT, Nat.reduceLeDiff, Int.reduceLT, Bool.false_eq_true, ha]
            exact ⟨by rw [filterMap_filter]; rfl, (f13.trans f14).trans f15⟩
        · rw [rangeD_len, Ok_lim (by omega)]
          refine Ok_newA fun a S14 ha ea ela f14 => ?_
          simp only [Ok_ok, Ok_bind, x_nil, x_one, x_asg, x_exp, x_ret, x_retN, x_pas, x_brk, x_cnt, x_ife, nxQ_nx, nxQ_rt, nxQ_bk, nxQ_ct, rtQ_nx, rtQ_rt, d_var', gv_some, d_non, d_bl, d_int, d_str, d_glb, d_tup, d_lst, d_bin, d_cmp, d_neg, d_nt, d_isN, d_nsN, d_chn, d_and, d_or, d_ife, d_cal, d_bi, d_isi, d_mth, d_ix, d_sl, d_rvs, d_lrg, d_lc, l_nil, l_cons, o_nil, o_cons, oiD, negD, notD, i_rng, i_enm, i_zip, i_cons, g_var, g_tup, g_ix, gs_nil, gs_cons, b_add, b_sub, b_mul, b_modP, b_fdvP, b_pow, b_adds, b_addt, b_addl, b_mull, addL_eq, c_lt, c_le, c_gt, c_ge, c_eq, c_ne, eqO_f, eqO_t, eq_ii, eq_ss, bi_len, lenD_some, len_t, len_r, seqO_l, seqO_s, bi_int, bi_intb, bi_maxii, bi_minii, ofS_some, bi_listr, bi_listt, bi_tupr, bi_tupt, ixO_some, ix_t, ix_r, at_0, at_1, at_2, at_3, sl_t, sl_r, rv_r, set_r, Ok_lim, decide_eq_true_eq, Ok_tstN, Ok_tstP, Ok_tst, tst_t, tst_f, List.getElem?_cons_zero, List.getElem?_cons_succ, List.set_cons_zero, List.set_cons_succ, List.map_cons, List.map_nil, List.length_cons, List.length_nil, List.replicate_succ, List.replicate_zero, List.cons_append, List.nil_append, isN, cnt_nil, cnt_cons, Bool.not_true, Bool.not_false, if_true, if_false, Option.map_some, Nat.reduceAdd, Nat.reduceSub, Nat.reduceLT, Nat.reduceLeDiff, Int.reduceLT, Bool.false_eq_true, ha]
          have e : (rangeD 0 n.toNat).filterMap (fun d => match d with | .int r => some (.int (countR ys r : Int)) | d => some d) = sharesD ys n := by
            unfold sharesD
            refine rangeD_map fun d hd => ?_
            cases d <;> rfl
          rw [e]
          refine hK6 _ _ ?_
          simp only [Ok_ok, Ok_bind, x_nil, x_one, x_asg, x_exp, x_ret, x_retN, x_pas, x_brk, x_cnt, x_ife, nxQ_nx, nxQ_rt, nxQ_bk, nxQ_ct, rtQ_nx, rtQ_rt, d_var', gv_some, d_non, d_bl, d_int, d_str, d_glb, d_tup, d_lst, d_bin, d_cmp, d_neg, d_nt, d_isN, d_nsN, d_chn, d_and, d_or, d_ife, d_cal, d_bi, d_isi, d_mth, d_ix, d_sl, d_rvs, d_lrg, d_lc, l_nil, l_cons, o_nil, o_cons, oiD, negD, notD, i_rng, i_enm, i_zip, i_cons, g_var, g_tup, g_ix, gs_nil, gs_cons, b_add, b_sub, b_mul, b_modP, b_fdvP, b_pow, b_adds, b_addt, b_addl, b_mull, addL_eq, c_lt, c_le, c_gt, c_ge, c_eq, c_ne, eqO_f, eqO_t, eq_ii, eq_ss, bi_len, lenD_some, len_t, len_r, seqO_l, seqO_s, bi_int, bi_intb, bi_maxii, bi_minii, ofS_some, bi_listr, bi_listt, bi_tupr, bi_tupt, ixO_some, ix_t, ix_r, at_0, at_1, at_2, at_3, sl_t, sl_r, rv_r, set_r, Ok_lim, decide_eq_true_eq, Ok_tstN, Ok_tstP, Ok_tst, tst_t, tst_f, List.getElem?_cons_zero, List.getElem?_cons_succ, List.set_cons_zero, List.set_cons_succ, List.map_cons, List.map_nil, List.length_cons, List.length_nil, List.replicate_succ, List.replicate_zero, List.cons_append, List.nil_append, isN, cnt_nil, cnt_cons, Bool.not_true, Bool.not_false, if_true, if_false, Option.map_some, Nat.reduceAdd, Nat.reduceSub, Nat.reduceLT, Nat.reduceLeDiff, Int.reduceLT, Bool.false_eq_true]
          refine hsh _ _ _ _ _ hys (by omega) n0 n1 fun S15 f15 => ?_
          obtain ⟨h1, h2, h3⟩ := shares_pure ys n
          have pd : pdat S15 2 (.tup (sharesD ys n)) = some (.tuple (dps (sharesD ys n))) := by
            rw [pdat_pure 2 (.tup (sharesD ys n)) (by simpa only [pureD] using h1) (by simp only [dep, h2]; decide)]
            simp only [dp]
          refine hsa _ _ _ _ _ _ pd pd ?_ fun b S16 hb f16 => ?_
          · simp only [smallP, Bool.and_eq_true, decide_eq_true_eq, dps_len]
            refine ⟨by omega, smallAll_ints fun d hd => ?_⟩
            obtain ⟨x, hx, rfl⟩ := List.mem_map.mp hd
            obtain ⟨i, hi⟩ := List.mem_iff_getElem?.mp hx
            obtain ⟨_, rfl⟩ := rangeD_get hi
            exact ⟨_, rfl⟩
          · have hbt : b = true := hb.mpr rfl
            subst hbt
            simp only [Ok_ok, Ok_bind, x_nil, x_one, x_asg, x_exp, x_ret, x_retN, x_pas, x_brk, x_cnt, x_ife, nxQ_nx, nxQ_rt, nxQ_bk, nxQ_ct, rtQ_nx, rtQ_rt, d_var', gv_some, d_non, d_bl, d_int, d_str, d_glb, d_tup, d_lst, d_bin, d_cmp, d_neg, d_nt, d_isN, d_nsN, d_chn, d_and, d_or, d_ife, d_cal, d_bi, d_isi, d_mth, d_ix, d_sl, d_rvs, d_lrg, d_lc, l_nil, l_cons, o_nil, o_cons, oiD, negD, notD, i_rng, i_enm, i_zip, i_cons, g_var, g_tup, g_ix, gs_nil, gs_cons, b_add, b_sub, b_mul, b_modP, b_fdvP, b_pow, b_adds, b_addt, b_addl, b_mull, addL_eq, c_lt, c_le, c_gt, c_ge, c_eq, c_ne, eqO_f, eqO_t, eq_ii, eq_ss, bi_len, lenD_some, len_t, len_r, seqO_l, seqO_s, bi_int, bi_intb, bi_maxii, bi_minii, ofS_some, bi_listr, bi_listt, bi_tupr, bi_tupt, ixO_some, ix_t, ix_r, at_0, at_1, at_2, at_3, sl_t, sl_r, rv_r, set_r, Ok_lim, decide_eq_true_eq, Ok_tstN, Ok_tstP, Ok_tst, tst_t, tst_f, List.getElem?_cons_zero, List.getElem?_cons_succ, List.set_cons_zero, List.set_cons_succ, List.map_cons, List.map_nil, List.length_cons, List.length_nil, List.replicate_succ, List.replicate_zero, List.cons_append, List.nil_append, isN, cnt_nil, cnt_cons, Bool.not_true, Bool.not_false, if_true, if_false, Option.map_some, Nat.reduceAdd, Nat.reduceSub, Nat.reduceLT, Nat.reduceLeDiff, Int.reduceLT, Bool.false_eq_true]
            have F : Fr [] S12 S16 := ((f13.trans f14).trans f15).trans f16
            exact ⟨_, _, _, _, _, rfl, hp12.fr F (by simp), f12.trans F⟩
      · exact ⟨_, _, _, _, _, rfl, hp12, f12⟩
    · rintro ρ S12 ⟨u6, u7, u8, u9, u10, rfl, hp12, f12⟩
      exact ⟨_, _, _, _, _, _, _, _, _, rfl, hp12⟩
  · rintro ρ S2 ⟨u2, u3, u4, u5, u6, u7, u8, u9, u10, rfl, hp2⟩
    refine hK2 _ _ ?_
    simp only [Ok_ok, Ok_bind, x_nil, x_one, x_asg, x_exp, x_ret, x_retN, x_pas, x_brk, x_cnt, x_ife, nxQ_nx, nxQ_rt, nxQ_bk, nxQ_ct, rtQ_nx, rtQ_rt, d_var', gv_some, d_non, d_bl, d_int, d_str, d_glb, d_tup, d_lst, d_bin, d_cmp, d_neg, d_nt, d_isN, d_nsN, d_chn, d_and, d_or, d_ife, d_cal, d_bi, d_isi, d_mth, d_ix, d_sl, d_rvs, d_lrg, d_lc, l_nil, l_cons, o_nil, o_cons, oiD, negD, notD, i_rng, i_enm, i_zip, i_cons, g_var, g_tup, g_ix, gs_nil, gs_cons, b_add, b_sub, b_mul, b_modP, b_fdvP, b_pow, b_adds, b_addt, b_addl, b_mull, addL_eq, c_lt, c_le, c_gt, c_ge, c_eq, c_ne, eqO_f, eqO_t, eq_ii, eq_ss, bi_len, lenD_some, len_t, len_r, seqO_l, seqO_s, bi_int, bi_intb, bi_maxii, bi_minii, ofS_some, bi_listr, bi_listt, bi_tupr, bi_tupt, ixO_some, ix_t, ix_r, at_0, at_1, at_2, at_3, sl_t, sl_r, rv_r, set_r, Ok_lim, decide_eq_true_eq, Ok_tstN, Ok_tstP, Ok_tst, tst_t, tst_f, List.getElem?_cons_zero, List.getElem?_cons_succ, List.set_cons_zero, List.set_cons_succ, List.map_cons, List.map_nil, List.length_cons, List.length_nil, List.replicate_succ, List.replicate_zero, List.cons_append, List.nil_append, isN, cnt_nil, cnt_cons, Bool.not_true, Bool.not_false, if_true, if_false, Option.map_some, Nat.reduceAdd, Nat.reduceSub, Nat.reduceLT, Nat.reduceLeDiff, Int.reduceLT, Bool.false_eq_true]
    exact q _
end RS

namespace Law
open PySem PySem.Spec L2 RS

def prog : PySem.Program := PySem.Challenge.pw_reelsplice_k48_shares_for_more_reels
def top (i : Nat) : Stmt := PySem.Challenge.pw_reelsplice_k48_shares_for_more_reels.main.body.getD i (.Pass ⟨0, 0, 0, 0⟩)
def tab : Tab := ⟨["shares", "_law_open", "_law_spread", "_law_take", "_law_same", "_law_one_of", "_law_letters", "_law_draw_stock", "_law_draw_cut", "law"], []⟩
def ps0 : List Str := ["cut", "reels"]
def ns0 : List Str := ["cut", "reels", "reel", "pair"]
abbrev st0 : Stmt := top 1   -- shares
def ps1 : List Str := ["script"]
def ns1 : List Str := ["script", "cells", "k", "cell"]
abbrev st1 : Stmt := top 3   -- _law_open
def ps2 : List Str := ["cell", "at"]
def ns2 : List Str := ["cell", "at", "primes", "u", "v", "w"]
abbrev st2 : Stmt := top 4   -- _law_spread
def ps3 : List Str := ["pen", "amount"]
def ns3 : List Str := ["pen", "amount", "found", "at", "cell"]
abbrev st3 : Stmt := top 5   -- _law_take
def ps4 : List Str := ["found", "due"]
def ns4 : List Str := ["found", "due", "one", "other"]
abbrev st4 : Stmt := top 6   -- _law_same
def ps5 : List Str := ["pen", "some"]
def ns5 : List Str := ["pen", "some"]
abbrev st5 : Stmt := top 7   -- _law_one_of
def ps6 : List Str := []
def ns6 : List Str := []
abbrev st6 : Stmt := top 8   -- _law_letters
def ps7 : List Str := ["pen", "most"]
def ns7 : List Str := ["pen", "most", "r", "stock", "count", "product", "found", "is_plain", "later", "many", "own", "letters", "room", "left", "some", "loss", "turns", "worth", "ways", "again"]
abbrev st7 : Stmt := top 9   -- _law_draw_stock
def ps8 : List Str := ["pen", "stock"]
def ns8 : List Str := ["pen", "stock", "again", "rows", "cut", "r", "reel", "places", "row", "p"]
abbrev st8 : Stmt := top 10   -- _law_draw_cut
def ps9 : List Str := ["script"]
def ns9 : List Str := ["script", "pen", "turn", "stock", "cut", "least", "reels", "due", "r", "p", "number"]
abbrev st9 : Stmt := top 11   -- law
def dfs : List Dfn := [⟨"shares", st0, ps0, ns0⟩, ⟨"_law_open", st1, ps1, ns1⟩, ⟨"_law_spread", st2, ps2, ns2⟩, ⟨"_law_take", st3, ps3, ns3⟩, ⟨"_law_same", st4, ps4, ns4⟩, ⟨"_law_one_of", st5, ps5, ns5⟩, ⟨"_law_letters", st6, ps6, ns6⟩, ⟨"_law_draw_stock", st7, ps7, ns7⟩, ⟨"_law_draw_cut", st8, ps8, ns8⟩, ⟨"law", st9, ps9, ns9⟩]
/-- shares -/
def b0 : C :=
  (.cons (.ret (.bi .tuple (.cons (.lc [2] (.bi .len (.cons (.lc [3] (.var 3) (.var 3) (.cons (.var 0) .nil) (.cmp .eq (.ix (.var 3) (.int 0)) (.var 2))) .nil)) (.var 2) (.rng (.cons (.var 1) .nil)) (.bl true)) .nil)))
  .nil)
def f0 : Fn := ⟨2, 4, b0⟩
/-- _law_open -/
def b1 : C :=
  (.cons (.asg (.var 1) (.bi .list (.cons (.sl (.var 0) .nil (.cons (.int 12) .nil)) .nil)))
  (.cons (.for_ (.tup (.cons (.var 2) (.cons (.var 3) .nil))) (.enm (.cons (.sl (.var 0) (.cons (.int 12) .nil) (.cons (.int 63) .nil)) .nil))
      (.cons (.asg (.ix (.var 1) (.bin .mod (.bi .int (.cons (.var 2) .nil)) (.int 12))) (.bin .add (.ix (.var 1) (.bin .mod (.bi .int (.cons (.var 2) .nil)) (.int 12))) (.var 3)))
      .nil))
  (.cons (.ret (.lst (.cons (.var 1) (.cons (.int 0) (.cons (.int 0) .nil)))))
  .nil)))
def f1 : Fn := ⟨1, 4, b1⟩
/-- _law_spread -/
def b2 : C :=
  (.cons (.ife (.cmp .ge (.var 0) (.bin .pow (.int 10) (.int 18)))
      (.cons (.ret (.var 0))
      .nil)
      .nil)
  (.cons (.asg (.var 2) (.lst (.cons (.int 2147483629) (.cons (.int 2147483587) (.cons (.int 2147483579) (.cons (.int 2147483563) (.cons (.int 2147483549) (.cons (.int 2147483543) (.cons (.int 2147483497) (.cons (.int 2147483489) .nil))))))))))
  (.cons (.asg (.var 2) (.bin .add (.var 2) (.lst (.cons (.int 2147483477) (.cons (.int 2147483423) (.cons (.int 2147483399) (.cons (.int 2147483353) (.cons (.int 2147483323) .nil))))))))
  (.cons (.asg (.var 3) (.bin .add (.bin .add (.bin .mul (.bin .mod (.bi .int (.cons (.var 0) .nil)) (.int 1000000007)) (.bin .add (.bin .mul (.int 2) (.var 1)) (.int 69069))) (.bin .mul (.var 1) (.int 40503))) (.int 977)))
  (.cons (.asg (.var 3) (.bin .mod (.bi .int (.cons (.bin .pow (.var 3) (.int 3)) .nil)) (.ix (.var 2) (.bin .mod (.bi .int (.cons (.var 1) .nil)) (.int 13)))))
  (.cons (.asg (.var 4) (.bin .mod (.bi .int (.cons (.bin .pow (.bin .add (.bin .add (.bin .mul (.var 3) (.bin .add (.var 1) (.int 3))) (.bin .mod (.bi .int (.cons (.var 0) .nil)) (.int 65537))) (.int 5)) (.int 5)) .nil)) (.ix (.var 2) (.bin .mod (.bi .int (.cons (.bin .add (.var 1) (.int 5)) .nil)) (.int 13)))))
  (.cons (.asg (.var 5) (.bin .mod (.bi .int (.cons (.bin .pow (.bin .add (.bin .add (.var 4) (.bin .mod (.bi .int (.cons (.var 3) .nil)) (.int 1009))) (.var 1)) (.int 3)) .nil)) (.ix (.var 2) (.bin .mod (.bi .int (.cons (.bin .add (.var 1) (.int 7)) .nil)) (.int 13)))))
  (.cons (.ret (.bin .add (.bin .mul (.bin .add (.bin .mul (.var 3) (.int 2147483647)) (.var 4)) (.int 2147483647)) (.var 5)))
  .nil))))))))
def f2 : Fn := ⟨2, 6, b2⟩
/-- _law_take -/
def b3 : C :=
  (.cons (.ife (.cmp .lt (.ix (.var 0) (.int 2)) (.var 1))
      (.cons (.asg (.var 3) (.ix (.var 0) (.int 1)))
      (.cons (.asg (.var 4) (.int 0))
      (.cons (.ife (.cmp .lt (.var 3) (.bi .len (.cons (.ix (.var 0) (.int 0)) .nil)))
          (.cons (.asg (.var 4) (.ix (.ix (.var 0) (.int 0)) (.var 3)))
          .nil)
          (.cons (.ife (.cmp .gt (.bi .len (.cons (.ix (.var 0) (.int 0)) .nil)) (.int 0))
              (.cons (.asg (.var 4) (.bin .mod (.bi .int (.cons (.ix (.ix (.var 0) (.int 0)) (.bin .mod (.bi .int (.cons (.bin .add (.bin .mul (.var 3) (.int 5)) (.int 3)) .nil)) (.bi .len (.cons (.ix (.var 0) (.int 0)) .nil)))) .nil)) (.bin .add (.bin .pow (.int 10) (.int 17)) (.var 3))))
              .nil)
              .nil)
          .nil))
      (.cons (.asg (.ix (.var 0) (.int 1)) (.bin .add (.var 3) (.int 1)))
      (.cons (.asg (.ix (.var 0) (.int 2)) (.cal 2 (.cons (.var 4) (.cons (.var 3) .nil))))
      .nil)))))
      .nil)
  (.cons (.asg (.var 2) (.bin .mod (.bi .int (.cons (.ix (.var 0) (.int 2)) .nil)) (.var 1)))
  (.cons (.asg (.ix (.var 0) (.int 2)) (.bin .fdv (.ix (.var 0) (.int 2)) (.var 1)))
  (.cons (.ret (.var 2))
  .nil))))
def f3 : Fn := ⟨2, 5, b3⟩
/-- _law_same -/
def b4 : C :=
  (.cons (.ife (.or (.isN (.var 1)) (.isN (.var 0)))
      (.cons (.ret (.and (.isN (.var 1)) (.isN (.var 0))))
      .nil)
      .nil)
  (.cons (.ife (.or (.isi [.bool] (.var 1)) (.isi [.bool] (.var 0)))
      (.cons (.ret (.and (.isi [.bool] (.var 1)) (.and (.isi [.bool] (.var 0)) (.cmp .eq (.var 0) (.var 1)))))
      .nil)
      .nil)
  (.cons (.ife (.isi [.int, .str] (.var 1))
      (.cons (.ife (.cmp .ne (.isi [.int] (.var 0)) (.isi [.int] (.var 1)))
          (.cons (.ret (.bl false))
          .nil)
          .nil)
      (.cons (.ret (.and (.isi [.int, .str] (.var 0)) (.cmp .eq (.var 0) (.var 1))))
      .nil))
      .nil)
  (.cons (.ife (.or (.cmp .ne (.isi [.tuple] (.var 1)) (.isi [.tuple] (.var 0))) (.cmp .ne (.isi [.list] (.var 1)) (.isi [.list] (.var 0))))
      (.cons (.ret (.bl false))
      .nil)
      .nil)
  (.cons (.ife (.cmp .ne (.bi .len (.cons (.var 0) .nil)) (.bi .len (.cons (.var 1) .nil)))
      (.cons (.ret (.bl false))
      .nil)
      .nil)
  (.cons (.ret (.cmp .nmem (.bl false) (.lc [2, 3] (.cal 4 (.cons (.var 2) (.cons (.var 3) .nil))) (.tup (.cons (.var 2) (.cons (.var 3) .nil))) (.zip false (.cons (.var 0) (.cons (.var 1) .nil))) (.bl true))))
  .nil))))))
def f4 : Fn := ⟨2, 4, b4⟩
/-- _law_one_of -/
def b5 : C :=
  (.cons (.ret (.ix (.var 1) (.cal 3 (.cons (.var 0) (.cons (.bi .len (.cons (.var 1) .nil)) .nil)))))
  .nil)
def f5 : Fn := ⟨2, 2, b5⟩
/-- _law_letters -/
def b6 : C :=
  (.cons (.ret (.str "abcdefghijklmnopqrstuvwxyz"))
  .nil)
def f6 : Fn := ⟨0, 0, b6⟩
/-- _law_draw_stock -/
def b7 : C :=
  (.cons (.asg (.tup (.cons (.var 4) (.cons (.var 5) (.cons (.var 6) (.cons (.var 7) .nil))))) (.tup (.cons (.cal 5 (.cons (.var 0) (.cons (.lst (.cons (.int 1) (.cons (.int 2) (.cons (.int 2) (.cons (.int 2) (.cons (.int 3) (.cons (.int 3) (.cons (.int 4) .nil)))))))) .nil))) (.cons (.int 1) (.cons (.lst .nil) (.cons (.cmp .eq (.cal 3 (.cons (.var 0) (.cons (.int 2) .nil))) (.int 0)) .nil))))))
  (.cons (.for_ (.var 2) (.rng (.cons (.var 4) .nil))
      (.cons (.asg (.var 8) (.bin .sub (.bin .sub (.var 4) (.int 1)) (.var 2)))
      (.cons (.asg (.tup (.cons (.var 12) (.cons (.var 13) (.cons (.var 14) .nil)))) (.tup (.cons (.bin .fdv (.int 100) (.bin .mul (.var 5) (.ix (.lst (.cons (.int 1) (.cons (.int 2) (.cons (.int 4) (.cons (.int 8) .nil))))) (.var 8)))) (.cons (.bin .sub (.var 1) (.var 8)) (.cons (.lst .nil) .nil)))))
      (.cons (.for_ (.var 9) (.rng (.cons (.int 1) (.cons (.bin .add (.bi .min (.cons (.int 10) (.cons (.var 13) .nil))) (.int 1)) .nil)))
          (.cons (.for_ (.var 15) (.rng (.cons (.ife (.var 7) (.int 1) (.bin .add (.var 9) (.int 1))) .nil))
              (.cons (.asg (.var 17) (.bin .mul (.var 9) (.bin .add (.var 15) (.int 1))))
              (.cons (.asg (.var 18) (.bin .add (.bin .mul (.lst (.cons (.bl false) .nil)) (.bi .int (.cons (.cmp .lt (.var 17) (.var 12)) .nil))) (.bin .mul (.lst (.cons (.bl true) .nil)) (.bi .int (.cons (.cmp .lt (.bin .mul (.int 2) (.var 17)) (.var 12)) .nil)))))
              (.cons (.asg (.var 14) (.bin .add (.var 14) (.lc [16] (.tup (.cons (.var 9) (.cons (.var 15) (.cons (.var 16) .nil)))) (.var 16) (.cons (.var 18) .nil) (.bl true))))
              .nil))))
          .nil))
      (.cons (.asg (.tup (.cons (.var 9) (.cons (.var 15) (.cons (.var 16) .nil)))) (.cal 5 (.cons (.var 0) (.cons (.var 14) .nil))))
      (.cons (.asg (.var 5) (.bin .mul (.var 5) (.bin .add (.bin .mul (.bin .mul (.var 9) (.bin .add (.var 15) (.int 1))) (.bin .add (.int 1) (.bi .int (.cons (.var 16) .nil)))) (.int 1))))
      (.cons (.asg (.var 1) (.bin .sub (.var 1) (.var 9)))
      (.cons (.asg (.var 10) (.sl (.cal 6 .nil) (.cons (.bin .add (.int 3) (.bin .mul (.int 5) (.var 2))) .nil) (.cons (.bin .add (.int 8) (.bin .mul (.int 5) (.var 2))) .nil)))
      (.cons (.asg (.var 11) (.cal 5 (.cons (.var 0) (.cons (.lst (.cons (.str "ab") (.cons (.str "abc") (.cons (.var 10) (.cons (.var 10) (.cons (.cal 6 .nil) .nil)))))) .nil))))
      (.cons (.exp (.mth .append (.var 6) (.cons (.tup (.cons (.mth .join (.str "") (.cons (.lc [19] (.cal 5 (.cons (.var 0) (.cons (.var 11) .nil))) (.var 19) (.rng (.cons (.var 9) .nil)) (.bl true)) .nil)) (.cons (.var 15) (.cons (.var 16) .nil)))) .nil)))
      .nil))))))))))
  (.cons (.asg (.var 3) (.lst .nil))
  (.cons (.whl (.cmp .ne (.var 6) (.lst .nil))
      (.cons (.exp (.mth .append (.var 3) (.cons (.mth .pop (.var 6) (.cons (.cal 3 (.cons (.var 0) (.cons (.bi .len (.cons (.var 6) .nil)) .nil))) .nil)) .nil)))
      .nil))
  (.cons (.ret (.bi .tuple (.cons (.var 3) .nil)))
  .nil)))))
def f7 : Fn := ⟨2, 20, b7⟩
/-- _law_draw_cut -/
def b8 : C :=
  (.cons (.asg (.tup (.cons (.var 3) (.cons (.var 4) .nil))) (.tup (.cons (.lst .nil) (.cons (.lst .nil) .nil))))
  (.cons (.for_ (.tup (.cons (.var 5) (.cons (.var 6) .nil))) (.enm (.cons (.var 1) .nil))
      (.cons (.asg (.var 7) (.lrg (.cons (.bi .len (.cons (.ix (.var 6) (.int 0)) .nil)) .nil)))
      (.cons (.for_ (.var 2) (.rng (.cons (.cal 3 (.cons (.var 0) (.cons (.bin .add (.ix (.var 6) (.int 1)) (.int 1)) .nil))) .nil))
          (.cons (.exp (.mth .pop (.var 7) (.cons (.cal 3 (.cons (.var 0) (.cons (.bi .len (.cons (.var 7) .nil)) .nil))) .nil)))
          .nil))
      (.cons (.ife (.and (.ix (.var 6) (.int 2)) (.cmp .eq (.cal 3 (.cons (.var 0) (.cons (.int 2) .nil))) (.int 1)))
          (.cons (.asg (.var 7) (.rvs (.var 7)))
          .nil)
          .nil)
      (.cons (.exp (.mth .append (.var 3) (.cons (.lc [9] (.tup (.cons (.var 5) (.cons (.var 9) .nil))) (.var 9) (.cons (.var 7) .nil) (.bl true)) .nil)))
      .nil)))))
  (.cons (.for_ (.var 2) (.rng (.cons (.bi .sum (.cons (.lc [8] (.bi .len (.cons (.var 8) .nil)) (.var 8) (.cons (.var 3) .nil) (.bl true)) .nil)) .nil))
      (.cons (.asg (.var 8) (.cal 5 (.cons (.var 0) (.cons (.lc [8] (.var 8) (.var 8) (.cons (.var 3) .nil) (.cmp .ne (.var 8) (.lst .nil))) .nil))))
      (.cons (.exp (.mth .append (.var 4) (.cons (.mth .pop (.var 8) (.cons (.int 0) .nil)) .nil)))
      .nil)))
  (.cons (.ret (.var 4))
  .nil))))
def f8 : Fn := ⟨2, 10, b8⟩
/-- law -/
def b9 : C :=
  (.cons (.asg (.var 1) (.cal 1 (.cons (.var 0) .nil)))
  (.cons (.for_ (.var 2) (.rng (.cons (.int 4) .nil))
      (.cons (.asg (.var 3) (.cal 7 (.cons (.var 1) (.cons (.int 12) .nil))))
      (.cons (.asg (.var 4) (.bi .tuple (.cons (.sl (.cal 8 (.cons (.var 1) (.cons (.var 3) .nil))) .nil (.cons (.int 16) .nil)) .nil)))
      (.cons (.asg (.var 5) (.bi .max (.cons (.bin .add (.lst (.cons (.int 0) .nil)) (.lc [8, 9] (.bin .add (.var 8) (.int 1)) (.tup (.cons (.var 8) (.cons (.var 9) .nil))) (.cons (.var 4) .nil) (.bl true))) .nil)))
      (.cons (.for_ (.var 6) (.cons (.lst (.cons (.var 5) (.cons (.bi .len (.cons (.var 3) .nil)) (.cons (.int 4) (.cons (.int 5) (.cons (.int 7) (.cons (.bin .add (.int 4) (.cal 3 (.cons (.var 1) (.cons (.int 20) .nil)))) .nil))))))) .nil)
          (.cons (.ife (.cmp .ge (.var 6) (.var 5))
              (.cons (.asg (.var 7) (.bi .tuple (.cons (.lc [8] (.bi .len (.cons (.lc [10, 9] (.var 9) (.tup (.cons (.var 10) (.cons (.var 9) .nil))) (.cons (.var 4) .nil) (.cmp .eq (.var 10) (.var 8))) .nil)) (.var 8) (.rng (.cons (.var 6) .nil)) (.bl true)) .nil)))
              (.cons (.ife (.nt (.cal 4 (.cons (.cal 0 (.cons (.var 4) (.cons (.var 6) .nil))) (.cons (.var 7) .nil))))
                  (.cons (.ret (.bl false))
                  .nil)
                  .nil)
              .nil))
              .nil)
          .nil))
      .nil)))))
  (.cons (.ret (.bl true))
  .nil)))
def f9 : Fn := ⟨1, 11, b9⟩

def fs : List Fn := [f0, f1, f2, f3, f4, f5, f6, f7, f8, f9]
theorem cp : dfs.map (fun d => compF 400 tab d.N d.ps (defScope d.st) (defBody d.st)) = fs.map some := by decide +kernel
def G0 : Nat → D := fun _ => .non
abbrev W0 : Nat := 1000000
theorem spread (n : Nat) : SpreadOk (run fs G0 W0 (n + 1)) 2 := fun _ _ _ _ h0 h1 q => Ok_run (b := B_law_spread) (np := 2) (nn := 6) rfl rfl (spread_ok h0 h1 q)
theorem take (n : Nat) : TakeOk (run fs G0 W0 (n + 2)) 3 := fun _ _ _ _ _ hp hk m0 m1 q => Ok_run (b := B_law_take 2) (np := 2) (nn := 5) rfl rfl (take_ok (spread n) hp hk m0 m1 q)
theorem one (n : Nat) : OneOk (run fs G0 W0 (n + 3)) 5 := fun _ _ _ _ _ _ hp hk h1 h2 h3 h4 q => Ok_run (b := B_law_one_of 3) (np := 2) (nn := 2) rfl rfl (one_ok (take n) hp hk h1 h2 h3 h4 q)
theorem oneS (n : Nat) : OneStrOk (run fs G0 W0 (n + 3)) 5 := fun _ _ _ _ _ hp hk h1 h2 q => Ok_run (b := B_law_one_of 3) (np := 2) (nn := 2) rfl rfl (one_str_ok (take n) hp hk h1 h2 q)
theorem open_ (n : Nat) : OpenOk (run fs G0 W0 (n + 1)) 1 := fun _ _ _ _ h1 h2 q => Ok_run (b := B_law_open) (np := 1) (nn := 4) rfl rfl (open_ok h1 h2 q)
theorem letters (n : Nat) : LettersOk (run fs G0 W0 (n + 1)) 6 := fun _ _ q => Ok_run (b := B_law_letters) (np := 0) (nn := 0) rfl rfl (by unfold B_law_letters; rw [x_one, x_ret, d_str]; exact q)
theorem stock (n : Nat) : DrawStockOk (run fs G0 W0 (n + 4)) 7 := fun _ _ _ _ _ hp hk m0 m1 q => Ok_run (b := B_law_draw_stock 5 3 6) (np := 2) (nn := 20) rfl rfl (draw_stock_ok (one n) (oneS n) (take (n + 1)) (letters (n + 2)) (by decide) hp hk m0 m1 q)
theorem cut (n : Nat) : DrawCutOk (run fs G0 W0 (n + 4)) 8 := fun _ _ _ _ _ hp hk h1 h2 q => Ok_run (b := B_law_draw_cut 3 5) (np := 2) (nn := 10) rfl rfl (draw_cut_ok (one n) (take (n + 1)) hp hk h1 h2 q)
theorem same0 (n : Nat) : SameOk (run fs G0 W0 n) 4 0 := fun x y p r S Q h _ _ _ => by simp [pdat] at h
theorem sameS {n k : Nat} (h : SameOk (run fs G0 W0 n) 4 k) : SameOk (run fs G0 W0 (n + 1)) 4 (k + 1) := fun _ _ _ _ _ _ h1 h2 h3 q => Ok_run (b := B_law_same 4) (np := 2) (nn := 4) rfl rfl (same_ok h h1 h2 h3 q)
theorem sharesT (n : Nat) : SharesOk (run fs G0 W0 (n + 1)) 0 := fun _ _ _ _ _ h1 h2 h3 h4 q => Ok_run (b := B_shares) (np := 2) (nn := 4) rfl rfl (shares_ok h1 h2 h3 h4 q)
theorem law_runs : ∀ ns : List Int, ns.length ≤ 63 → ∃ S, run fs G0 1000000 100 9 [.ref 0] [.scr (ns.map D.int)] = .ok (.bl true) S := fun ns hn => by
  have h : Ok (run fs G0 W0 100 9 [.ref 0] [.scr (ns.map D.int)]) (fun d _ => d = .bl true) :=
    Ok_run (n := 99) (b := B_law 1 7 8 3 4 0) (np := 1) (nn := 11) rfl rfl (law48_ok (s := 0) (ns := ns) (open_ 98) (stock 95) (cut 95) (take 97) (sameS (sameS (same0 97))) (sharesT 98) rfl hn fun _ => rfl)
  obtain ⟨d, S, e, rfl⟩ := h.out
  exact ⟨S, e⟩
/-- what the top has written -/
theorem top_mk {K : PySem.W.Frag} {h : Heap} {mg : Str → Option Value} (X : K.In h) (Gn : h.Ns mainGlobals mg)
    {a0 a1 a2 a3 a4 a5 a6 a7 a8 a9 : Addr} {od0 an0 od1 an1 od2 an2 od3 an3 od4 an4 od5 an5 od6 an6 od7 an7 od8 an8 od9 an9 : Option Addr} {sl0 sl1 sl2 sl3 sl4 sl5 sl6 sl7 sl8 sl9 : Array (Option Value)} {oc0 kV0 dc0 pm0 cd0 ct0 oc1 kV1 dc1 pm1 cd1 ct1 oc2 kV2 dc2 pm2 cd2 ct2 oc3 kV3 dc3 pm3 cd3 ct3 oc4 kV4 dc4 pm4 cd4 ct4 oc5 kV5 dc5 pm5 cd5 ct5 oc6 kV6 dc6 pm6 cd6 ct6 oc7 kV7 dc7 pm7 cd7 ct7 oc8 kV8 dc8 pm8 cd8 ct8 oc9 kV9 dc9 pm9 cd9 ct9 : Value}
    (n0 : PySem.W.nsIn K mainGlobals "shares" = some (some (.ref a0))) (l0 : K.lookup a0 = some ⟨oc0, od0, .func (PySem.W.fnOf "shares" "shares" (defArgs st0) (defBody st0) (defScope st0) .none kV0 dc0 pm0 an0 cd0 ct0), sl0⟩) (c0 : PySem.W.codeIn K cd0 "shares" = true) (k0 : PySem.W.keepIn K (.ref a0) = true)
    (n1 : PySem.W.nsIn K mainGlobals "_law_open" = some (some (.ref a1))) (l1 : K.lookup a1 = some ⟨oc1, od1, .func (PySem.W.fnOf "_law_open" "_law_open" (defArgs st1) (defBody st1) (defScope st1) .none kV1 dc1 pm1 an1 cd1 ct1), sl1⟩) (c1 : PySem.W.codeIn K cd1 "_law_open" = true) (k1 : PySem.W.keepIn K (.ref a1) = true)
    (n2 : PySem.W.nsIn K mainGlobals "_law_spread" = some (some (.ref a2))) (l2 : K.lookup a2 = some ⟨oc2, od2, .func (PySem.W.fnOf "_law_spread" "_law_spread" (defArgs st2) (defBody st2) (defScope st2) .none kV2 dc2 pm2 an2 cd2 ct2), sl2⟩) (c2 : PySem.W.codeIn K cd2 "_law_spread" = true) (k2 : PySem.W.keepIn K (.ref a2) = true)
    (n3 : PySem.W.nsIn K mainGlobals "_law_take" = some (some (.ref a3))) (l3 : K.lookup a3 = some ⟨oc3, od3, .func (PySem.W.fnOf "_law_take" "_law_take" (defArgs st3) (defBody st3) (defScope st3) .none kV3 dc3 pm3 an3 cd3 ct3), sl3⟩) (c3 : PySem.W.codeIn K cd3 "_law_take" = true) (k3 : PySem.W.keepIn K (.ref a3) = true)
    (n4 : PySem.W.nsIn K mainGlobals "_law_same" = some (some (.ref a4))) (l4 : K.lookup a4 = some ⟨oc4, od4, .func (PySem.W.fnOf "_law_same" "_law_same" (defArgs st4) (defBody st4) (defScope st4) .none kV4 dc4 pm4 an4 cd4 ct4), sl4⟩) (c4 : PySem.W.codeIn K cd4 "_law_same" = true) (k4 : PySem.W.keepIn K (.ref a4) = true)
    (n5 : PySem.W.nsIn K mainGlobals "_law_one_of" = some (some (.ref a5))) (l5 : K.lookup a5 = some ⟨oc5, od5, .func (PySem.W.fnOf "_law_one_of" "_law_one_of" (defArgs st5) (defBody st5) (defScope st5) .none kV5 dc5 pm5 an5 cd5 ct5), sl5⟩) (c5 : PySem.W.codeIn K cd5 "_law_one_of" = true) (k5 : PySem.W.keepIn K (.ref a5) = true)
    (n6 : PySem.W.nsIn K mainGlobals "_law_letters" = some (some (.ref a6))) (l6 : K.lookup a6 = some ⟨oc6, od6, .func (PySem.W.fnOf "_law_letters" "_law_letters" (defArgs st6) (defBody st6) (defScope st6) .none kV6 dc6 pm6 an6 cd6 ct6), sl6⟩) (c6 : PySem.W.codeIn K cd6 "_law_letters" = true) (k6 : PySem.W.keepIn K (.ref a6) = true)
    (n7 : PySem.W.nsIn K mainGlobals "_law_draw_stock" = some (some (.ref a7))) (l7 : K.lookup a7 = some ⟨oc7, od7, .func (PySem.W.fnOf "_law_draw_stock" "_law_draw_stock" (defArgs st7) (defBody st7) (defScope st7) .none kV7 dc7 pm7 an7 cd7 ct7), sl7⟩) (c7 : PySem.W.codeIn K cd7 "_law_draw_stock" = true) (k7 : PySem.W.keepIn K (.ref a7) = true)
    (n8 : PySem.W.nsIn K mainGlobals "_law_draw_cut" = some (some (.ref a8))) (l8 : K.lookup a8 = some ⟨oc8, od8, .func (PySem.W.fnOf "_law_draw_cut" "_law_draw_cut" (defArgs st8) (defBody st8) (defScope st8) .none kV8 dc8 pm8 an8 cd8 ct8), sl8⟩) (c8 : PySem.W.codeIn K cd8 "_law_draw_cut" = true) (k8 : PySem.W.keepIn K (.ref a8) = true)
    (n9 : PySem.W.nsIn K mainGlobals "law" = some (some (.ref a9))) (l9 : K.lookup a9 = some ⟨oc9, od9, .func (PySem.W.fnOf "law" "law" (defArgs st9) (defBody st9) (defScope st9) .none kV9 dc9 pm9 an9 cd9 ct9), sl9⟩) (c9 : PySem.W.codeIn K cd9 "law" = true) (k9 : PySem.W.keepIn K (.ref a9) = true)
    (b0 : PySem.W.nsIn K mainGlobals "len" = some none) (b1 : PySem.W.nsIn K mainGlobals "int" = some none) (b2 : PySem.W.nsIn K mainGlobals "list" = some none) (b3 : PySem.W.nsIn K mainGlobals "tuple" = some none) (b4 : PySem.W.nsIn K mainGlobals "sum" = some none) (b5 : PySem.W.nsIn K mainGlobals "all" = some none) (b6 : PySem.W.nsIn K mainGlobals "any" = some none) (b7 : PySem.W.nsIn K mainGlobals "max" = some none) (b8 : PySem.W.nsIn K mainGlobals "min" = some none) (b9 : PySem.W.nsIn K mainGlobals "range" = some none) (b10 : PySem.W.nsIn K mainGlobals "enumerate" = some none) (b11 : PySem.W.nsIn K mainGlobals "zip" = some none) (b12 : PySem.W.nsIn K mainGlobals "isinstance" = some none) (b13 : PySem.W.nsIn K mainGlobals "sorted" = some none) (b14 : PySem.W.nsIn K mainGlobals "set" = some none) (b15 : PySem.W.nsIn K mainGlobals "repr" = some none) (b16 : PySem.W.nsIn K mainGlobals "dict" = some none) (b17 : PySem.W.nsIn K mainGlobals "bool" = some none) (b18 : PySem.W.nsIn K mainGlobals "str" = some none) : Top K mg tab dfs fs G0 400 := by
  refine ⟨rfl, ?_, cp, fun x hx _ _ => PySem.W.mg_none_of X Gn ?_, fun g x h => by cases h⟩
  rotate_left
  · simp only [bltNames, List.mem_cons, List.not_mem_nil, or_false] at hx
    rcases hx with rfl | rfl | rfl | rfl | rfl | rfl | rfl | rfl | rfl | rfl | rfl | rfl | rfl | rfl | rfl | rfl | rfl | rfl | rfl <;> assumption
  intro d hd
  simp only [dfs, List.mem_cons, List.not_mem_nil, or_false] at hd
  rcases hd with rfl | rfl | rfl | rfl | rfl | rfl | rfl | rfl | rfl | rfl
  · exact fnAt_mk X Gn (fun us hl => match us, hl with | [_, _], _ => rfl) n0 l0 c0 k0
  · exact fnAt_mk X Gn (fun us hl => match us, hl with | [_], _ => rfl) n1 l1 c1 k1
  · exact fnAt_mk X Gn (fun us hl => match us, hl with | [_, _], _ => rfl) n2 l2 c2 k2
  · exact fnAt_mk X Gn (fun us hl => match us, hl with | [_, _], _ => rfl) n3 l3 c3 k3
  · exact fnAt_mk X Gn (fun us hl => match us, hl with | [_, _], _ => rfl) n4 l4 c4 k4
  · exact fnAt_mk X Gn (fun us hl => match us, hl with | [_, _], _ => rfl) n5 l5 c5 k5
  · exact fnAt_mk X Gn (fun us hl => match us, hl with | [], _ => rfl) n6 l6 c6 k6
  · exact fnAt_mk X Gn (fun us hl => match us, hl with | [_, _], _ => rfl) n7 l7 c7 k7
  · exact fnAt_mk X Gn (fun us hl => match us, hl with | [_, _], _ => rfl) n8 l8 c8 k8
  · exact fnAt_mk X Gn (fun us hl => match us, hl with | [_], _ => rfl) n9 l9 c9 k9
end Law
open PySem PySem.W PyProof.Rows in
set_option maxRecDepth 100000 in
set_option maxHeartbeats 0 in
theorem PySem.Challenge.cw_reelsplice_k48_shares_for_more_reels_holds : PySem.Challenge.rw_reelsplice_k48_shares_for_more_reels.Holds := by
  w_on; o_law; k_head; (case hw => w_witness2)
  k_fill
  refine RS.ends (l := PySem.Challenge.rw_reelsplice_k48_shares_for_more_reels) (n := 100) (f := 9) (W := 1000000) (T := Law.tab) (ds := Law.dfs) (fs := Law.fs) (fuel := 400) (G := Law.G0) (x := "script") rfl rfl ⟨rfl, by decide, by decide⟩ (fun w h Y => PySem.W.kIn_of Y) rfl rfl rfl ?F ?noL Law.law_runs
  case F =>
    intro w mg h KX Gn
    refine' Law.top_mk KX Gn ?n0 ?l0 ?c0 ?k0 ?n1 ?l1 ?c1 ?k1 ?n2 ?l2 ?c2 ?k2 ?n3 ?l3 ?c3 ?k3 ?n4 ?l4 ?c4 ?k4 ?n5 ?l5 ?c5 ?k5 ?n6 ?l6 ?c6 ?k6 ?n7 ?l7 ?c7 ?k7 ?n8 ?l8 ?c8 ?k8 ?n9 ?l9 ?c9 ?k9 ?b0 ?b1 ?b2 ?b3 ?b4 ?b5 ?b6 ?b7 ?b8 ?b9 ?b10 ?b11 ?b12 ?b13 ?b14 ?b15 ?b16 ?b17 ?b18
    (case n0 => k_is)
    (case l0 => k_is)
    (case c0 => k_is)
    (case k0 => k_is)
    (case n1 => k_is)
    (case l1 => k_is)
    (case c1 => k_is)
    (case k1 => k_is)
    (case n2 => k_is)
    (case l2 => k_is)
    (case c2 => k_is)
    (case k2 => k_is)
    (case n3 => k_is)
    (case l3 => k_is)
    (case c3 => k_is)
    (case k3 => k_is)
    (case n4 => k_is)
    (case l4 => k_is)
    (case c4 => k_is)
    (case k4 => k_is)
    (case n5 => k_is)
    (case l5 => k_is)
    (case c5 => k_is)
    (case k5 => k_is)
    (case n6 => k_is)
    (case l6 => k_is)
    (case c6 => k_is)
    (case k6 => k_is)
    (case n7 => k_is)
    (case l7 => k_is)
    (case c7 => k_is)
    (case k7 => k_is)
    (case n8 => k_is)
    (case l8 => k_is)
    (case c8 => k_is)
    (case k8 => k_is)
    (case n9 => k_is)
    (case l9 => k_is)
    (case c9 => k_is)
    (case k9 => k_is)
    (case b0 => k_is)
    (case b1 => k_is)
    (case b2 => k_is)
    (case b3 => k_is)
    (case b4 => k_is)
    (case b5 => k_is)
    (case b6 => k_is)
    (case b7 => k_is)
    (case b8 => k_is)
    (case b9 => k_is)
    (case b10 => k_is)
    (case b11 => k_is)
    (case b12 => k_is)
    (case b13 => k_is)
    (case b14 => k_is)
    (case b15 => k_is)
    (case b16 => k_is)
    (case b17 => k_is)
    (case b18 => k_is)
  case noL =>
    intro w
    rfl

