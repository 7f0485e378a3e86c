import PyProof.Rows.All
import Wide.All
import OpenK.AllK
import Wide.FinOn
import KE.KStateDown
import HandS.Base
import HandS.Call
import HandS.Ends
import HandS.More
import HandS.Words
import HandS.WordsExc
import HandS.Defaults
import HandS.ForMost
import HandS.WrittenGet
import HandS.Deep
import HandS.TupAny
import HandS.TupMul
import HandS.IsInst
import HandS.HeadWalk
import HandS.Head0
import HandS.Head1
import HandS.Head2
import HandS.HeadEnd
import HandS.HeadHook1
import HandS.HeadHook2
import HandS.HeadHook3
import HandS.HeadHook4
import HandS.TupLe
import HandS.Text
import HandS.RaiseMore
import PyProof.AutoSeq1
import HandS.TupSets
import KE.KDictCopyH
import KE.SortData
import HandS.Conv
import HandS.Codes
import PySem.Challenge.RW_tailroom_k11_whole_written_and_read
set_option Elab.async false
set_option autoImplicit false
set_option linter.all false
set_option maxRecDepth 100000
set_option maxHeartbeats 0
/-! PA: a small total interpreter over pure data (D) and a store of cells; codes E, S. -/
namespace PI
open PySem L2

/-- values: trees; `tag n` is the n-th written text, `cell k` the k-th changing object, `frz` the script -/
inductive D where
  | non | bl (b : Bool) | int (i : Int) | str (x : Str) | tag (n : Nat)
  | tup (xs : List D) | lst (xs : List D) | frz (xs : List D) | dct (kvs : List (D × D)) | kdt (kvs : List (D × D)) | cell (k : Nat)
inductive Cell where
  | dead | lst (xs : List D) | ins (c : Nat) (fs : List (Nat × D)) | dct (kvs : List (D × D))
structure Store where
  n : Nat
  f : Nat → Cell
def Store.set (s : Store) (k : Nat) (c : Cell) : Store := ⟨s.n, fun i => if i = k then c else s.f i⟩
def Store.new (s : Store) (c : Cell) : Store := ⟨s.n + 1, fun i => if i = s.n then c else s.f i⟩
abbrev Env := List (Option D)
structure Ex where
  cls : Nat
  arg : Option D
inductive R (α : Type) where
  | stuck | ok (a : α) (s : Store) | exc (e : Ex) (s : Store)
def R.bind {α β : Type} : R α → (α → Store → R β) → R β
  | .stuck, _ => .stuck
  | .ok a s, k => k a s
  | .exc e s, _ => .exc e s
@[simp] theorem R.bind_ok {α β : Type} (a : α) (s : Store) (k : α → Store → R β) : (R.ok a s).bind k = k a s := rfl
@[simp] theorem R.bind_stuck {α β : Type} (k : α → Store → R β) : (R.stuck : R α).bind k = .stuck := rfl
@[simp] theorem R.bind_exc {α β : Type} (e : Ex) (s : Store) (k : α → Store → R β) : (R.exc e s : R α).bind k = .exc e s := rfl
/-- an error within a comprehension is not carried -/
def R.noexc {α : Type} : R α → R α
  | .exc _ _ => .stuck
  | r => r

def LIM : Nat := 1000000

/-! ### equality of data -/
def b2z (b : Bool) : Int := if b then 1 else 0
mutual
def eqvD (T : List Str) : D → D → Bool
  | .non, d => (match d with | .non => true | _ => false)
  | .bl a, d => (match d with | .bl b => a == b | .int j => b2z a == j | _ => false)
  | .int i, d => (match d with | .bl b => i == b2z b | .int j => i == j | _ => false)
  | .str x, d => (match d with | .str y => x == y | .tag m => T[m]? == some x | _ => false)
  | .tag n, d => (match d with | .str y => T[n]? == some y | .tag m => n == m | _ => false)
  | .tup xs, d => (match d with | .tup ys => eqvL T xs ys | _ => false)
  | .lst xs, d => (match d with | .lst ys => eqvL T xs ys | _ => false)
  | .frz _, _ => false
  | .dct _, _ => false
  | .kdt _, _ => false
  | .cell _, _ => false
def eqvL (T : List Str) : List D → List D → Bool
  | [], ys => (match ys with | [] => true | _ :: _ => false)
  | x :: xs, ys => (match ys with | [] => false | y :: ys => eqvD T x y && eqvL T xs ys)
end
mutual
/-- plain data: no cell, no dict, tags within bounds -/
def datD (n : Nat) : D → Bool
  | .non => true
  | .bl _ => true
  | .int _ => true
  | .str _ => true
  | .tag k => decide (k < n)
  | .tup xs => datL n xs
  | .lst xs => datL n xs
  | .frz _ => false
  | .dct _ => false
  | .kdt _ => false
  | .cell _ => false
def datL (n : Nat) : List D → Bool
  | [] => true
  | x :: xs => datD n x && datL n xs
end
mutual
def depD : D → Nat
  | .tup xs => depL xs + 1
  | .lst xs => depL xs + 1
  | .non => 0
  | .bl _ => 0
  | .int _ => 0
  | .str _ => 0
  | .tag _ => 0
  | .frz _ => 0
  | .dct _ => 0
  | .kdt _ => 0
  | .cell _ => 0
def depL : List D → Nat
  | [] => 0
  | x :: xs => max (depD x) (depL xs)
end
def flatD : D → Bool
  | .non => true
  | .bl _ => true
  | .int _ => true
  | .str _ => true
  | .tag _ => true
  | _ => false

def deref (s : Store) : D → D
  | .cell k => (match s.f k with | .lst xs => .lst xs | .dct kvs => .dct kvs | _ => .cell k)
  | d => d
/-- a new list, a cell or a frozen one -/
def newL (c : Bool) (xs : List D) (s : Store) : R D := match c with
  | true => .ok (.cell s.n) (s.new (.lst xs))
  | false => .ok (.lst xs) s
def newK (c : Bool) (kvs : List (D × D)) (s : Store) : R D := match c with
  | true => .ok (.cell s.n) (s.new (.dct kvs))
  | false => .ok (.dct kvs) s
def strOf (T : List Str) : D → Option Str
  | .str x => some x
  | .tag n => T[n]?
  | _ => none

/-! ### operators on values -/
inductive Bop where | add | sub | mul | fdiv | mod | pow deriving DecidableEq
inductive Cop where | eq | ne | lt | le | gt | ge | is_ | isnot | in_ | notin deriving DecidableEq

def addV (T : List Str) (c : Bool) (x y : D) (s : Store) : R D := match deref s x, deref s y with
  | .int i, .int j => .ok (.int (i + j)) s
  | .lst xs, .lst ys => if xs.length + ys.length ≤ LIM then newL c (xs ++ ys) s else .stuck
  | .tup xs, .tup ys => if xs.length + ys.length ≤ LIM then .ok (.tup (xs ++ ys)) s else .stuck
  | .str a, .str b => if a.length + b.length ≤ LIM then .ok (.str (a ++ b)) s else .stuck
  | .tag n, .str b => (match T[n]? with
    | some a => if a.length + b.length ≤ LIM then .ok (.str (a ++ b)) s else .stuck
    | none => .stuck)
  | _, _ => .stuck
def mulV (c : Bool) (x y : D) (s : Store) : R D := match deref s x, deref s y with
  | .int i, .int j => if (-(2 ^ 64) < i ∧ i < 2 ^ 64) ∨ (-(2 ^ 64) < j ∧ j < 2 ^ 64) then .ok (.int (i * j)) s else .stuck
  | .lst xs, .int k => if -(2 ^ 62) ≤ k ∧ k < 2 ^ 62 ∧ xs.length * k.toNat ≤ LIM then newL c (List.replicate k.toNat xs).flatten s else .stuck
  | .tup xs, .int k => if xs.length ≠ 0 ∧ 2 ≤ k ∧ k ≤ 1000 ∧ xs.length ≤ 1000 then .ok (.tup (List.replicate k.toNat xs).flatten) s else .stuck
  | _, _ => .stuck
def bopV (T : List Str) (o : Bop) (c : Bool) (x y : D) (s : Store) : R D := match o with
  | .add => addV T c x y s
  | .mul => mulV c x y s
  | .sub => (match x, y with
    | .int i, .int j => .ok (.int (i - j)) s
    | _, _ => .stuck)
  | .fdiv => (match x, y with
    | .int i, .int j => if 0 < j ∧ j < 1073741824 then .ok (.int (i / j)) s else .stuck
    | _, _ => .stuck)
  | .mod => (match x, y with
    | .int i, .int j => if 0 < j then .ok (.int (i % j)) s else .stuck
    | _, _ => .stuck)
  | .pow => (match x, y with
    | .int i, .int j => if 0 ≤ j ∧ j ≤ 1000000 ∧ i.natAbs < 2 ^ 64 then .ok (.int (i ^ j.toNat)) s else .stuck
    | _, _ => .stuck)
def ordV (f : Int → Int → Bool) (x y : D) (s : Store) : R D := match x, y with
  | .int i, .int j => .ok (.bl (f i j)) s
  | _, _ => .stuck
def eqV' (T : List Str) (neg : Bool) (x y : D) (s : Store) : R D :=
  let a := deref s x
  let b := deref s y
  if datD T.length a = true ∧ datD T.length b = true ∧ (depD a ≤ 60 ∨ depD b ≤ 60) then .ok (.bl (xor neg (eqvD T a b))) s else .stuck
/-- a dict's key: a number or a text -/
def keyD : D → Bool
  | .int _ => true
  | .str _ => true
  | .tag _ => true
  | _ => false
def lookD (T : List Str) (x : D) : List (D × D) → Option D
  | [] => none
  | p :: r => if eqvD T p.1 x = true then some p.2 else lookD T x r
def putD (T : List Str) (x v : D) (kvs : List (D × D)) : List (D × D) :=
  if (kvs.any fun p => eqvD T p.1 x) = true then kvs.map (fun p => if eqvD T p.1 x = true then (p.1, v) else p) else kvs ++ [(x, v)]
def isNonD : D → Bool
  | .non => true
  | _ => false
/-- a sign in a text -/
def signV (T : List Str) (neg : Bool) (x : D) (z : Str) (s : Store) : R D := match strOf T x with
  | some a => (match a.cps.toList with
    | [c] => .ok (.bl (xor neg (decide (c ∈ z.cps.toList)))) s
    | _ => .stuck)
  | none => .stuck
def inV' (T : List Str) (neg : Bool) (x y : D) (s : Store) : R D := match deref s y with
  | .lst ys => if flatD x = true ∧ ys.all flatD = true then .ok (.bl (xor neg (ys.any fun y => eqvD T y x))) s
      else if datD T.length x = true ∧ datL T.length ys = true ∧ depD x ≤ 60 ∧ depL ys ≤ 60 then .ok (.bl (xor neg (ys.any fun y => eqvD T y x))) s else .stuck
  | .tup ys => if flatD x = true ∧ ys.all flatD = true then .ok (.bl (xor neg (ys.any fun y => eqvD T y x))) s else .stuck
  | .dct kvs => if keyD x = true then .ok (.bl (xor neg (lookD T x kvs).isSome)) s else .stuck
  | .kdt kvs => (match x with
    | .tag m => if m < T.length then .ok (.bl (xor neg (lookD T (.tag m) kvs).isSome)) s else .stuck
    | _ => .stuck)
  | .str z => signV T neg x z s
  | .tag n => (match T[n]? with
    | some z => signV T neg x z s
    | none => .stuck)
  | _ => .stuck
def copV (T : List Str) (o : Cop) (x y : D) (s : Store) : R D := match o with
  | .lt => ordV (fun i j => decide (i < j)) x y s
  | .le => ordV (fun i j => decide (i ≤ j)) x y s
  | .gt => ordV (fun i j => decide (j < i)) x y s
  | .ge => ordV (fun i j => decide (j ≤ i)) x y s
  | .eq => eqV' T false x y s
  | .ne => eqV' T true x y s
  | .is_ => (match y with
    | .non => .ok (.bl (isNonD x)) s
    | .bl b => (match x with
      | .bl a => .ok (.bl (decide (a = b))) s
      | _ => .stuck)
    | _ => .stuck)
  | .isnot => (match y with
    | .non => .ok (.bl (!isNonD x)) s
    | .bl b => (match x with
      | .bl a => .ok (.bl (!decide (a = b))) s
      | _ => .stuck)
    | _ => .stuck)
  | .in_ => inV' T false x y s
  | .notin => inV' T true x y s

/-- an item -/
def idxV (T : List Str) (x i : D) (s : Store) : R D := match deref s x with
  | .lst xs => (match i with
    | .int k => (match atI xs k with
      | some v => .ok v s
      | none => .stuck)
    | _ => .stuck)
  | .frz xs => (match i with
    | .int k => (match atI xs k with
      | some v => .ok v s
      | none => .stuck)
    | _ => .stuck)
  | .tup xs => (match i with
    | .int k => (match atI xs k with
      | some v => .ok v s
      | none => .stuck)
    | _ => .stuck)
  | .dct kvs => (match keyD i with
    | true => (match lookD T i kvs with
      | some v => .ok v s
      | none => .stuck)
    | false => .stuck)
  | .kdt kvs => (match i with
    | .tag m => if m < T.length then (match lookD T (.tag m) kvs with
        | some v => .ok v s
        | none => .stuck) else .stuck
    | _ => .stuck)
  | .str x => (match i with
    | .int k => if x.length ≤ LIM then (match atI x.cps.toList k with
      | some c => .ok (.str ⟨#[c]⟩) s
      | none => .stuck) else .stuck
    | _ => .stuck)
  | .tag n => (match T[n]? with
    | some x => (match i with
      | .int k => if x.length ≤ LIM then (match atI x.cps.toList k with
        | some c => .ok (.str ⟨#[c]⟩) s
        | none => .stuck) else .stuck
      | _ => .stuck)
    | none => .stuck)
  | _ => .stuck
def cutD (xs : List D) (lo hi : Option Int) : List D := (xs.drop (HT.sIx xs.length 0 lo)).take (HT.sIx xs.length xs.length hi - HT.sIx xs.length 0 lo)
def slcV (T : List Str) (c : Bool) (x : D) (lo hi : Option Int) (s : Store) : R D := match deref s x with
  | .lst xs => newL c (cutD xs lo hi) s
  | .tup xs => .ok (.tup (cutD xs lo hi)) s
  | .str z => if z.length ≤ LIM then .ok (.str (cutS z lo hi)) s else .stuck
  | .tag n => (match T[n]? with
    | some z => if z.length ≤ LIM then .ok (.str (cutS z lo hi)) s else .stuck
    | none => .stuck)
  | _ => .stuck

/-! ### built-in functions, methods -/
inductive Blt where | len | int_ | list_ | tuple_ | max1 | max2 | min2 | sum | str_ | sset | srt deriving DecidableEq
inductive Bmt where | append | extend | pop0 | popAt | index | count | reverse | get1 | get2 | join | split deriving DecidableEq
def intsOf : List D → Option (List Int)
  | [] => some []
  | x :: r => (match x with
    | .int i => (intsOf r).map (i :: ·)
    | _ => none)
def maxI : Int → List Int → Int
  | m, [] => m
  | m, x :: r => maxI (if m < x then x else m) r
/-- pairs of a number and a truth value, in order -/
def prLt (a b : Int × Bool) : Bool := decide (a.1 < b.1) || (decide (a.1 = b.1) && (!a.2 && b.2))
def prIns (a : Int × Bool) : List (Int × Bool) → List (Int × Bool)
  | [] => [a]
  | b :: r => if prLt a b = true then a :: b :: r else if a = b then b :: r else b :: prIns a r
def prSort (l : List (Int × Bool)) : List (Int × Bool) := l.foldr prIns []
def prsOf : List D → Option (List (Int × Bool))
  | [] => some []
  | x :: r => (match x with
    | .tup [.int i, .bl b] => (prsOf r).map ((i, b) :: ·)
    | _ => none)
def prD (p : Int × Bool) : D := .tup [.int p.1, .bl p.2]
def bltV (T : List Str) (o : Blt) (c : Bool) (as : List D) (s : Store) : R D := match o with
  | .len => (match as with
    | [x] => (match deref s x with
      | .lst xs => .ok (.int xs.length) s
      | .frz xs => .ok (.int xs.length) s
      | .tup xs => .ok (.int xs.length) s
      | .str x => if x.length ≤ LIM then .ok (.int x.length) s else .stuck
      | _ => .stuck)
    | _ => .stuck)
  | .int_ => (match as with
    | [.int i] => .ok (.int i) s
    | [.bl b] => .ok (.int (b2z b)) s
    | [.str x] => (match PySem.intText? x with
      | some n => if x.length ≤ 640 then .ok (.int n) s else .stuck
      | none => .stuck)
    | _ => .stuck)
  | .list_ => (match as with
    | [x] => (match deref s x with
      | .lst xs => newL c xs s
      | .tup xs => newL c xs s
      | _ => .stuck)
    | _ => .stuck)
  | .tuple_ => (match as with
    | [x] => (match deref s x with
      | .lst xs => .ok (.tup xs) s
      | .tup xs => .ok (.tup xs) s
      | _ => .stuck)
    | _ => .stuck)
  | .max1 => (match as with
    | [x] => (match deref s x with
      | .lst xs => (match intsOf xs with
        | some (i :: r) => .ok (.int (maxI i r)) s
        | _ => .stuck)
      | _ => .stuck)
    | _ => .stuck)
  | .max2 => (match as with
    | [.int i, .int j] => .ok (.int (if j > i then j else i)) s
    | _ => .stuck)
  | .min2 => (match as with
    | [.int i, .int j] => .ok (.int (if j < i then j else i)) s
    | _ => .stuck)
  | .sum => (match as with
    | [x] => (match deref s x with
      | .lst xs => (match intsOf xs with
        | some l => .ok (.int l.sum) s
        | none => .stuck)
      | _ => .stuck)
    | _ => .stuck)
  | .str_ => (match as with
    | [.int i] => if i.natAbs.log2 < 1920 ∧ PyData.strOk (toString i : Str) = true then .ok (.str (toString i)) s else .stuck
    | [.str x] => .ok (.str x) s
    | [.tag n] => .ok (.tag n) s
    | _ => .stuck)
  | .srt => (match as with
    | [x] => (match deref s x with
      | .lst xs => (match prsOf xs with
        | some l => if (prSort l).length < 60 ∧ l.Nodup then newL c ((prSort l).map prD) s else .stuck
        | none => .stuck)
      | _ => .stuck)
    | _ => .stuck)
  | .sset => (match as with
    | [x] => (match deref s x with
      | .lst xs => (match prsOf xs with
        | some l => if (prSort l).length < 60 then newL c ((prSort l).map prD) s else .stuck
        | none => .stuck)
      | _ => .stuck)
    | _ => .stuck)
/-- types, by number: 0 int, 1 bool, 2 str, 3 list, 4 tuple -/
def tyIs (s : Store) (x : D) (t : Nat) : Option Bool := match deref s x with
  | .non => some false
  | .bl _ => some (t == 1 || t == 0)
  | .int _ => some (t == 0)
  | .str _ => some (t == 2)
  | .tag _ => some (t == 2)
  | .lst _ => some (t == 3)
  | .tup _ => some (t == 4)
  | _ => none
def isiV (ts : List Nat) (x : D) (s : Store) : R D := match ts with
  | [] => .ok (.bl false) s
  | t :: r => (match tyIs s x t with
    | some true => .ok (.bl true) s
    | some false => isiV r x s
    | none => .stuck)
def strsOf (T : List Str) : List D → Option (List Str)
  | [] => some []
  | x :: r => (match strOf T x with
    | some a => (strsOf T r).map (a :: ·)
    | none => none)
def joinV (T : List Str) (a : Str) (ys : List D) (s : Store) : R D := match strsOf T ys with
  | some zs => if (zs.map (·.length)).sum + zs.length * a.length ≤ LIM ∧ PyData.strOk (Txt.join a zs) = true then .ok (.str (Txt.join a zs)) s else .stuck
  | none => .stuck
def bmtV (T : List Str) (o : Bmt) (x : D) (as : List D) (s : Store) : R D := match o with
  | .append => (match x, as with
    | .cell k, [v] => (match s.f k with
      | .lst xs => if xs.length < LIM then .ok .non (s.set k (.lst (xs ++ [v]))) else .stuck
      | _ => .stuck)
    | _, _ => .stuck)
  | .extend => (match x, as with
    | .cell k, [v] => (match s.f k, deref s v with
      | .lst xs, .lst ys => if xs.length + ys.length ≤ LIM then .ok .non (s.set k (.lst (xs ++ ys))) else .stuck
      | .lst xs, .tup ys => if xs.length + ys.length ≤ LIM then .ok .non (s.set k (.lst (xs ++ ys))) else .stuck
      | _, _ => .stuck)
    | _, _ => .stuck)
  | .join => (match strOf T x, as with
    | some a, [v] => (match deref s v with
      | .lst ys => joinV T a ys s
      | .tup ys => joinV T a ys s
      | _ => .stuck)
    | _, _ => .stuck)
  | .split => (match strOf T x, as with
    | some a, [v] => (match strOf T v with
      | some b => if (b.length == 0) = false ∧ a.length + 2 ≤ LIM ∧ (Txt.split a b).all PyData.strOk = true then .ok (.lst ((Txt.split a b).map .str)) s else .stuck
      | none => .stuck)
    | _, _ => .stuck)
  | .index => (match deref s x, as with
    | .lst ys, [v] => if flatD v = true ∧ ys.all flatD = true then (match ys.findIdx? fun y => eqvD T y v with
      | some j => .ok (.int (j : Nat)) s
      | none => .stuck) else .stuck
    | _, _ => .stuck)
  | .pop0 => (match x, as with
    | .cell k, [] => (match s.f k with
      | .lst xs => (match xs[xs.length - 1]? with
        | some v => .ok v (s.set k (.lst xs.dropLast))
        | none => .stuck)
      | _ => .stuck)
    | _, _ => .stuck)
  | .popAt => (match x, as with
    | .cell k, [.int i] => (match s.f k with
      | .lst xs => (match ixN xs.length i with
        | some j => (match xs[j]? with
          | some v => .ok v (s.set k (.lst (xs.eraseIdx j)))
          | none => .stuck)
        | none => .stuck)
      | _ => .stuck)
    | _, _ => .stuck)
  | .reverse => (match x, as with
    | .cell k, [] => (match s.f k with
      | .lst xs => .ok .non (s.set k (.lst xs.reverse))
      | _ => .stuck)
    | _, _ => .stuck)
  | .get1 => (match deref s x, as with
    | .dct kvs, [k] => if keyD k = true then .ok ((lookD T k kvs).getD .non) s else .stuck
    | _, _ => .stuck)
  | .get2 => (match deref s x, as with
    | .dct kvs, [k, v] => if keyD k = true then .ok ((lookD T k kvs).getD v) s else .stuck
    | _, _ => .stuck)
  | _ => .stuck
/-- what a method's receiver must be, ahead of its arguments -/
def recvOk (o : Bmt) (x : D) (s : Store) : Bool := match o with
  | .get1 => (match deref s x with | .dct _ => true | _ => false)
  | .get2 => (match deref s x with | .dct _ => true | _ => false)
  | .join => (match x with | .str _ => true | .tag _ => true | _ => false)
  | .split => (match x with | .str _ => true | .tag _ => true | _ => false)
  | _ => (match deref s x with | .lst _ => true | _ => false)
def putN (f : Nat) (v : D) : List (Nat × D) → List (Nat × D)
  | [] => [(f, v)]
  | p :: r => if p.1 = f then (f, v) :: r else p :: putN f v r
def lookN (f : Nat) : List (Nat × D) → Option D
  | [] => none
  | p :: r => if f = p.1 then some p.2 else lookN f r
def fldV (f : Nat) (x : D) (s : Store) : R D := match x with
  | .cell k => (match s.f k with
    | .ins _ fs => (match lookN f fs with
      | some v => .ok v s
      | none => .stuck)
    | _ => .stuck)
  | _ => .stuck

/-! ### codes -/
inductive CT where
  | name (i : Nat) | tup (is : List Nat)
mutual
inductive E where
  | var (i : Nat) | frz (i : Nat) | cst (d : D) | glob (g : Nat)
  | bin (o : Bop) (c : Bool) (a b : E) | cmp (o : Cop) (a b : E) | chain (o p : Cop) (a b c : E)
  | and (a b : E) | or (a b : E) | not (a : E) | ite (c a b : E)
  | call (f : Nat) (as : Es) | blt (o : Blt) (c : Bool) (as : Es) | isi (a : E) (ts : List Nat)
  | mth (m : Nat) (a : E) (as : Es) | bmt (o : Bmt) (a : E) (as : Es) | mk (c : Nat) (as : Es)
  | fld (a : E) (f : Nat) | idx (a b : E) | slc (c l h : Bool) (a lo hi : E) | nop
  | tup (as : Es) | tupW (as : Es) | lst (c : Bool) (as : Es) | dct (c : Bool) (as : Es)
  | comp (c : Bool) (vs : List Nat) (t : CT) (it t2 e : E) | rng (a : E) | rng3 (a b c : E) | frzE (a : E)
inductive Es where
  | nil | cons (a : E) (as : Es)
end
inductive Tg where
  | name (i : Nat) | fld (a : E) (f : Nat) | sub (a b : E)
mutual
inductive S where
  | asg (t : Tg) (e : E) | asgT (ts : List Tg) (e : E) | ex (e : E) | ret (e : E) | retN
  | ite (c : E) (a b : Ss) | whl (c : E) (b : Ss) | for_ (t : CT) (it : E) (b : Ss) | pass | never
inductive Ss where
  | nil | cons (a : S) (as : Ss)
end
/-- what a statement comes to -/
inductive F where
  | nx (e : Env) | rt (d : D)

/-! ### the interpreter -/
structure GE where
  tg : List Str
  gl : Nat → Option D
  fn : Nat → List D → Store → R D
  mkf : Nat → List D → Store → R D
  mt : Nat → Nat → Option Nat
  ini : Nat → Option Nat
  W : Nat
def setAll : List Nat → List D → Env → Env
  | i :: is, d :: ds, env => setAll is ds (env.set i (some d))
  | _, _, env => env
def bindC (t : CT) (d : D) (env : Env) : Option Env := match t with
  | .name i => some (env.set i (some d))
  | .tup is => (match d with
    | .tup ds => if ds.length = is.length then some (setAll is ds env) else none
    | _ => none)
def wipeD (env : Env) : List Nat → Env
  | [] => env
  | v :: vs => (wipeD env vs).set v none
def itemsOf : D → Option (List D)
  | .lst xs => some xs
  | .tup xs => some xs
  | .str z => some (z.cps.toList.map fun c => .str ⟨#[c]⟩)
  | _ => none
/-- a test, then one of two -/
def boolK {α : Type} (x : D) (s : Store) (t f : Store → R α) : R α := match x with
  | .bl true => t s
  | .bl false => f s
  | _ => .stuck
@[simp] theorem boolK_t {α : Type} (s : Store) (t f : Store → R α) : boolK (.bl true) s t f = t s := rfl
@[simp] theorem boolK_f {α : Type} (s : Store) (t f : Store → R α) : boolK (.bl false) s t f = f s := rfl
def compL (g : D → Option Env) (c e : Env → Store → R D) : List D → Store → R (List D)
  | [], s => .ok [] s
  | x :: xs, s => (match g x with
    | none => .stuck
    | some env1 => (c env1 s).noexc.bind fun b s1 => boolK b s1 (fun s1 => (e env1 s1).noexc.bind fun y s2 => (compL g c e xs s2).bind fun ys s3 => .ok (y :: ys) s3) (fun s1 => compL g c e xs s1))
/-- a cell walked as it stands -/
def compC (g : D → Option Env) (c e : Env → Store → R D) (k : Nat) : Nat → Nat → Store → R (List D)
  | 0, _, _ => .stuck
  | n + 1, i, s => (match s.f k with
    | .lst xs => (match xs[i]? with
      | none => .ok [] s
      | some x => (match g x with
        | none => .stuck
        | some env1 => (c env1 s).noexc.bind fun b s1 => boolK b s1 (fun s1 => (e env1 s1).noexc.bind fun y s2 => (compC g c e k n (i + 1) s2).bind fun ys s3 => .ok (y :: ys) s3) (fun s1 => compC g c e k n (i + 1) s1)))
    | _ => .stuck)
def compX (g : D → Option Env) (c e : Env → Store → R D) (x : D) (s : Store) : R (List D) := match itemsOf x with
  | some xs => if xs.length ≤ LIM then compL g c e xs s else .stuck
  | none => (match x with
    | .cell k => compC g c e k LIM 0 s
    | _ => .stuck)
/-- i, i + c, .. before j -/
def rng3V (x y z : D) (s : Store) : R D := match x, y, z with
  | .int i, .int j, .int c => if c ≠ 0 ∧ c.natAbs < 1073741824 ∧ Builtin.Range.small i j c = true ∧ 0 ≤ Builtin.Range.rangeSize i j c then .ok (.lst ((List.range (Builtin.Range.rangeSize i j c).toNat).map fun (k : Nat) => .int (i + (k : Nat) * c))) s else .stuck
  | _, _, _ => .stuck
def rngV (d : D) (s : Store) : R D := match d with
  | .int j => if -(LIM : Int) ≤ j ∧ j ≤ (LIM : Int) then .ok (.lst ((List.range j.toNat).map fun (i : Nat) => .int (i : Int))) s else .stuck
  | _ => .stuck
def pairsOf : List D → Option (List (D × D))
  | [] => some []
  | [_] => none
  | k :: v :: r => if keyD k = true then (pairsOf r).map ((k, v) :: ·) else none
def mthV (G : GE) (m : Nat) (x : D) (s : Store) : Option (Nat × Nat) := match x with
  | .cell k => (match s.f k with
    | .ins c fs => (G.mt c m).map fun f => (k, f)
    | _ => none)
  | _ => none
/-- a part of a slice, there or not -/
def prt (b : Bool) (o : R D) : R (Option Int) := o.bind fun d s => match b with
  | true => (match d with
    | .int i => .ok (some i) s
    | _ => .stuck)
  | false => .ok none s
/-- a text that is written, as such -/
def tagV (T : List Str) (d : D) : D := match d with
  | .str x => (match T.findIdx? fun y => y == x with
    | some n => .tag n
    | none => .str x)
  | _ => d
def tagHd (T : List Str) : List D → List D
  | [] => []
  | d :: ds => tagV T d :: ds
def frzV (x : D) (s : Store) : R D := match x with
  | .cell k => (match s.f k with
    | .lst xs => .ok (.lst xs) (s.set k .dead)
    | _ => .stuck)
  | _ => .stuck
mutual
def evalE (G : GE) : E → Env → Store → R D
  | .var i, env, s => (match env[i]? with
    | some (some d) => .ok d s
    | _ => .stuck)
  | .frz i, env, s => (match env[i]? with
    | some (some d) => frzV d s
    | _ => .stuck)
  | .cst d, _, s => .ok d s
  | .glob g, _, s => (match G.gl g with
    | some d => .ok d s
    | none => .stuck)
  | .bin o c a b, env, s => (evalE G a env s).bind fun x s1 => (evalE G b env s1).bind fun y s2 => bopV G.tg o c x y s2
  | .cmp o a b, env, s => (evalE G a env s).bind fun x s1 => (evalE G b env s1).bind fun y s2 => copV G.tg o x y s2
  | .chain o p a b c, env, s => (evalE G a env s).bind fun x s1 => (evalE G b env s1).bind fun y s2 => (copV G.tg o x y s2).bind fun z s3 => boolK z s3 (fun s3 => (evalE G c env s3).bind fun w s4 => copV G.tg p y w s4) (fun s3 => .ok (.bl false) s3)
  | .and a b, env, s => (evalE G a env s).bind fun x s1 => boolK x s1 (fun s => evalE G b env s) (fun s => .ok (.bl false) s)
  | .or a b, env, s => (evalE G a env s).bind fun x s1 => boolK x s1 (fun s => .ok (.bl true) s) (fun s => evalE G b env s)
  | .not a, env, s => (evalE G a env s).bind fun x s1 => boolK x s1 (fun s => .ok (.bl false) s) (fun s => .ok (.bl true) s)
  | .ite c a b, env, s => (evalE G c env s).bind fun x s1 => boolK x s1 (fun s => evalE G a env s) (fun s => evalE G b env s)
  | .call f as, env, s => (evalEs G as env s).bind fun ds s1 => G.fn f ds s1
  | .blt o c as, env, s => (evalEs G as env s).bind fun ds s1 => bltV G.tg o c ds s1
  | .isi a ts, env, s => (evalE G a env s).bind fun x s1 => isiV ts x s1
  | .mth m a as, env, s => (evalE G a env s).bind fun x s1 => match mthV G m x s1 with
    | some (k, f) => (evalEs G as env s1).bind fun ds s2 => G.fn f (.cell k :: ds) s2
    | none => .stuck
  | .bmt o a as, env, s => (evalE G a env s).bind fun x s1 => match recvOk o x s1 with
    | true => (evalEs G as env s1).bind fun ds s2 => bmtV G.tg o x ds s2
    | false => .stuck
  | .mk c as, env, s => (evalEs G as env s).bind fun ds s1 => match G.ini c with
    | some f => (G.mkf f (.cell s1.n :: ds) (s1.new (.ins c []))).bind fun d s2 => match d with
      | .non => .ok (.cell s1.n) s2
      | _ => .stuck
    | none => .stuck
  | .fld a f, env, s => (evalE G a env s).bind fun x s1 => fldV f x s1
  | .idx a b, env, s => (evalE G a env s).bind fun x s1 => (evalE G b env s1).bind fun y s2 => idxV G.tg x y s2
  | .slc c l h a lo hi, env, s => (evalE G a env s).bind fun x s1 => (prt l (evalE G lo env s1)).bind fun i s2 => (prt h (evalE G hi env s2)).bind fun j s3 => slcV G.tg c x i j s3
  | .nop, _, s => .ok .non s
  | .tup as, env, s => (evalEs G as env s).bind fun ds s1 => .ok (.tup ds) s1
  | .tupW as, env, s => (evalEs G as env s).bind fun ds s1 => .ok (.tup (tagHd G.tg ds)) s1
  | .lst c as, env, s => (evalEs G as env s).bind fun ds s1 => newL c ds s1
  | .dct c as, env, s => (evalEs G as env s).bind fun ds s1 => match pairsOf ds with
    | some kvs => if kvs.length ≤ 15 then newK c (kvs.foldl (fun l p => putD G.tg p.1 p.2 l) []) s1 else .stuck
    | none => .stuck
  | .comp c vs t it t2 e, env, s => (evalE G it env s).bind fun x s1 => (compX (fun d => bindC t d (wipeD env vs)) (fun env s => evalE G t2 env s) (fun env s => evalE G e env s) x s1).bind fun ys s2 => newL c ys s2
  | .rng a, env, s => (evalE G a env s).bind fun x s1 => rngV x s1
  | .rng3 a b c, env, s => (evalE G a env s).bind fun x s1 => (evalE G b env s1).bind fun y s2 => (evalE G c env s2).bind fun z s3 => rng3V x y z s3
  | .frzE a, env, s => (evalE G a env s).bind fun x s1 => frzV x s1
def evalEs (G : GE) : Es → Env → Store → R (List D)
  | .nil, _, s => .ok [] s
  | .cons a as, env, s => (evalE G a env s).bind fun d s1 => (evalEs G as env s1).bind fun ds s2 => .ok (d :: ds) s2
end
/-- a store to a target -/
def storeT (G : GE) (t : Tg) (d : D) (env : Env) (s : Store) : R Env := match t with
  | .name i => .ok (env.set i (some d)) s
  | .fld a f => (evalE G a env s).bind fun x s1 => match x with
    | .cell k => (match s1.f k with
      | .ins c fs => if fs.length < 900 then .ok env (s1.set k (.ins c (putN f d fs))) else .stuck
      | _ => .stuck)
    | _ => .stuck
  | .sub a b => (evalE G a env s).bind fun x s1 => (evalE G b env s1).bind fun i s2 => match x with
    | .cell k => (match s2.f k with
      | .lst xs => (match i with
        | .int z => (match ixN xs.length z with
          | some j => .ok env (s2.set k (.lst (xs.set j d)))
          | none => .stuck)
        | _ => .stuck)
      | .dct kvs => if keyD i = true ∧ kvs.length < LIM then .ok env (s2.set k (.dct (putD G.tg i d kvs))) else .stuck
      | _ => .stuck)
    | _ => .stuck
def storeTs (G : GE) : List Tg → List D → Env → Store → R Env
  | t :: ts, d :: ds, env, s => (storeT G t d env s).bind fun env1 s1 => storeTs G ts ds env1 s1
  | [], [], env, s => .ok env s
  | _, _, _, _ => .stuck
def forL (g : D → Env → Option Env) (b : Env → Store → R F) : List D → Env → Store → R F
  | [], env, s => .ok (.nx env) s
  | x :: xs, env, s => (match g x env with
    | none => .stuck
    | some env1 => (b env1 s).bind fun f s1 => match f with
      | .nx env2 => forL g b xs env2 s1
      | .rt d => .ok (.rt d) s1)
def forC (g : D → Env → Option Env) (b : Env → Store → R F) (k : Nat) : Nat → Nat → Env → Store → R F
  | 0, _, _, _ => .stuck
  | n + 1, i, env, s => (match s.f k with
    | .lst xs => (match xs[i]? with
      | none => .ok (.nx env) s
      | some x => (match g x env with
        | none => .stuck
        | some env1 => (b env1 s).bind fun f s1 => match f with
          | .nx env2 => forC g b k n (i + 1) env2 s1
          | .rt d => .ok (.rt d) s1))
    | _ => .stuck)
def forX (W : Nat) (g : D → Env → Option Env) (b : Env → Store → R F) (x : D) (env : Env) (s : Store) : R F := match itemsOf x with
  | some xs => forL g b xs env s
  | none => (match x with
    | .cell k => forC g b k W 0 env s
    | _ => .stuck)
def whlL (c : Env → Store → R D) (b : Env → Store → R F) : Nat → Env → Store → R F
  | 0, _, _ => .stuck
  | n + 1, env, s => (c env s).bind fun x s1 => boolK x s1 (fun s1 => (b env s1).bind fun f s2 => (match f with
      | .nx env2 => whlL c b n env2 s2
      | .rt d => .ok (.rt d) s2)) (fun s1 => .ok (.nx env) s1)
mutual
def evalS (G : GE) : S → Env → Store → R F
  | .asg t e, env, s => (evalE G e env s).bind fun d s1 => (storeT G t d env s1).bind fun env1 s2 => .ok (.nx env1) s2
  | .asgT ts e, env, s => (evalE G e env s).bind fun d s1 => match deref s1 d with
    | .tup ds => if ds.length = ts.length then (storeTs G ts ds env s1).bind fun env1 s2 => .ok (.nx env1) s2 else .stuck
    | .lst ds => if ds.length = ts.length then (storeTs G ts ds env s1).bind fun env1 s2 => .ok (.nx env1) s2 else .stuck
    | _ => .stuck
  | .ex e, env, s => (evalE G e env s).bind fun _ s1 => .ok (.nx env) s1
  | .ret e, env, s => (evalE G e env s).bind fun d s1 => .ok (.rt d) s1
  | .retN, _, s => .ok (.rt .non) s
  | .ite c a b, env, s => (evalE G c env s).bind fun x s1 => boolK x s1 (fun s => evalSs G a env s) (fun s => evalSs G b env s)
  | .whl c b, env, s => whlL (fun env s => evalE G c env s) (fun env s => evalSs G b env s) G.W env s
  | .for_ t it b, env, s => (evalE G it env s).bind fun x s1 => forX G.W (fun d env => bindC t d env) (fun env s => evalSs G b env s) x env s1
  | .pass, env, s => .ok (.nx env) s
  | .never, _, _ => .stuck
def evalSs (G : GE) : Ss → Env → Store → R F
  | .nil, env, s => .ok (.nx env) s
  | .cons a as, env, s => (evalS G a env s).bind fun f s1 => match f with
    | .nx env1 => evalSs G as env1 s1
    | .rt d => .ok (.rt d) s1
end
/-- a def: its body, how many slots, how many parameters -/
structure Fn where
  code : Ss
  slots : Nat
  pars : Nat
structure Tab where
  tg : List Str
  gl : Nat → Option D
  fns : Nat → Option Fn
  mt : Nat → Nat → Option Nat
  ini : Nat → Option Nat
def startE (n : Nat) (ds : List D) : Env := ds.map some ++ List.replicate (n - ds.length) none
def Tab.ge (T : Tab) (W : Nat) (fn mk : Nat → List D → Store → R D) : GE := ⟨T.tg, T.gl, fn, mk, T.mt, T.ini, W⟩
def runB (G : GE) (x : Option Fn) (ds : List D) (s : Store) : R D := match x with
  | some x => if ds.length = x.pars then (evalSs G x.code (startE x.slots ds) s).bind fun f s1 => (match f with
      | .rt d => .ok d s1
      | .nx _ => .ok .non s1) else .stuck
  | none => .stuck
/-- calls within one another, n deep at the most -/
def Run (T : Tab) (W : Nat) : Nat → Nat → List D → Store → R D
  | 0, _, _, _ => .stuck
  | 1, f, ds, s => runB (T.ge W (fun _ _ _ => .stuck) (fun _ _ _ => .stuck)) (T.fns f) ds s
  | n + 2, f, ds, s => runB (T.ge W (fun f ds s => Run T W (n + 1) f ds s) (fun f ds s => Run T W n f ds s)) (T.fns f) ds s
end PI

/-! PB: how the abstract values stand in the heap; steps; simulation. -/
namespace PI
open PySem PySem.Spec PyProof.Rows L2

/-- what is fixed: the written part, the world, the written texts, the fields' names, the classes' addresses -/
structure Txs where
  K : PySem.W.Frag
  wd : World
  tg : List Str
  fl : List Str
  ca : Nat → Addr
structure Wd where
  Z : Addr → Prop
  ρ : Nat → Addr
  st : Store
  H : Hp
def Wd.live (w : Wd) (a : Addr) : Prop := w.Z a ∨ ∃ k, w.st.f k ≠ .dead ∧ w.ρ k = a
def keyOf (T : List Str) : D → Option Key
  | .int i => some (.inl i)
  | .str x => some (.inr x)
  | .tag n => (T[n]?).map .inr
  | _ => none
def wLst (K : PySem.W.Frag) (a : Addr) (xs : List V) : Prop := ∃ (o : Obj) (its : Array Value) (n : Nat), K.lookup a = some o ∧ o.cls = .type "list" ∧ o.dict = none ∧ o.data = .seq its n ∧ its.size ≤ sizeLine ∧ Vals xs its.toList
mutual
inductive RV (C : Txs) (w : Wd) : V → D → Prop
  | non : RV C w .non .non
  | bl (b : Bool) : RV C w (.bl b) (.bl b)
  | int (i : Int) : RV C w (.int i) (.int i)
  | str (x : Str) : PyData.strOk x = true → RV C w (.str x) (.str x)
  | tag {n : Nat} {x : Str} : C.tg[n]? = some x → PyData.strOk x = true → RV C w (.str x) (.tag n)
  | tup {a : Addr} {vs : List V} {ds : List D} : SqT C.K w.H a vs → RVs C w vs ds → RV C w (.ref a) (.tup ds)
  | lst {a : Addr} {vs : List V} {ds : List D} : w.H a = some (.lst vs) → ¬ w.live a → RVs C w vs ds → RV C w (.ref a) (.lst ds)
  | frz {a : Addr} {vs : List V} {ds : List D} : Rd w.H a (.lst vs) → ¬ w.live a → RVs C w vs ds → RV C w (.ref a) (.frz ds)
  | frzK {a : Addr} {vs : List V} {ds : List D} : wLst C.K a vs → RVs C w vs ds → RV C w (.ref a) (.frz ds)
  | dct {a : Addr} {gs : List (Key × V)} {kvs : List (D × D)} : w.H a = some (.dK gs) → ¬ w.live a → KR C w gs kvs → RV C w (.ref a) (.dct kvs)
  | dctK {a : Addr} {es : Array DictEntry} {n : Nat} {kvs : List (D × D)} : KDict C.K C.wd a es n →
      (∀ (m : Nat) (x : Str), C.tg[m]? = some x → PySem.W.nsIn C.K a x = some none ∧ lookD C.tg (.tag m) kvs = none ∨ ∃ (u : Value) (i : Int), PySem.W.nsIn C.K a x = some (some u) ∧ RelV (.int i) u ∧ lookD C.tg (.tag m) kvs = some (.int i)) → RV C w (.ref a) (.kdt kvs)
  | cell {k : Nat} : k < w.st.n → RV C w (.ref (w.ρ k)) (.cell k)
inductive RVs (C : Txs) (w : Wd) : List V → List D → Prop
  | nil : RVs C w [] []
  | cons {v : V} {d : D} {vs : List V} {ds : List D} : RV C w v d → RVs C w vs ds → RVs C w (v :: vs) (d :: ds)
inductive KR (C : Txs) (w : Wd) : List (Key × V) → List (D × D) → Prop
  | nil : KR C w [] []
  | cons {k : Key} {v : V} {d e : D} {gs : List (Key × V)} {kvs : List (D × D)} : keyOf C.tg d = some k → RV C w v e → KR C w gs kvs → KR C w ((k, v) :: gs) ((d, e) :: kvs)
end
/-- an instance's fields -/
inductive FR (C : Txs) (w : Wd) : List (Str × V) → List (Nat × D) → Prop
  | nil : FR C w [] []
  | cons {n : Nat} {x : Str} {v : V} {d : D} {gs : List (Str × V)} {fs : List (Nat × D)} : C.fl[n]? = some x → RV C w v d → FR C w gs fs → FR C w ((x, v) :: gs) ((n, d) :: fs)
def CellOk (C : Txs) (w : Wd) (a : Addr) : Cell → Prop
  | .dead => True
  | .lst xs => ∃ vs, w.H a = some (.lst vs) ∧ RVs C w vs xs
  | .ins c fs => ∃ dx gs, w.H a = some (.ins (C.ca c) dx gs) ∧ FR C w gs fs
  | .dct kvs => ∃ gs, w.H a = some (.dK gs) ∧ KR C w gs kvs
structure SR (C : Txs) (w : Wd) : Prop where
  dead : ∀ k, w.st.n ≤ k → w.st.f k = .dead
  inj : ∀ i j, w.st.f i ≠ .dead → w.st.f j ≠ .dead → w.ρ i = w.ρ j → i = j
  zt : ∀ a, w.Z a → ∃ o, w.H a = some o
  zl : ∀ k, w.st.f k ≠ .dead → ¬ w.Z (w.ρ k)
  cell : ∀ k, CellOk C w (w.ρ k) (w.st.f k)
structure Stp (w w' : Wd) : Prop where
  z : w'.Z = w.Z
  n : w.st.n ≤ w'.st.n
  ρ : ∀ k, k < w.st.n → w'.ρ k = w.ρ k
  keep : ∀ a o, w.H a = some o → ¬ w.live a → w'.H a = some o ∧ ¬ w'.live a
  keepZ : ∀ a o, w.Z a → w.H a = some o → w'.H a = some o
theorem Stp.refl (w : Wd) : Stp w w := ⟨rfl, Nat.le_refl _, fun _ _ => rfl, fun _ _ h n => ⟨h, n⟩, fun _ _ _ h => h⟩
theorem Stp.trans {w1 w2 w3 : Wd} (a : Stp w1 w2) (b : Stp w2 w3) : Stp w1 w3 where
  z := b.z.trans a.z
  n := Nat.le_trans a.n b.n
  ρ := fun k h => (b.ρ k (Nat.lt_of_lt_of_le h a.n)).trans (a.ρ k h)
  keep := fun x o h n => let q := a.keep x o h n; b.keep x o q.1 q.2
  keepZ := fun x o h e => b.keepZ x o (by rw [a.z]; exact h) (a.keepZ x o h e)
section
variable {C : Txs} {w w' : Wd}
theorem SR.lt (S : SR C w) {k : Nat} (h : w.st.f k ≠ .dead) : k < w.st.n := by
  rcases Nat.lt_or_ge k w.st.n with q | q
  · exact q
  · exact absurd (S.dead k q) h
/-- a live cell is tracked: a list, an instance or a dict -/
theorem SR.there (S : SR C w) {k : Nat} (h : w.st.f k ≠ .dead) : ∃ o, w.H (w.ρ k) = some o ∧ ((∃ xs, o = .lst xs) ∨ (∃ c dx gs, o = .ins c dx gs) ∨ ∃ gs, o = .dK gs) := by
  have q := S.cell k
  cases e : w.st.f k with
  | dead => exact absurd e h
  | lst xs => rw [e] at q; obtain ⟨vs, q, _⟩ := q; exact ⟨_, q, .inl ⟨_, rfl⟩⟩
  | ins c fs => rw [e] at q; obtain ⟨dx, gs, q, _⟩ := q; exact ⟨_, q, .inr (.inl ⟨_, _, _, rfl⟩)⟩
  | dct kvs => rw [e] at q; obtain ⟨gs, q, _⟩ := q; exact ⟨_, q, .inr (.inr ⟨_, rfl⟩)⟩
/-- what is not tracked is not live -/
theorem SR.notlive (S : SR C w) {a : Addr} (h : w.H a = none) : ¬ w.live a := by
  rintro (z | ⟨k, hk, rfl⟩)
  · obtain ⟨o, e⟩ := S.zt a z
    rw [h] at e; cases e
  · obtain ⟨o, e, _⟩ := S.there hk
    rw [h] at e; cases e
/-- a tracked thing that is no list, instance, dict stays -/
theorem Stp.keepO (S : SR C w) (p : Stp w w') {a : Addr} {o : HO} (h : w.H a = some o) (h1 : ∀ xs, o ≠ .lst xs) (h2 : ∀ c dx gs, o ≠ .ins c dx gs) (h3 : ∀ gs, o ≠ .dK gs) : w'.H a = some o := by
  by_cases z : w.Z a
  · exact p.keepZ a o z h
  · refine (p.keep a o h ?_).1
    rintro (z' | ⟨k, hk, rfl⟩)
    · exact z z'
    · obtain ⟨o', e, q⟩ := S.there hk
      rw [h] at e; cases e
      rcases q with ⟨xs, q⟩ | ⟨c, dx, gs, q⟩ | ⟨gs, q⟩
      · exact h1 _ q
      · exact h2 _ _ _ q
      · exact h3 _ q
/-- all that a value leans on is kept -/
structure Kp (w w' : Wd) : Prop where
  n : w.st.n ≤ w'.st.n
  ρ : ∀ k, k < w.st.n → w'.ρ k = w.ρ k
  keep : ∀ a o, w.H a = some o → ¬ w.live a → w'.H a = some o ∧ ¬ w'.live a
  keepO : ∀ a o, w.H a = some o → (∀ xs, o ≠ .lst xs) → (∀ c dx gs, o ≠ .ins c dx gs) → (∀ gs, o ≠ .dK gs) → w'.H a = some o
theorem Kp.of (S : SR C w) (p : Stp w w') : Kp w w' := ⟨p.n, p.ρ, p.keep, fun a o h h1 h2 h3 => p.keepO S h h1 h2 h3⟩
theorem Kp.sqT (p : Kp w w') {a : Addr} {vs : List V} (h : SqT C.K w.H a vs) : SqT C.K w'.H a vs := by
  rcases h with (h | ⟨o, h⟩) | h
  · exact .inl (.inl (p.keepO _ _ h (fun _ e => nomatch e) (fun _ _ _ e => nomatch e) fun _ e => nomatch e))
  · exact .inl (.inr ⟨o, p.keepO _ _ h (fun _ e => nomatch e) (fun _ _ _ e => nomatch e) fun _ e => nomatch e⟩)
  · exact .inr h
mutual
theorem RV.monoK (p : Kp w w') : ∀ {v : V} {d : D}, RV C w v d → RV C w' v d
  | _, _, .non => .non
  | _, _, .bl b => .bl b
  | _, _, .int i => .int i
  | _, _, .str x h => .str x h
  | _, _, .tag h h' => .tag h h'
  | _, _, .tup h r => .tup (p.sqT h) (RVs.monoK p r)
  | _, _, .lst h n r => .lst (p.keep _ _ h n).1 (p.keep _ _ h n).2 (RVs.monoK p r)
  | _, _, .frz h n r => by
    rcases h with h | ⟨o, h⟩
    · exact .frz (.inl (p.keep _ _ h n).1) (p.keep _ _ h n).2 (RVs.monoK p r)
    · exact .frz (.inr ⟨o, (p.keep _ _ h n).1⟩) (p.keep _ _ h n).2 (RVs.monoK p r)
  | _, _, .frzK h r => .frzK h (RVs.monoK p r)
  | _, _, .dct h n r => .dct (p.keep _ _ h n).1 (p.keep _ _ h n).2 (KR.monoK p r)
  | _, _, .dctK h q => .dctK h q
  | _, _, .cell (k := k) h => by
    rw [← p.ρ k h]
    exact .cell (Nat.lt_of_lt_of_le h p.n)
theorem RVs.monoK (p : Kp w w') : ∀ {vs : List V} {ds : List D}, RVs C w vs ds → RVs C w' vs ds
  | _, _, .nil => .nil
  | _, _, .cons h r => .cons (RV.monoK p h) (RVs.monoK p r)
theorem KR.monoK (p : Kp w w') : ∀ {gs : List (Key × V)} {kvs : List (D × D)}, KR C w gs kvs → KR C w' gs kvs
  | _, _, .nil => .nil
  | _, _, .cons k h r => .cons k (RV.monoK p h) (KR.monoK p r)
end
theorem FR.monoK (p : Kp w w') {gs : List (Str × V)} {fs : List (Nat × D)} (h : FR C w gs fs) : FR C w' gs fs := by
  induction h with
  | nil => exact .nil
  | cons a b _ ih => exact .cons a (b.monoK p) ih
theorem RV.mono (S : SR C w) (p : Stp w w') {v : V} {d : D} (h : RV C w v d) : RV C w' v d := h.monoK (.of S p)
theorem RVs.mono (S : SR C w) (p : Stp w w') {vs : List V} {ds : List D} (h : RVs C w vs ds) : RVs C w' vs ds := h.monoK (.of S p)
theorem KR.mono (S : SR C w) (p : Stp w w') {gs : List (Key × V)} {kvs : List (D × D)} (h : KR C w gs kvs) : KR C w' gs kvs := h.monoK (.of S p)
theorem FR.mono (S : SR C w) (p : Stp w w') {gs : List (Str × V)} {fs : List (Nat × D)} (h : FR C w gs fs) : FR C w' gs fs := h.monoK (.of S p)
theorem CellOk.monoK (p : Kp w w') {a : Addr} {c : Cell} (h : CellOk C w a c) (hH : w'.H a = w.H a) : CellOk C w' a c := by
  cases c with
  | dead => exact h
  | lst xs => obtain ⟨vs, e, r⟩ := h; exact ⟨vs, hH.trans e, r.monoK p⟩
  | ins c fs => obtain ⟨dx, gs, e, r⟩ := h; exact ⟨dx, gs, hH.trans e, r.monoK p⟩
  | dct kvs => obtain ⟨gs, e, r⟩ := h; exact ⟨gs, hH.trans e, r.monoK p⟩
theorem CellOk.mono (S : SR C w) (p : Stp w w') {a : Addr} {c : Cell} (h : CellOk C w a c) (hH : w'.H a = w.H a) : CellOk C w' a c := by
  cases c with
  | dead => exact h
  | lst xs => obtain ⟨vs, e, r⟩ := h; exact ⟨vs, hH.trans e, r.mono S p⟩
  | ins c fs => obtain ⟨dx, gs, e, r⟩ := h; exact ⟨dx, gs, hH.trans e, r.mono S p⟩
  | dct kvs => obtain ⟨gs, e, r⟩ := h; exact ⟨gs, hH.trans e, r.mono S p⟩
/-- a new object that is no cell -/
theorem step_new (S : SR C w) {p : Addr} {o : HO} (hp : w.H p = none) : Stp w { w with H := upd w.H p o } ∧ SR C { w with H := upd w.H p o } := by
  have st : Stp w { w with H := upd w.H p o } := ⟨rfl, Nat.le_refl _, fun _ _ => rfl, fun a u h n => ⟨by show upd w.H p o a = _; rw [upd_ne (ne_of_none h hp)]; exact h, n⟩, fun a u _ h => by show upd w.H p o a = _; rw [upd_ne (ne_of_none h hp)]; exact h⟩
  refine ⟨st, S.dead, S.inj, fun a z => ?_, S.zl, fun k => ?_⟩
  · obtain ⟨u, e⟩ := S.zt a z
    exact ⟨u, by show upd w.H p o a = _; rw [upd_ne (ne_of_none e hp)]; exact e⟩
  · show CellOk C { w with H := upd w.H p o } (w.ρ k) (w.st.f k)
    by_cases hk : w.st.f k = .dead
    · rw [hk]; trivial
    · refine (S.cell k).mono S st ?_
      obtain ⟨u, e, _⟩ := S.there hk
      show upd w.H p o (w.ρ k) = _
      rw [upd_ne (ne_of_none e hp)]
/-- a new cell -/
theorem step_cell (S : SR C w) {p : Addr} {o : HO} {c : Cell} (hp : w.H p = none)
    (hc : ∀ w', Stp w w' → w'.H p = some o → CellOk C w' p c) :
    Stp w ⟨w.Z, fun k => if k = w.st.n then p else w.ρ k, w.st.new c, upd w.H p o⟩ ∧ SR C ⟨w.Z, fun k => if k = w.st.n then p else w.ρ k, w.st.new c, upd w.H p o⟩ := by
  have lv : ∀ k, k ≠ w.st.n → (if k = w.st.n then p else w.ρ k) = w.ρ k := fun k h => if_neg h
  have fe : ∀ k, k ≠ w.st.n → (w.st.new c).f k = w.st.f k := fun k h => if_neg h
  have fn : (w.st.new c).f w.st.n = c := if_pos rfl
  have ltn : ∀ {k}, w.st.f k ≠ .dead → k ≠ w.st.n := fun {k} h e => h (S.dead k (Nat.le_of_eq e.symm))
  have st : Stp w ⟨w.Z, fun k => if k = w.st.n then p else w.ρ k, w.st.new c, upd w.H p o⟩ := by
    refine ⟨rfl, Nat.le_succ _, fun k h => lv k (Nat.ne_of_lt h), fun a u h n => ⟨by show upd w.H p o a = _; rw [upd_ne (ne_of_none h hp)]; exact h, ?_⟩, fun a u _ h => by show upd w.H p o a = _; rw [upd_ne (ne_of_none h hp)]; exact h⟩
    rintro (z | ⟨k, hk, e⟩)
    · exact n (.inl z)
    · have e : (if k = w.st.n then p else w.ρ k) = a := e
      by_cases q : k = w.st.n
      · rw [if_pos q] at e
        rw [← e, hp] at h; cases h
      · rw [lv k q] at e
        refine n (.inr ⟨k, ?_, e⟩)
        rw [← fe k q]; exact hk
  refine ⟨st, fun k h => ?_, fun i j hi hj e => ?_, fun a z => ?_, fun k hk => ?_, fun k => ?_⟩
  · have h : w.st.n + 1 ≤ k := h
    show (w.st.new c).f k = _
    rw [fe k (by omega)]
    exact S.dead k (by omega)
  · have e : (if i = w.st.n then p else w.ρ i) = (if j = w.st.n then p else w.ρ j) := e
    have hi : (w.st.new c).f i ≠ .dead := hi
    have hj : (w.st.new c).f j ≠ .dead := hj
    by_cases qi : i = w.st.n <;> by_cases qj : j = w.st.n
    · rw [qi, qj]
    · rw [if_pos qi, lv j qj] at e
      rw [fe j qj] at hj
      obtain ⟨u, h, _⟩ := S.there hj
      rw [← e, hp] at h; cases h
    · rw [if_pos qj, lv i qi] at e
      rw [fe i qi] at hi
      obtain ⟨u, h, _⟩ := S.there hi
      rw [e, hp] at h; cases h
    · rw [lv i qi, lv j qj] at e
      rw [fe i qi] at hi
      rw [fe j qj] at hj
      exact S.inj i j hi hj e
  · obtain ⟨u, e⟩ := S.zt a z
    exact ⟨u, by show upd w.H p o a = _; rw [upd_ne (ne_of_none e hp)]; exact e⟩
  · show ¬ w.Z (if k = w.st.n then p else w.ρ k)
    have hk : (w.st.new c).f k ≠ .dead := hk
    by_cases q : k = w.st.n
    · rw [if_pos q]
      intro z
      obtain ⟨u, e⟩ := S.zt p z
      rw [hp] at e; cases e
    · rw [lv k q]
      rw [fe k q] at hk
      exact S.zl k hk
  · show CellOk C _ (if k = w.st.n then p else w.ρ k) ((w.st.new c).f k)
    by_cases q : k = w.st.n
    · rw [if_pos q, q, fn]
      exact hc _ st upd_same
    · rw [lv k q, fe k q]
      by_cases hk : w.st.f k = .dead
      · rw [hk]; trivial
      · refine (S.cell k).mono S st ?_
        obtain ⟨u, e, _⟩ := S.there hk
        show upd w.H p o (w.ρ k) = _
        rw [upd_ne (ne_of_none e hp)]
/-- a live cell is written -/
theorem step_set (S : SR C w) {k : Nat} {o : HO} {c : Cell} (hk : w.st.f k ≠ .dead) (hc : ∀ w', Stp w w' → w'.H (w.ρ k) = some o → CellOk C w' (w.ρ k) c) :
    Stp w { w with st := w.st.set k c, H := upd w.H (w.ρ k) o } ∧ SR C { w with st := w.st.set k c, H := upd w.H (w.ρ k) o } := by
  have fe : ∀ j, j ≠ k → (w.st.set k c).f j = w.st.f j := fun j h => if_neg h
  have fk : (w.st.set k c).f k = c := if_pos rfl
  have sub : ∀ {j}, (w.st.set k c).f j ≠ .dead → w.st.f j ≠ .dead := fun {j} h => by
    by_cases q : j = k
    · rw [q]; exact hk
    · rw [fe j q] at h; exact h
  have lvk : w.live (w.ρ k) := .inr ⟨k, hk, rfl⟩
  have st : Stp w { w with st := w.st.set k c, H := upd w.H (w.ρ k) o } := by
    refine ⟨rfl, Nat.le_refl _, fun _ _ => rfl, fun a u h n => ⟨?_, ?_⟩, fun a u z h => ?_⟩
    · show upd w.H (w.ρ k) o a = _
      rw [upd_ne (fun e => n (by rw [e]; exact lvk))]; exact h
    · rintro (z | ⟨j, hj, e⟩)
      · exact n (.inl z)
      · exact n (.inr ⟨j, sub hj, e⟩)
    · show upd w.H (w.ρ k) o a = _
      rw [upd_ne (fun e => S.zl k hk (by rw [← e]; exact z))]; exact h
  refine ⟨st, fun j h => ?_, fun i j hi hj e => S.inj i j (sub hi) (sub hj) e, fun a z => ?_, fun j hj => S.zl j (sub hj), fun j => ?_⟩
  · have h : w.st.n ≤ j := h
    show (w.st.set k c).f j = _
    rw [fe j (Nat.ne_of_gt (Nat.lt_of_lt_of_le (S.lt hk) h))]
    exact S.dead j h
  · obtain ⟨u, e⟩ := S.zt a z
    exact ⟨u, by show upd w.H (w.ρ k) o a = _; rw [upd_ne (fun e => S.zl k hk (by rw [← e]; exact z))]; exact e⟩
  · show CellOk C _ (w.ρ j) ((w.st.set k c).f j)
    by_cases q : j = k
    · rw [q, fk]
      exact hc _ st upd_same
    · rw [fe j q]
      by_cases hj : w.st.f j = .dead
      · rw [hj]; trivial
      · refine (S.cell j).mono S st ?_
        show upd w.H (w.ρ k) o (w.ρ j) = _
        rw [upd_ne (fun e => q (S.inj j k hj hk e))]
/-- a cell is given up -/
theorem step_dead (S : SR C w) {k : Nat} (hk : w.st.f k ≠ .dead) : Stp w { w with st := w.st.set k .dead } ∧ SR C { w with st := w.st.set k .dead } ∧ ¬ Wd.live { w with st := w.st.set k .dead } (w.ρ k) := by
  have fe : ∀ j, j ≠ k → (w.st.set k .dead).f j = w.st.f j := fun j h => if_neg h
  have fk : (w.st.set k .dead).f k = .dead := if_pos rfl
  have sub : ∀ {j}, (w.st.set k .dead).f j ≠ .dead → w.st.f j ≠ .dead ∧ j ≠ k := fun {j} h => by
    by_cases q : j = k
    · rw [q, fk] at h; exact absurd rfl h
    · rw [fe j q] at h; exact ⟨h, q⟩
  have st : Stp w { w with st := w.st.set k .dead } := by
    refine ⟨rfl, Nat.le_refl _, fun _ _ => rfl, fun a u h n => ⟨h, ?_⟩, fun a u z h => h⟩
    rintro (z | ⟨j, hj, e⟩)
    · exact n (.inl z)
    · exact n (.inr ⟨j, (sub hj).1, e⟩)
  refine ⟨st, ⟨fun j h => ?_, fun i j hi hj e => S.inj i j (sub hi).1 (sub hj).1 e, S.zt, fun j hj => S.zl j (sub hj).1, fun j => ?_⟩, ?_⟩
  · have h : w.st.n ≤ j := h
    show (w.st.set k .dead).f j = _
    rw [fe j (Nat.ne_of_gt (Nat.lt_of_lt_of_le (S.lt hk) h))]
    exact S.dead j h
  · show CellOk C _ (w.ρ j) ((w.st.set k .dead).f j)
    by_cases q : j = k
    · rw [q, fk]; trivial
    · rw [fe j q]
      exact (S.cell j).mono S st rfl
  · rintro (z | ⟨j, hj, e⟩)
    · exact S.zl k hk z
    · exact (sub hj).2 (S.inj j k (sub hj).1 hk e)
/-! ### an object under way: reserved at Dl -/
structure Lp (Dl : Addr) (w1 w : Wd) : Prop where
  z : w.Z = fun a => w1.Z a ∨ a = Dl
  n : w1.st.n ≤ w.st.n
  ρ : ∀ k, k < w1.st.n → w.ρ k = w1.ρ k
  keep : ∀ a o, w1.H a = some o → ¬ w1.live a → w.H a = some o ∧ ¬ w.live a
  keepO : ∀ a o, w1.H a = some o → (∀ xs, o ≠ .lst xs) → (∀ c dx gs, o ≠ .ins c dx gs) → (∀ gs, o ≠ .dK gs) → w.H a = some o
  keepZ : ∀ a o, w1.Z a → w1.H a = some o → w.H a = some o
  fresh : w1.H Dl = none
variable {w1 : Wd} {Dl : Addr} {o : HO}
theorem Lp.kp (l : Lp Dl w1 w) : Kp w1 w := ⟨l.n, l.ρ, l.keep, l.keepO⟩
theorem Lp.res (l : Lp Dl w1 w) : w.Z Dl := by rw [l.z]; exact .inr rfl
theorem Lp.start (S : SR C w1) (h : w1.H Dl = none) : Lp Dl w1 ⟨fun a => w1.Z a ∨ a = Dl, w1.ρ, w1.st, upd w1.H Dl o⟩ ∧ SR C ⟨fun a => w1.Z a ∨ a = Dl, w1.ρ, w1.st, upd w1.H Dl o⟩ := by
  have hu : ∀ a u, w1.H a = some u → upd w1.H Dl o a = some u := fun a u e => by rw [upd_ne (ne_of_none e h)]; exact e
  have l : Lp Dl w1 ⟨fun a => w1.Z a ∨ a = Dl, w1.ρ, w1.st, upd w1.H Dl o⟩ := by
    refine ⟨rfl, Nat.le_refl _, fun _ _ => rfl, fun a u e nl => ⟨hu a u e, ?_⟩, fun a u e _ _ _ => hu a u e, fun a u _ e => hu a u e, h⟩
    rintro ((z | z) | ⟨k, hk, e'⟩)
    · exact nl (.inl z)
    · exact ne_of_none e h z
    · exact nl (.inr ⟨k, hk, e'⟩)
  refine ⟨l, S.dead, S.inj, fun a z => ?_, fun k hk => ?_, fun k => ?_⟩
  · rcases z with z | z
    · obtain ⟨u, e⟩ := S.zt a z
      exact ⟨u, hu a u e⟩
    · exact ⟨o, by rw [z]; exact upd_same⟩
  · rintro (z | z)
    · exact S.zl k hk z
    · obtain ⟨u, e, _⟩ := S.there hk
      rw [show w1.ρ k = Dl from z, h] at e; cases e
  · show CellOk C _ (w1.ρ k) (w1.st.f k)
    by_cases hk : w1.st.f k = .dead
    · rw [hk]; trivial
    · refine (S.cell k).monoK l.kp ?_
      obtain ⟨u, e, _⟩ := S.there hk
      show upd w1.H Dl o (w1.ρ k) = _
      rw [upd_ne (ne_of_none e h)]
theorem Lp.step (l : Lp Dl w1 w) (S : SR C w) (p : Stp w w') : Lp Dl w1 w' := by
  refine ⟨p.z.trans l.z, Nat.le_trans l.n p.n, fun k h => (p.ρ k (Nat.lt_of_lt_of_le h l.n)).trans (l.ρ k h), fun a u e nl => ?_, fun a u e h1 h2 h3 => p.keepO S (l.keepO a u e h1 h2 h3) h1 h2 h3, fun a u z e => p.keepZ a u ?_ (l.keepZ a u z e), l.fresh⟩
  · have q := l.keep a u e nl
    exact p.keep a u q.1 q.2
  · rw [l.z]; exact .inl z
theorem Lp.upd (l : Lp Dl w1 w) (S : SR C w) (hn : ∀ u, w.H Dl = some u → (∃ xs, u = .lst xs) ∨ ∃ gs, u = .dK gs) : Lp Dl w1 { w with H := L2.upd w.H Dl o } ∧ SR C { w with H := L2.upd w.H Dl o } ∧ Kp w { w with H := L2.upd w.H Dl o } := by
  have ne : ∀ a u, w1.H a = some u → a ≠ Dl := fun a u e => ne_of_none e l.fresh
  have kp : Kp w { w with H := L2.upd w.H Dl o } := by
    refine ⟨Nat.le_refl _, fun _ _ => rfl, fun a u e nl => ⟨?_, nl⟩, fun a u e h1 h2 h3 => ?_⟩
    · show L2.upd w.H Dl o a = _
      rw [upd_ne (fun z => nl (.inl (by rw [z]; exact l.res)))]; exact e
    · show L2.upd w.H Dl o a = _
      rw [upd_ne (fun z => ?_)]; exact e
      subst z
      rcases hn u e with ⟨xs, q⟩ | ⟨gs, q⟩
      · exact h1 _ q
      · exact h3 _ q
  refine ⟨⟨l.z, l.n, l.ρ, fun a u e nl => ⟨?_, (l.keep a u e nl).2⟩, fun a u e h1 h2 h3 => ?_, fun a u z e => ?_, l.fresh⟩, ⟨S.dead, S.inj, fun a z => ?_, S.zl, fun k => ?_⟩, kp⟩
  · show L2.upd w.H Dl o a = _
    rw [upd_ne (ne a u e)]; exact (l.keep a u e nl).1
  · show L2.upd w.H Dl o a = _
    rw [upd_ne (ne a u e)]; exact l.keepO a u e h1 h2 h3
  · show L2.upd w.H Dl o a = _
    rw [upd_ne (ne a u e)]; exact l.keepZ a u z e
  · by_cases q : a = Dl
    · exact ⟨o, by show L2.upd w.H Dl o a = _; rw [q]; exact upd_same⟩
    · obtain ⟨u, e⟩ := S.zt a z
      exact ⟨u, by show L2.upd w.H Dl o a = _; rw [upd_ne q]; exact e⟩
  · show CellOk C _ (w.ρ k) (w.st.f k)
    by_cases hk : w.st.f k = .dead
    · rw [hk]; trivial
    · refine (S.cell k).monoK kp ?_
      show L2.upd w.H Dl o (w.ρ k) = _
      rw [upd_ne (fun z => S.zl k hk (by rw [z]; exact l.res))]
/-- it is done: a frozen thing -/
theorem Lp.fin (l : Lp Dl w1 w) (S1 : SR C w1) (S : SR C w) : Stp w1 { w with Z := w1.Z } ∧ SR C { w with Z := w1.Z } ∧ Kp w { w with Z := w1.Z } ∧ ¬ Wd.live { w with Z := w1.Z } Dl := by
  have lv : ∀ a, Wd.live { w with Z := w1.Z } a → w.live a := fun a h => by
    rcases h with z | h
    · exact .inl (by rw [l.z]; exact .inl z)
    · exact .inr h
  have kp : Kp w { w with Z := w1.Z } := ⟨Nat.le_refl _, fun _ _ => rfl, fun a u e nl => ⟨e, fun h => nl (lv a h)⟩, fun a u e _ _ _ => e⟩
  refine ⟨⟨rfl, l.n, l.ρ, fun a u e nl => ⟨(l.keep a u e nl).1, fun h => (l.keep a u e nl).2 (lv a h)⟩, l.keepZ⟩, ⟨S.dead, S.inj, fun a z => S.zt a (by rw [l.z]; exact .inl z), fun k hk z => S.zl k hk (by rw [l.z]; exact .inl z), fun k => ?_⟩, kp, ?_⟩
  · exact (S.cell k).monoK kp rfl
  · rintro (z | ⟨k, hk, e⟩)
    · obtain ⟨u, e⟩ := S1.zt Dl z
      rw [l.fresh] at e; cases e
    · have e : w.ρ k = Dl := e
      exact S.zl k hk (by rw [e]; exact l.res)
/-- it is done: a cell -/
theorem Lp.cellK (l : Lp Dl w1 w) (S1 : SR C w1) (S : SR C w) {c : Cell} (hc : ∀ w', Kp w w' → w'.H = w.H → CellOk C w' Dl c) :
    Stp w1 ⟨w1.Z, fun k => if k = w.st.n then Dl else w.ρ k, w.st.new c, w.H⟩ ∧ SR C ⟨w1.Z, fun k => if k = w.st.n then Dl else w.ρ k, w.st.new c, w.H⟩ := by
  have lv : ∀ k, k ≠ w.st.n → (if k = w.st.n then Dl else w.ρ k) = w.ρ k := fun k h => if_neg h
  have fe : ∀ k, k ≠ w.st.n → (w.st.new c).f k = w.st.f k := fun k h => if_neg h
  have fn : (w.st.new c).f w.st.n = c := if_pos rfl
  have nD : ∀ k, w.st.f k ≠ .dead → w.ρ k ≠ Dl := fun k hk e => S.zl k hk (by rw [e]; exact l.res)
  have back : ∀ a, Wd.live ⟨w1.Z, fun k => if k = w.st.n then Dl else w.ρ k, w.st.new c, w.H⟩ a → w.live a := by
    rintro a (z | ⟨k, hk, e⟩)
    · exact .inl (by rw [l.z]; exact .inl z)
    · have e : (if k = w.st.n then Dl else w.ρ k) = a := e
      by_cases q : k = w.st.n
      · rw [if_pos q] at e; rw [← e]; exact .inl l.res
      · rw [lv k q] at e
        exact .inr ⟨k, by rw [← fe k q]; exact hk, e⟩
  have kp : Kp w ⟨w1.Z, fun k => if k = w.st.n then Dl else w.ρ k, w.st.new c, w.H⟩ := ⟨Nat.le_succ _, fun k h => lv k (Nat.ne_of_lt h), fun a u e nl => ⟨e, fun h => nl (back a h)⟩, fun a u e _ _ _ => e⟩
  refine ⟨⟨rfl, Nat.le_trans l.n (Nat.le_succ _), fun k h => ?_, fun a o e n => ?_, l.keepZ⟩, ⟨fun k h => ?_, fun i j hi hj e => ?_, fun a z => S.zt a (by rw [l.z]; exact .inl z), fun k hk => ?_, fun k => ?_⟩⟩
  · show (if k = w.st.n then Dl else w.ρ k) = _
    rw [lv k (Nat.ne_of_lt (Nat.lt_of_lt_of_le h l.n))]
    exact l.ρ k h
  · have q := l.keep a o e n
    exact ⟨q.1, fun h => q.2 (back a h)⟩
  · have h : w.st.n + 1 ≤ k := h
    show (w.st.new c).f k = _
    rw [fe k (by omega)]
    exact S.dead k (by omega)
  · have e : (if i = w.st.n then Dl else w.ρ i) = (if j = w.st.n then Dl else w.ρ j) := e
    have hi : (w.st.new c).f i ≠ .dead := hi
    have hj : (w.st.new c).f j ≠ .dead := hj
    by_cases qi : i = w.st.n <;> by_cases qj : j = w.st.n
    · rw [qi, qj]
    · rw [if_pos qi, lv j qj] at e
      rw [fe j qj] at hj
      exact (nD j hj e.symm).elim
    · rw [if_pos qj, lv i qi] at e
      rw [fe i qi] at hi
      exact (nD i hi e).elim
    · rw [lv i qi, lv j qj] at e
      rw [fe i qi] at hi
      rw [fe j qj] at hj
      exact S.inj i j hi hj e
  · show ¬ w1.Z (if k = w.st.n then Dl else w.ρ k)
    have hk : (w.st.new c).f k ≠ .dead := hk
    by_cases q : k = w.st.n
    · rw [if_pos q]
      intro z
      obtain ⟨u, e⟩ := S1.zt Dl z
      rw [l.fresh] at e; cases e
    · rw [lv k q]
      rw [fe k q] at hk
      exact fun z => S.zl k hk (by rw [l.z]; exact .inl z)
  · show CellOk C _ (if k = w.st.n then Dl else w.ρ k) ((w.st.new c).f k)
    by_cases q : k = w.st.n
    · rw [if_pos q, q, fn]
      exact hc _ kp rfl
    · rw [lv k q, fe k q]
      exact (S.cell k).monoK kp rfl
end

/-! ### the reading of what comes -/
def Pst {α : Type} (C : Txs) (w : Wd) (r : R α) (P : Wd → α → Prop) : Prop := match r with
  | .ok a s => ∀ w', Stp w w' → SR C w' → w'.st = s → P w' a
  | _ => False
section
variable {α β : Type} {C : Txs} {w w1 : Wd} {r : R α} {P P' : Wd → α → Prop}
theorem Pst.later (p : Stp w w1) (h : Pst C w r P) : Pst C w1 r P := by
  cases r with
  | ok a s => exact fun w' q S e => h w' (p.trans q) S e
  | stuck => exact h
  | exc e s => exact h
theorem Pst.mono (h : Pst C w r P) (k : ∀ w' a, Stp w w' → SR C w' → P w' a → P' w' a) : Pst C w r P' := by
  cases r with
  | ok a s => exact fun w' q S e => k w' a q S (h w' q S e)
  | stuck => exact h
  | exc e s => exact h
theorem Pst.bind {Q : Wd → β → Prop} {k : α → Store → R β} (h : Pst C w (r.bind k) Q) : Pst C w r fun w1 a => Pst C w1 (k a w1.st) Q := by
  cases r with
  | ok a s =>
    intro w' q S e
    subst e
    exact Pst.later q h
  | stuck => exact h
  | exc e s => exact h
theorem Pst.of_eq {r' : R α} (h : Pst C w r P) (e : r = r') : Pst C w r' P := e ▸ h
theorem Pst.here {a : α} (S : SR C w) (h : Pst C w (.ok a w.st) P) : P w a := h w (Stp.refl w) S rfl
theorem Pst.noexc (h : Pst C w r.noexc P) : Pst C w r P := by
  cases r with
  | ok a s => exact h
  | stuck => exact h
  | exc e s => exact h
end
/-- a value is wanted -/
def WV (C : Txs) (Q : VK) : Wd → D → Prop := fun w d => ∀ v, RV C w v d → Q v w.H
structure EnvR (C : Txs) (w : Wd) (env : Env) (σ : L2.St) : Prop where
  len : σ.length = env.length
  at_ : ∀ (i : Nat) (d : D), env[i]? = some (some d) → ∃ v, σ[i]? = some (some v) ∧ RV C w v d
theorem EnvR.mono {C : Txs} {w w' : Wd} {env : Env} {σ : L2.St} (h : EnvR C w env σ) (S : SR C w) (p : Stp w w') : EnvR C w' env σ :=
  ⟨h.len, fun i d e => let ⟨v, a, b⟩ := h.at_ i d e; ⟨v, a, b.mono S p⟩⟩
theorem EnvR.set {C : Txs} {w : Wd} {env : Env} {σ : L2.St} (h : EnvR C w env σ) {i : Nat} {v : V} {d : D} (r : RV C w v d) : EnvR C w (env.set i (some d)) (σ.set i (some v)) := by
  refine ⟨by simp [h.len], fun j e q => ?_⟩
  rw [List.getElem?_set] at q ⊢
  by_cases hj : i = j
  · rw [if_pos hj] at q ⊢
    rw [h.len]
    by_cases hl : i < env.length
    · rw [if_pos hl] at q ⊢
      cases q
      exact ⟨v, rfl, r⟩
    · rw [if_neg hl] at q; cases q
  · rw [if_neg hj] at q ⊢
    exact h.at_ j e q
theorem EnvR.wipe {C : Txs} {w : Wd} {env : Env} {σ : L2.St} (h : EnvR C w env σ) : ∀ vs : List Nat, EnvR C w (wipeD env vs) (L2.wipe σ vs)
  | [] => h
  | i :: vs => by
    have q := EnvR.wipe h vs
    unfold wipeD L2.wipe
    refine ⟨by simp [q.len], fun j e z => ?_⟩
    rw [List.getElem?_set] at z ⊢
    by_cases hj : i = j
    · rw [if_pos hj] at z
      split at z <;> cases z
    · rw [if_neg hj] at z ⊢
      exact q.at_ j e z
def SimE (C : Txs) (m : Env → Store → R D) : TE := fun σ H Q => ∃ w env, w.H = H ∧ SR C w ∧ EnvR C w env σ ∧ Pst C w (m env w.st) (WV C Q)
def SimT (C : Txs) (m : Env → Store → R D) : TT := fun σ H Q => ∃ w env, w.H = H ∧ SR C w ∧ EnvR C w env σ ∧ Pst C w (m env w.st) fun w' d => ∃ b, d = .bl b ∧ Q b w'.H
def SimA (C : Txs) (m : Env → Store → R (List D)) : TA := fun σ H Q => ∃ w env, w.H = H ∧ SR C w ∧ EnvR C w env σ ∧ Pst C w (m env w.st) fun w' ds => ∀ vs, RVs C w' vs ds → Q vs w'.H
theorem RV.bl_inv {C : Txs} {w : Wd} {v : V} {b : Bool} (h : RV C w v (.bl b)) : v = .bl b := by cases h; rfl
theorem RV.int_inv {C : Txs} {w : Wd} {v : V} {b : Int} (h : RV C w v (.int b)) : v = .int b := by cases h; rfl
theorem RV.non_inv {C : Txs} {w : Wd} {v : V} (h : RV C w v .non) : v = .non := by cases h; rfl
theorem SimT.e {C : Txs} {m : Env → Store → R D} {σ : L2.St} {H : Hp} {Q : Bool → Hp → Prop} (h : SimT C m σ H Q) : SimE C m σ H fun x H' => ∃ k, x = .bl k ∧ Q k H' := by
  obtain ⟨w, env, e, S, ER, P⟩ := h
  refine ⟨w, env, e, S, ER, P.mono fun w' d _ _ ⟨b, hb, q⟩ v r => ?_⟩
  subst hb
  exact ⟨b, r.bl_inv, q⟩
end PI

/-! PC: the operators keep step. -/
namespace PI
open PySem PySem.Spec PyProof.Rows L2
section
variable {C : Txs} {w : Wd} {v u : V} {x y : D}
theorem RVs.length {vs : List V} {ds : List D} (h : RVs C w vs ds) : vs.length = ds.length := by
  induction ds generalizing vs with
  | nil => cases h; rfl
  | cons d ds ih => cases h with | cons _ r => simp [ih r]
theorem RVs.get {vs : List V} {ds : List D} (h : RVs C w vs ds) {i : Nat} {d : D} (e : ds[i]? = some d) : ∃ v, vs[i]? = some v ∧ RV C w v d := by
  induction ds generalizing vs i with
  | nil => simp at e
  | cons d' ds ih =>
    cases h with
    | cons h r =>
      cases i with
      | zero => simp at e; subst e; exact ⟨_, rfl, h⟩
      | succ i => simpa using ih r (by simpa using e)
theorem RVs.get' {vs : List V} {ds : List D} (h : RVs C w vs ds) {i : Nat} {v : V} (e : vs[i]? = some v) : ∃ d, ds[i]? = some d ∧ RV C w v d := by
  induction ds generalizing vs i with
  | nil => cases h; simp at e
  | cons d' ds ih =>
    cases h with
    | cons h r =>
      cases i with
      | zero => simp at e; subst e; exact ⟨_, rfl, h⟩
      | succ i => simpa using ih r (by simpa using e)
theorem RVs.append {vs us : List V} {ds es : List D} (h : RVs C w vs ds) (g : RVs C w us es) : RVs C w (vs ++ us) (ds ++ es) := by
  induction ds generalizing vs with
  | nil => cases h; exact g
  | cons d ds ih => cases h with | cons a r => exact .cons a (ih r)
theorem RVs.one (h : RV C w v x) : RVs C w [v] [x] := .cons h .nil
theorem RVs.take {vs : List V} {ds : List D} (n : Nat) (h : RVs C w vs ds) : RVs C w (vs.take n) (ds.take n) := by
  induction ds generalizing vs n with
  | nil => cases h; simpa using RVs.nil
  | cons d ds ih =>
    cases h with
    | cons a r =>
      cases n with
      | zero => simpa using RVs.nil
      | succ n => simpa using RVs.cons a (ih n r)
theorem RVs.drop {vs : List V} {ds : List D} (n : Nat) (h : RVs C w vs ds) : RVs C w (vs.drop n) (ds.drop n) := by
  induction ds generalizing vs n with
  | nil => cases h; simpa using RVs.nil
  | cons d ds ih =>
    cases h with
    | cons a r =>
      cases n with
      | zero => simpa using RVs.cons a r
      | succ n => simpa using ih n r
theorem RVs.set {vs : List V} {ds : List D} (i : Nat) (h : RVs C w vs ds) (r : RV C w v x) : RVs C w (vs.set i v) (ds.set i x) := by
  induction ds generalizing vs i with
  | nil => cases h; simpa using RVs.nil
  | cons d ds ih =>
    cases h with
    | cons a q =>
      cases i with
      | zero => simpa using RVs.cons r q
      | succ i => simpa using RVs.cons a (ih i q)
theorem RVs.dropLast {vs : List V} {ds : List D} (h : RVs C w vs ds) : RVs C w vs.dropLast ds.dropLast := by
  rw [List.dropLast_eq_take, List.dropLast_eq_take, h.length]
  exact h.take _
theorem RVs.eraseIdx {vs : List V} {ds : List D} (i : Nat) (h : RVs C w vs ds) : RVs C w (vs.eraseIdx i) (ds.eraseIdx i) := by
  induction ds generalizing vs i with
  | nil => cases h; simpa using RVs.nil
  | cons d ds ih =>
    cases h with
    | cons a q =>
      cases i with
      | zero => simpa using q
      | succ i => simpa using RVs.cons a (ih i q)
theorem RVs.reverse {vs : List V} {ds : List D} (h : RVs C w vs ds) : RVs C w vs.reverse ds.reverse := by
  induction ds generalizing vs with
  | nil => cases h; exact .nil
  | cons d ds ih => cases h with | cons a q => simpa using (ih q).append (.one a)
theorem RVs.rep {vs : List V} {ds : List D} (h : RVs C w vs ds) : ∀ k : Nat, RVs C w (List.replicate k vs).flatten (List.replicate k ds).flatten
  | 0 => by simpa using RVs.nil
  | k + 1 => by simpa [List.replicate_succ] using h.append (RVs.rep h k)
theorem RVs.ints {l : List Int} : RVs C w (l.map V.int) (l.map D.int) := by
  induction l with
  | nil => exact .nil
  | cons a l ih => exact .cons (.int a) ih

theorem LIM_le {n : Nat} (h : n ≤ LIM) : n ≤ sizeLine := Nat.le_trans h (by rw [sizeLine_eq]; decide)
theorem LIM_lt {n : Nat} (h : n < LIM) : n < sizeLine := Nat.lt_of_lt_of_le h (by rw [sizeLine_eq]; decide)

/-! ### what a value is, by its D -/
theorem dr_lst (S : SR C w) (r : RV C w v x) {xs : List D} (e : deref w.st x = .lst xs) : ∃ a vs, v = .ref a ∧ w.H a = some (.lst vs) ∧ RVs C w vs xs := by
  cases r with
  | lst h n q => simp [deref] at e; subst e; exact ⟨_, _, rfl, h, q⟩
  | @cell k hk =>
    have z := S.cell k
    simp only [deref] at e
    cases q : w.st.f k with
    | lst ys =>
      rw [q] at e z
      simp at e
      subst e
      obtain ⟨vs, h, rr⟩ := z
      exact ⟨_, vs, rfl, h, rr⟩
    | _ => rw [q] at e; simp at e
  | _ => simp [deref] at e
theorem dr_tup (r : RV C w v x) {xs : List D} (e : deref w.st x = .tup xs) : ∃ a vs, v = .ref a ∧ SqT C.K w.H a vs ∧ RVs C w vs xs := by
  cases r with
  | tup h q => simp [deref] at e; subst e; exact ⟨_, _, rfl, h, q⟩
  | @cell k hk =>
    simp only [deref] at e
    cases q : w.st.f k with
    | _ => rw [q] at e; simp at e
  | _ => simp [deref] at e
theorem dr_int (r : RV C w v x) {i : Int} (e : deref w.st x = .int i) : v = .int i := by
  cases r with
  | int => simp [deref] at e; subst e; rfl
  | @cell k hk =>
    simp only [deref] at e
    cases q : w.st.f k with
    | _ => rw [q] at e; simp at e
  | _ => simp [deref] at e
theorem dr_str (r : RV C w v x) {i : Str} (e : deref w.st x = .str i) : v = .str i ∧ PyData.strOk i = true := by
  cases r with
  | str z h => simp [deref] at e; subst e; exact ⟨rfl, h⟩
  | @cell k hk =>
    simp only [deref] at e
    cases q : w.st.f k with
    | _ => rw [q] at e; simp at e
  | _ => simp [deref] at e
theorem dr_tag (r : RV C w v x) {n : Nat} (e : deref w.st x = .tag n) : ∃ z, v = .str z ∧ C.tg[n]? = some z ∧ PyData.strOk z = true := by
  cases r with
  | tag h h' => simp [deref] at e; subst e; exact ⟨_, rfl, h, h'⟩
  | @cell k hk =>
    simp only [deref] at e
    cases q : w.st.f k with
    | _ => rw [q] at e; simp at e
  | _ => simp [deref] at e
theorem dr_frz (r : RV C w v x) {xs : List D} (e : deref w.st x = .frz xs) : ∃ a vs, v = .ref a ∧ SqL C.K w.H a vs ∧ RVs C w vs xs := by
  cases r with
  | frz h n q => simp [deref] at e; subst e; exact ⟨_, _, rfl, .inl h, q⟩
  | frzK h q => simp [deref] at e; subst e; exact ⟨_, _, rfl, .inr h, q⟩
  | @cell k hk =>
    simp only [deref] at e
    cases q : w.st.f k with
    | _ => rw [q] at e; simp at e
  | _ => simp [deref] at e
theorem dr_dct (S : SR C w) (r : RV C w v x) {kvs : List (D × D)} (e : deref w.st x = .dct kvs) : ∃ a gs, v = .ref a ∧ w.H a = some (.dK gs) ∧ KR C w gs kvs := by
  cases r with
  | dct h n q => simp [deref] at e; subst e; exact ⟨_, _, rfl, h, q⟩
  | @cell k hk =>
    have z := S.cell k
    simp only [deref] at e
    cases q : w.st.f k with
    | dct ys =>
      rw [q] at e z
      simp at e
      subst e
      obtain ⟨vs, h, rr⟩ := z
      exact ⟨_, vs, rfl, h, rr⟩
    | _ => rw [q] at e; simp at e
  | _ => simp [deref] at e

/-! ### new things -/
theorem new_lst {c : Bool} {vs : List V} {xs : List D} {Q : VK} (S : SR C w) (hv : RVs C w vs xs) (P : Pst C w (newL c xs w.st) (WV C Q)) : ∀ p, w.H p = none → Q (.ref p) (upd w.H p (.lst vs)) := by
  intro p hp
  cases c with
  | false =>
    obtain ⟨st, S'⟩ := step_new (o := .lst vs) S hp
    exact P _ st S' rfl (.ref p) (.lst (vs := vs) upd_same (fun z => S.notlive hp z) (hv.mono S st))
  | true =>
    obtain ⟨st, S'⟩ := step_cell (o := .lst vs) (c := .lst xs) S hp (fun w' st e => ⟨vs, e, hv.mono S st⟩)
    have q := P _ st S' rfl (.ref p)
    refine q ?_
    have z := RV.cell (C := C) (w := ⟨w.Z, fun k => if k = w.st.n then p else w.ρ k, w.st.new (.lst xs), upd w.H p (.lst vs)⟩) (k := w.st.n) (Nat.lt_succ_self _)
    have e : (if w.st.n = w.st.n then p else w.ρ w.st.n) = p := if_pos rfl
    have z' : RV C ⟨w.Z, fun k => if k = w.st.n then p else w.ρ k, w.st.new (.lst xs), upd w.H p (.lst vs)⟩ (.ref (if w.st.n = w.st.n then p else w.ρ w.st.n)) (.cell w.st.n) := z
    rw [e] at z'
    exact z'
theorem new_tup {vs : List V} {xs : List D} {Q : VK} (S : SR C w) (hv : RVs C w vs xs) (P : Pst C w (.ok (.tup xs) w.st) (WV C Q)) : ∀ p, w.H p = none → Q (.ref p) (upd w.H p (.tup vs)) := by
  intro p hp
  obtain ⟨st, S'⟩ := step_new (o := .tup vs) S hp
  exact P _ st S' rfl (.ref p) (.tup (vs := vs) (SqT.of upd_same) (hv.mono S st))
theorem new_dct {c : Bool} {gs : List (Key × V)} {kvs : List (D × D)} {Q : VK} (S : SR C w) (hv : KR C w gs kvs) (P : Pst C w (newK c kvs w.st) (WV C Q)) : ∀ p, w.H p = none → Q (.ref p) (upd w.H p (.dK gs)) := by
  intro p hp
  cases c with
  | false =>
    obtain ⟨st, S'⟩ := step_new (o := .dK gs) S hp
    exact P _ st S' rfl (.ref p) (.dct (gs := gs) upd_same (fun z => S.notlive hp z) (hv.mono S st))
  | true =>
    obtain ⟨st, S'⟩ := step_cell (o := .dK gs) (c := .dct kvs) S hp (fun w' st e => ⟨gs, e, hv.mono S st⟩)
    have q := P _ st S' rfl (.ref p)
    refine q ?_
    have z := RV.cell (C := C) (w := ⟨w.Z, fun k => if k = w.st.n then p else w.ρ k, w.st.new (.dct kvs), upd w.H p (.dK gs)⟩) (k := w.st.n) (Nat.lt_succ_self _)
    have e : (if w.st.n = w.st.n then p else w.ρ w.st.n) = p := if_pos rfl
    have z' : RV C ⟨w.Z, fun k => if k = w.st.n then p else w.ρ k, w.st.new (.dct kvs), upd w.H p (.dK gs)⟩ (.ref (if w.st.n = w.st.n then p else w.ρ w.st.n)) (.cell w.st.n) := z
    rw [e] at z'
    exact z'
/-- a value, nothing new -/
theorem val_ok {d : D} {Q : VK} (S : SR C w) (r : RV C w v d) (P : Pst C w (.ok d w.st) (WV C Q)) : Q v w.H := P.here S v r
end

/-! ### two-place operators -/
def SimR2 (C : Txs) (g : D → D → Store → R D) : R2 := fun v u H Q => ∃ w x y, w.H = H ∧ SR C w ∧ RV C w v x ∧ RV C w u y ∧ Pst C w (g x y w.st) (WV C Q)
section
variable {X : Cx} {C : Txs}
theorem strOk_app {a b : Str} (ha : PyData.strOk a = true) (hb : PyData.strOk b = true) : PyData.strOk (a ++ b) = true := by
  obtain ⟨a⟩ := a
  obtain ⟨b⟩ := b
  have e : ((⟨a⟩ : Str) ++ (⟨b⟩ : Str)) = ⟨a ++ b⟩ := rfl
  rw [e]
  simp only [PyData.strOk, Array.all_append, Bool.and_eq_true]
  exact ⟨ha, hb⟩
theorem or_add (c : Bool) (hK : C.K = X.K) : OpR X (binaryOp .Add) (SimR2 C (addV C.tg c)) := by
  intro pins s σ H v u a b Q I rv ru h
  obtain ⟨w, x, y, rfl, S, r1, r2, P⟩ := h
  unfold addV at P
  split at P
  · rename_i i j e1 e2
    exact op_add pins s σ w.H v u a b Q I rv ru ⟨i, j, dr_int r1 e1, dr_int r2 e2, val_ok S (.int _) P⟩
  · rename_i xs ys e1 e2
    split at P
    · rename_i hl
      obtain ⟨p, vs, rfl, h1, q1⟩ := dr_lst S r1 e1
      obtain ⟨q, us, rfl, h2, q2⟩ := dr_lst S r2 e2
      exact op_cat pins s σ w.H _ _ a b Q I rv ru ⟨p, q, vs, us, rfl, rfl, h1, h2, LIM_le (by rw [q1.length, q2.length]; exact hl), new_lst S (q1.append q2) P⟩
    · exact P.elim
  · rename_i xs ys e1 e2
    split at P
    · rename_i hl
      obtain ⟨p, vs, rfl, h1, q1⟩ := dr_tup r1 e1
      obtain ⟨q, us, rfl, h2, q2⟩ := dr_tup r2 e2
      rw [hK] at h1 h2
      refine op_catA pins s σ w.H _ _ a b Q I rv ru ⟨p, q, vs, us, rfl, rfl, h1, h2, LIM_le (by rw [q1.length, q2.length]; exact hl), ?_⟩
      rw [← hK] at h1 h2
      refine ⟨fun e => ?_, fun _ e => ?_, fun _ _ => new_tup S (q1.append q2) P⟩
      · subst e
        cases q1
        exact val_ok S (.tup h2 q2) P
      · subst e
        cases q2
        simp only [List.append_nil] at P
        exact val_ok S (.tup h1 q1) P
    · exact P.elim
  · rename_i i j e1 e2
    split at P
    · rename_i hl
      obtain ⟨e1, o1⟩ := dr_str r1 e1
      obtain ⟨e2, o2⟩ := dr_str r2 e2
      exact op_add_str pins s σ w.H v u a b Q I rv ru ⟨i, j, e1, e2, LIM_le hl, val_ok S (.str _ (strOk_app o1 o2)) P⟩
    · exact P.elim
  · rename_i n j e1 e2
    split at P
    · rename_i z hz
      split at P
      · rename_i hl
        obtain ⟨z', e1, e1', o1⟩ := dr_tag r1 e1
        rw [hz] at e1'; cases e1'
        obtain ⟨e2, o2⟩ := dr_str r2 e2
        exact op_add_str pins s σ w.H v u a b Q I rv ru ⟨z, j, e1, e2, LIM_le hl, val_ok S (.str _ (strOk_app o1 o2)) P⟩
      · exact P.elim
    · exact P.elim
  · exact P.elim
theorem or_mul (c : Bool) (hK : C.K = X.K) : OpR X (binaryOp .Mult) (SimR2 C (mulV c)) := by
  intro pins s σ H v u a b Q I rv ru h
  obtain ⟨w, x, y, rfl, S, r1, r2, P⟩ := h
  unfold mulV at P
  split at P
  · rename_i i j e1 e2
    split at P
    · rename_i hl
      exact op_mul pins s σ w.H v u a b Q I rv ru ⟨i, j, dr_int r1 e1, dr_int r2 e2, hl, val_ok S (.int _) P⟩
    · exact P.elim
  · rename_i xs k e1 e2
    split at P
    · rename_i hl
      obtain ⟨p, vs, rfl, h1, q1⟩ := dr_lst S r1 e1
      have e2 := dr_int r2 e2
      subst e2
      obtain ⟨k1, k2, k3⟩ := hl
      exact op_rep pins s σ w.H _ _ a b Q I rv ru ⟨p, k, vs, rfl, rfl, h1, by omega, by omega, LIM_le (by rw [q1.length]; exact k3), new_lst S (q1.rep _) P⟩
    · exact P.elim
  · rename_i xs k e1 e2
    split at P
    · rename_i hl
      obtain ⟨p, vs, rfl, h1, q1⟩ := dr_tup r1 e1
      have e2 := dr_int r2 e2
      subst e2
      rw [hK] at h1
      obtain ⟨k0, k1, k2, k3⟩ := hl
      exact op_repT pins s σ w.H _ _ a b Q I rv ru ⟨p, k, vs, rfl, rfl, h1, fun e => k0 (by rw [← q1.length, e]; rfl), k1, k2, by rw [q1.length]; exact k3, new_tup S (q1.rep _) P⟩
    · exact P.elim
  · exact P.elim
theorem or_bop (o : Bop) (c : Bool) (hK : C.K = X.K) : OpR X (binaryOp (match o with | .add => .Add | .sub => .Sub | .mul => .Mult | .fdiv => .FloorDiv | .mod => .Mod | .pow => .Pow)) (SimR2 C (bopV C.tg o c)) := by
  cases o with
  | add => exact or_add c hK
  | mul => exact or_mul c hK
  | sub =>
    intro pins s σ H v u a b Q I rv ru h
    obtain ⟨w, x, y, rfl, S, r1, r2, P⟩ := h
    simp only [bopV] at P
    split at P
    · exact op_sub pins s σ w.H v u a b Q I rv ru ⟨_, _, r1.int_inv, r2.int_inv, val_ok S (.int _) P⟩
    · exact P.elim
  | fdiv =>
    intro pins s σ H v u a b Q I rv ru h
    obtain ⟨w, x, y, rfl, S, r1, r2, P⟩ := h
    simp only [bopV] at P
    split at P
    · split at P
      · rename_i hl
        exact op_fdiv pins s σ w.H v u a b Q I rv ru ⟨_, _, r1.int_inv, r2.int_inv, hl, val_ok S (.int _) P⟩
      · exact P.elim
    · exact P.elim
  | mod =>
    intro pins s σ H v u a b Q I rv ru h
    obtain ⟨w, x, y, rfl, S, r1, r2, P⟩ := h
    simp only [bopV] at P
    split at P
    · split at P
      · rename_i hl
        exact op_mod pins s σ w.H v u a b Q I rv ru ⟨_, _, r1.int_inv, r2.int_inv, hl, val_ok S (.int _) P⟩
      · exact P.elim
    · exact P.elim
  | pow =>
    intro pins s σ H v u a b Q I rv ru h
    obtain ⟨w, x, y, rfl, S, r1, r2, P⟩ := h
    simp only [bopV] at P
    split at P
    · split at P
      · rename_i hl
        exact op_pow pins s σ w.H v u a b Q I rv ru ⟨_, _, r1.int_inv, r2.int_inv, hl, val_ok S (.int _) P⟩
      · exact P.elim
    · exact P.elim
end
/-! ### equality -/
mutual
def toP (T : List Str) : D → PyData
  | .non => .none
  | .bl b => .bool b
  | .int i => .int i
  | .str x => .str x
  | .tag n => .str (T.getD n default)
  | .tup xs => .tuple (toPL T xs)
  | .lst xs => .list (toPL T xs)
  | .frz _ => .none
  | .dct _ => .none
  | .kdt _ => .none
  | .cell _ => .none
def toPL (T : List Str) : List D → List PyData
  | [] => []
  | x :: xs => toP T x :: toPL T xs
end
theorem getD_of {T : List Str} {n : Nat} {x : Str} (h : T[n]? = some x) : T.getD n default = x := by
  rw [List.getD_eq_getElem?_getD, h] <;> rfl
section
variable {C : Txs} {w : Wd}
mutual
theorem toP_dp : ∀ {v : V} {d : D}, RV C w v d → datD C.tg.length d = true → Dp C.K w.H v (toP C.tg d)
  | _, _, .non, _ => by unfold toP; exact .non
  | _, _, .bl b, _ => by unfold toP; exact .bl b
  | _, _, .int i, _ => by unfold toP; exact .int i
  | _, _, .str x _, _ => by unfold toP; exact .str x
  | _, _, .tag h _, _ => by unfold toP; rw [getD_of h]; exact .str _
  | _, _, .tup h r, e => by unfold toP; exact .tup h (toPL_dp r (by simpa [datD] using e))
  | _, _, .lst h _ r, e => by unfold toP; exact .lst (SqL.of h) (toPL_dp r (by simpa [datD] using e))
  | _, _, .frz _ _ _, e => by simp [datD] at e
  | _, _, .frzK _ _, e => by simp [datD] at e
  | _, _, .dct _ _ _, e => by simp [datD] at e
  | _, _, .dctK _ _, e => by simp [datD] at e
  | _, _, .cell _, e => by simp [datD] at e
theorem toPL_dp : ∀ {vs : List V} {ds : List D}, RVs C w vs ds → datL C.tg.length ds = true → DpAll C.K w.H vs (toPL C.tg ds)
  | _, _, .nil, _ => by unfold toPL; exact .nil
  | _, _, .cons h r, e => by
    unfold toPL
    simp only [datL, Bool.and_eq_true] at e
    exact .cons (toP_dp h e.1) (toPL_dp r e.2)
end
mutual
theorem toP_lay : ∀ {v : V} {d : D}, RV C w v d → (toP C.tg d).canLay0 = true
  | _, _, .non => by simp [toP, PyData.canLay0]
  | _, _, .bl b => by simp [toP, PyData.canLay0]
  | _, _, .int i => by simp [toP, PyData.canLay0]
  | _, _, .str x h => by simpa [toP, PyData.canLay0] using h
  | _, _, .tag h h' => by unfold toP; rw [getD_of h]; simpa [PyData.canLay0] using h'
  | _, _, .tup h r => by simpa [toP, PyData.canLay0] using toPL_lay r
  | _, _, .lst h _ r => by simpa [toP, PyData.canLay0] using toPL_lay r
  | _, _, .frz _ _ _ => by simp [toP, PyData.canLay0]
  | _, _, .frzK _ _ => by simp [toP, PyData.canLay0]
  | _, _, .dct _ _ _ => by simp [toP, PyData.canLay0]
  | _, _, .dctK _ _ => by simp [toP, PyData.canLay0]
  | _, _, .cell _ => by simp [toP, PyData.canLay0]
theorem toPL_lay : ∀ {vs : List V} {ds : List D}, RVs C w vs ds → PyData.canLayAll0 (toPL C.tg ds) = true
  | _, _, .nil => by simp [toPL, PyData.canLayAll0]
  | _, _, .cons h r => by simp [toPL, PyData.canLayAll0, toP_lay h, toPL_lay r]
end
end
mutual
theorem toP_dep (T : List Str) : ∀ d : D, (toP T d).depth ≤ depD d
  | .non => by simp [toP, PyData.depth]
  | .bl b => by simp [toP, PyData.depth]
  | .int i => by simp [toP, PyData.depth]
  | .str x => by simp [toP, PyData.depth]
  | .tag n => by simp [toP, PyData.depth]
  | .tup xs => by
    have := toPL_dep T xs
    simp only [toP, PyData.depth, depD]
    omega
  | .lst xs => by
    have := toPL_dep T xs
    simp only [toP, PyData.depth, depD]
    omega
  | .frz _ => by simp [toP, PyData.depth]
  | .dct _ => by simp [toP, PyData.depth]
  | .kdt _ => by simp [toP, PyData.depth]
  | .cell _ => by simp [toP, PyData.depth]
theorem toPL_dep (T : List Str) : ∀ ds : List D, PyData.depthAll (toPL T ds) ≤ depL ds
  | [] => by simp [toPL, PyData.depthAll]
  | x :: xs => by
    have h1 := toP_dep T x
    have h2 := toPL_dep T xs
    simp only [toPL, PyData.depthAll, depL]
    omega
end
theorem tag_eq {T : List Str} (nd : T.Nodup) {n m : Nat} (hn : n < T.length) (hm : m < T.length) : (T.getD n default == T.getD m default) = (n == m) := by
  rw [List.getD_eq_getElem?_getD, List.getD_eq_getElem?_getD, List.getElem?_eq_getElem hn, List.getElem?_eq_getElem hm]
  by_cases e : n = m
  · subst e; simp
  · have z : ¬ T[n] = T[m] := fun q => e ((List.getElem_inj nd).mp q)
    show (T[n] == T[m]) = (n == m)
    rw [beq_eq_false_iff_ne.mpr z, beq_eq_false_iff_ne.mpr e]
mutual
theorem toP_eqv (T : List Str) (nd : T.Nodup) : ∀ d e : D, datD T.length d = true → datD T.length e = true → PyData.eqv (toP T d) (toP T e) = eqvD T d e
  | .non, e, _, he => by cases e <;> simp_all [toP, PyData.eqv, eqvD, datD]
  | .bl b, e, _, he => by cases e <;> simp_all [toP, PyData.eqv, eqvD, datD, b2z]
  | .int i, e, _, he => by cases e <;> simp_all [toP, PyData.eqv, eqvD, datD, b2z]
  | .str x, e, _, he => by
    cases e with
    | tag m =>
      simp only [datD, decide_eq_true_eq] at he
      simp only [toP, PyData.eqv, eqvD]
      rw [List.getD_eq_getElem?_getD, List.getElem?_eq_getElem he]
      show (x == T[m]) = (some T[m] == some x)
      rw [Option.some_beq_some, Bool.beq_comm]
    | _ => simp_all [toP, PyData.eqv, eqvD, datD]
  | .tag n, e, hd, he => by
    cases e with
    | tag m =>
      simp only [datD, decide_eq_true_eq] at hd he
      simp only [toP, PyData.eqv, eqvD]
      exact tag_eq nd hd he
    | str y =>
      simp only [datD, decide_eq_true_eq] at hd
      simp only [toP, PyData.eqv, eqvD]
      rw [List.getD_eq_getElem?_getD, List.getElem?_eq_getElem hd]
      simp
    | _ => simp_all [toP, PyData.eqv, eqvD, datD]
  | .tup xs, e, hd, he => by
    cases e with
    | tup ys =>
      simp only [toP, PyData.eqv, eqvD]
      exact toPL_eqv T nd xs ys (by simpa [datD] using hd) (by simpa [datD] using he)
    | _ => simp_all [toP, PyData.eqv, eqvD, datD]
  | .lst xs, e, hd, he => by
    cases e with
    | lst ys =>
      simp only [toP, PyData.eqv, eqvD]
      exact toPL_eqv T nd xs ys (by simpa [datD] using hd) (by simpa [datD] using he)
    | _ => simp_all [toP, PyData.eqv, eqvD, datD]
  | .frz _, _, hd, _ => by simp [datD] at hd
  | .dct _, _, hd, _ => by simp [datD] at hd
  | .kdt _, _, hd, _ => by simp [datD] at hd
  | .cell _, _, hd, _ => by simp [datD] at hd
theorem toPL_eqv (T : List Str) (nd : T.Nodup) : ∀ ds es : List D, datL T.length ds = true → datL T.length es = true → PyData.eqvAll (toPL T ds) (toPL T es) = eqvL T ds es
  | [], es, _, _ => by cases es <;> simp [toPL, PyData.eqvAll, eqvL]
  | x :: xs, [], _, _ => by simp [toPL, PyData.eqvAll, eqvL]
  | x :: xs, y :: ys, h1, h2 => by
    simp only [datL, Bool.and_eq_true] at h1 h2
    simp only [toPL, PyData.eqvAll, eqvL, toP_eqv T nd x y h1.1 h2.1, toPL_eqv T nd xs ys h1.2 h2.2]
end
/-- the value itself, by what it holds -/
theorem rv_deref {C : Txs} {w : Wd} {v : V} {x : D} (S : SR C w) (r : RV C w v x) (hd : datD C.tg.length (deref w.st x) = true) : Dp C.K w.H v (toP C.tg (deref w.st x)) ∧ (toP C.tg (deref w.st x)).canLay0 = true := by
  cases r with
  | @cell k hk =>
    have z := S.cell k
    simp only [deref] at hd ⊢
    cases q : w.st.f k with
    | lst ys =>
      rw [q] at z hd
      simp only [] at hd ⊢
      obtain ⟨vs, h, rr⟩ := z
      unfold toP
      have hd' : datL C.tg.length ys = true := by simpa [datD] using hd
      exact ⟨.lst (SqL.of h) (toPL_dp rr hd'), by simpa [PyData.canLay0] using toPL_lay rr⟩
    | _ => rw [q] at hd; simp [datD] at hd
  | non => exact ⟨toP_dp .non hd, toP_lay (C := C) (w := w) .non⟩
  | bl b => exact ⟨toP_dp (.bl b) hd, toP_lay (C := C) (w := w) (.bl b)⟩
  | int b => exact ⟨toP_dp (.int b) hd, toP_lay (C := C) (w := w) (.int b)⟩
  | str b h => exact ⟨toP_dp (.str b h) hd, toP_lay (C := C) (w := w) (.str b h)⟩
  | tag h h' => exact ⟨toP_dp (.tag h h') hd, toP_lay (C := C) (w := w) (.tag h h')⟩
  | tup h h' => exact ⟨toP_dp (.tup h h') hd, toP_lay (.tup h h')⟩
  | lst h n h' => exact ⟨toP_dp (.lst h n h') hd, toP_lay (.lst h n h')⟩
  | frz h n h' => simp [deref, datD] at hd
  | frzK h h' => simp [deref, datD] at hd
  | dct h n h' => simp [deref, datD] at hd
  | dctK h h' => simp [deref, datD] at hd
section
variable {X : Cx} {C : Txs}
theorem or_eq (neg : Bool) (nd : C.tg.Nodup) (hK : C.K = X.K) (hu : X.A.units + 64 < cLine) : OpR X (compareOp (match neg with | false => .Eq | true => .NotEq)) (SimR2 C (eqV' C.tg neg)) := by
  intro pins s σ H v u a b Q I rv ru h
  obtain ⟨w, x, y, rfl, S, r1, r2, P⟩ := h
  unfold eqV' at P
  simp only [] at P
  split at P
  · rename_i hc
    obtain ⟨h1, h2, h3⟩ := hc
    obtain ⟨d1, l1⟩ := rv_deref S r1 h1
    obtain ⟨d2, l2⟩ := rv_deref S r2 h2
    rw [hK] at d1 d2
    obtain ⟨as, q1⟩ := Dp.reads I _ v a d1 rv
    obtain ⟨bs, q2⟩ := Dp.reads I _ u b d2 ru
    have e := toP_eqv C.tg nd _ _ h1 h2
    have p1 := toP_dep C.tg (deref w.st x)
    have p2 := toP_dep C.tg (deref w.st y)
    have q := val_ok S (.bl _) P
    cases neg with
    | false =>
      refine PySem.SeqAt.compareEq_reads q1 q2 l1 l2 (by omega) ?_
      rw [e]
      simp only [Bool.false_xor] at q
      exact ⟨.bl _, w.H, I, rfl, q⟩
    | true =>
      refine PySem.SeqAt.compareNe_reads q1 q2 l1 l2 (by omega) ?_
      rw [e]
      simp only [Bool.true_xor] at q
      exact ⟨.bl _, w.H, I, rfl, q⟩
  · exact P.elim
end
end PI

/-! PD: comparisons, items, slices, built-ins, methods keep step. -/
namespace PI
open PySem PySem.Spec PyProof.Rows L2
theorem keyD_of {C : Txs} {w : Wd} {v : V} {x : D} (r : RV C w v x) (h : keyD x = true) : ∃ k, keyOf C.tg x = some k ∧ v = kV k := by
  cases r with
  | int i => exact ⟨.inl i, rfl, rfl⟩
  | str z _ => exact ⟨.inr z, rfl, rfl⟩
  | @tag n z e _ => exact ⟨.inr z, by show (C.tg[n]?).map Sum.inr = _; rw [e] <;> rfl, rfl⟩
  | _ => simp [keyD] at h
theorem key_eqv {T : List Str} (nd : T.Nodup) {x y : D} {k l : Key} (hx : keyOf T x = some k) (hy : keyOf T y = some l) : eqvD T x y = decide (k = l) := by
  have tg : ∀ {n : Nat} {k : Key}, (T[n]?).map (Sum.inr : Str → Key) = some k → ∃ z, T[n]? = some z ∧ k = .inr z := fun {n k} e => by
    cases q : T[n]? with
    | none => rw [q] at e; cases e
    | some z => rw [q] at e; cases e; exact ⟨z, rfl, rfl⟩
  cases x with
  | int i =>
    cases hx
    cases y with
    | int j => cases hy; simp only [eqvD]; exact (key_ll i j).symm
    | str z => cases hy; simp [eqvD]
    | tag m => obtain ⟨z, _, rfl⟩ := tg hy; simp [eqvD]
    | _ => simp [keyOf] at hy
  | str a =>
    cases hx
    cases y with
    | int j => cases hy; simp [eqvD]
    | str z =>
      cases hy
      simp only [eqvD]
      by_cases e : a = z
      · subst e; simp
      · simp [e]
    | tag m =>
      obtain ⟨z, e, rfl⟩ := tg hy
      simp only [eqvD, e]
      by_cases q : a = z
      · subst q; simp
      · simp [q, Ne.symm q]
    | _ => simp [keyOf] at hy
  | tag n =>
    obtain ⟨a, e, rfl⟩ := tg hx
    cases y with
    | int j => cases hy; simp [eqvD]
    | str z =>
      cases hy
      simp only [eqvD, e]
      by_cases q : a = z
      · subst q; simp
      · simp [q]
    | tag m =>
      obtain ⟨z, e', rfl⟩ := tg hy
      simp only [eqvD]
      by_cases q : n = m
      · subst q
        rw [e] at e'; cases e'
        simp
      · have ne : a ≠ z := fun he => by
          subst he
          obtain ⟨h1, g1⟩ := List.getElem?_eq_some_iff.mp e
          obtain ⟨h2, g2⟩ := List.getElem?_eq_some_iff.mp e'
          exact q ((List.getElem_inj nd).mp (g1.trans g2.symm))
        simp [q, ne]
    | _ => simp [keyOf] at hy
  | _ => simp [keyOf] at hx
section
variable {C : Txs} {w : Wd}
theorem KR.look (nd : C.tg.Nodup) {x : D} {k : Key} (hx : keyOf C.tg x = some k) : ∀ {gs : List (Key × V)} {kvs : List (D × D)}, KR C w gs kvs →
    (∃ v d, lookD C.tg x kvs = some d ∧ valV gs k = some v ∧ RV C w v d) ∨ (lookD C.tg x kvs = none ∧ valV gs k = none)
  | _, _, .nil => .inr ⟨rfl, rfl⟩
  | _, _, .cons (k := l) (v := v) (d := d) (e := e) (gs := gs) (kvs := kvs) h1 h2 h3 => by
    have q := key_eqv nd h1 hx
    unfold lookD
    by_cases z : l = k
    · rw [decide_eq_true z] at q
      rw [if_pos q]
      exact .inl ⟨v, e, rfl, valV_pos z, h2⟩
    · rw [decide_eq_false z] at q
      rw [if_neg (by rw [q]; exact Bool.false_ne_true), valV_neg z]
      exact KR.look nd hx h3
theorem KR.length {gs : List (Key × V)} {kvs : List (D × D)} (h : KR C w gs kvs) : gs.length = kvs.length := by
  induction kvs generalizing gs with
  | nil => cases h; rfl
  | cons p r ih => cases h with | cons a b c => simp [ih c]
theorem KR.append {gs gs' : List (Key × V)} {kvs kvs' : List (D × D)} (h : KR C w gs kvs) (h' : KR C w gs' kvs') : KR C w (gs ++ gs') (kvs ++ kvs') := by
  induction kvs generalizing gs with
  | nil => cases h; exact h'
  | cons p r ih => cases h with | cons a b c => exact .cons a b (ih c)
theorem KR.put (nd : C.tg.Nodup) {x y : D} {k : Key} {v : V} (hx : keyOf C.tg x = some k) (hv : RV C w v y) {gs : List (Key × V)} {kvs : List (D × D)} (h : KR C w gs kvs) : KR C w (putK gs k v) (putD C.tg x y kvs) := by
  have an : ∀ {gs : List (Key × V)} {kvs : List (D × D)}, KR C w gs kvs → (gs.any fun kv => decide (kv.1 = k)) = kvs.any fun p => eqvD C.tg p.1 x := by
    intro gs kvs h
    induction kvs generalizing gs with
    | nil => cases h; rfl
    | cons p r ih => cases h with | cons a b c => rw [List.any_cons, List.any_cons, ih c, key_eqv nd a hx]
  have mp : ∀ {gs : List (Key × V)} {kvs : List (D × D)}, KR C w gs kvs → KR C w (gs.map fun kv => if kv.1 = k then (kv.1, v) else kv) (kvs.map fun p => if eqvD C.tg p.1 x = true then (p.1, y) else p) := by
    intro gs kvs h
    induction kvs generalizing gs with
    | nil => cases h; exact .nil
    | cons p r ih =>
      cases h with
      | @cons l v' d' e' gs' kvs' a b c =>
        have q := key_eqv nd a hx
        rw [List.map_cons, List.map_cons]
        by_cases z : l = k
        · rw [decide_eq_true z] at q
          rw [if_pos z, if_pos q]
          exact .cons a hv (ih c)
        · rw [decide_eq_false z] at q
          rw [if_neg z, if_neg (by rw [q]; exact Bool.false_ne_true)]
          exact .cons a b (ih c)
  unfold putK putD
  rw [an h]
  split
  · exact mp h
  · exact h.append (.cons hx hv .nil)
theorem flat_V {v : V} {x : D} (r : RV C w v x) (h : flatD x = true) : flatV v = true := by
  cases r <;> first | rfl | simp [flatD] at h
theorem flats_V : ∀ {vs : List V} {ds : List D}, RVs C w vs ds → ds.all flatD = true → vs.all flatV = true
  | _, _, .nil, _ => rfl
  | _, _, .cons h r, e => by
    rw [List.all_cons, Bool.and_eq_true] at e ⊢
    exact ⟨flat_V h e.1, flats_V r e.2⟩
theorem eqV_D (nd : C.tg.Nodup) {v u : V} {x y : D} (r : RV C w v x) (r' : RV C w u y) (h : flatD x = true) (h' : flatD y = true) : eqV v u = eqvD C.tg x y := by
  cases r with
  | non => cases r' <;> first | rfl | simp [flatD] at h'
  | bl b => cases r' <;> first | rfl | simp [flatD] at h'
  | int i => cases r' <;> first | rfl | simp [flatD] at h'
  | str z o =>
    cases r' with
    | str z' o' => rfl
    | @tag m z' e o' =>
      have q := key_eqv (x := .str z) (y := .tag m) (k := .inr z) (l := .inr z') nd rfl (by show (C.tg[m]?).map Sum.inr = _; rw [e] <;> rfl)
      rw [q, key_rr]
      show (z == z') = decide (z = z')
      rfl
    | _ => first | rfl | simp [flatD] at h'
  | @tag n z e o =>
    cases r' with
    | str z' o' =>
      have q := key_eqv (x := .tag n) (y := .str z') (k := .inr z) (l := .inr z') nd (by show (C.tg[n]?).map Sum.inr = _; rw [e] <;> rfl) rfl
      rw [q, key_rr]
      show (z == z') = decide (z = z')
      rfl
    | @tag m z' e' o' =>
      have q := key_eqv (x := .tag n) (y := .tag m) (k := .inr z) (l := .inr z') nd (by show (C.tg[n]?).map Sum.inr = _; rw [e] <;> rfl) (by show (C.tg[m]?).map Sum.inr = _; rw [e'] <;> rfl)
      rw [q, key_rr]
      show (z == z') = decide (z = z')
      rfl
    | _ => first | rfl | simp [flatD] at h'
  | _ => simp [flatD] at h
theorem inV_D (nd : C.tg.Nodup) {v : V} {x : D} (r : RV C w v x) (h : flatD x = true) : ∀ {vs : List V} {ds : List D}, RVs C w vs ds → ds.all flatD = true → inV v vs = ds.any fun y => eqvD C.tg y x
  | _, _, .nil, _ => rfl
  | _, _, .cons a b, e => by
    rw [List.all_cons, Bool.and_eq_true] at e
    have ih := inV_D nd r h b e.2
    unfold inV at ih ⊢
    rw [List.any_cons, List.any_cons, ih, eqV_D nd a r e.1 h]
theorem any_P (T : List Str) (nd : T.Nodup) (x : D) (hx : datD T.length x = true) : ∀ ds : List D, datL T.length ds = true → ((toPL T ds).any fun z => PyData.eqv z (toP T x)) = ds.any fun y => eqvD T y x
  | [], _ => by simp [toPL]
  | d :: ds, h => by
    simp only [datL, Bool.and_eq_true] at h
    simp only [toPL, List.any_cons, any_P T nd x hx ds h.2, toP_eqv T nd d x h.1 hx]
theorem shaped_of {d : PyData} (h : d.canLay0 = true) (h' : d.depth ≤ 64) : SeqAt.shaped d = true := by
  unfold SeqAt.shaped
  rw [h, decide_eq_true h'] <;> rfl
end
section
variable {X : Cx} {C : Txs}
abbrev copO : Cop → CmpOp
  | .eq => .Eq | .ne => .NotEq | .lt => .Lt | .le => .LtE | .gt => .Gt | .ge => .GtE | .is_ => .Is | .isnot => .IsNot | .in_ => .In | .notin => .NotIn
theorem or_ord {op : CmpOp} {f : Int → Int → Bool} (h : OpR X (compareOp op) (rI0 fun i j => .bl (f i j))) : OpR X (compareOp op) (SimR2 C (ordV f)) := by
  intro pins s σ H v u a b Q I rv ru g
  obtain ⟨w, x, y, rfl, S, r1, r2, P⟩ := g
  unfold ordV at P
  split at P
  · exact h pins s σ w.H v u a b Q I rv ru ⟨_, _, r1.int_inv, r2.int_inv, val_ok S (.bl _) P⟩
  · exact P.elim
theorem nonD_V {w : Wd} {v : V} {x : D} (r : RV C w v x) : decide (v = .non) = isNonD x := by
  cases r <;> first | rfl | simp [isNonD]
theorem strOf_V {w : Wd} {v : V} {x : D} {a : Str} (r : RV C w v x) (e : strOf C.tg x = some a) : v = .str a ∧ PyData.strOk a = true := by
  unfold strOf at e
  split at e
  · cases e
    cases r with
    | str _ h => exact ⟨rfl, h⟩
  · cases r with
    | tag h h' => rw [h] at e; cases e; exact ⟨rfl, h'⟩
  · cases e
theorem sign_ok {op : CmpOp} (neg : Bool) (hop : op = if neg = true then CmpOp.NotIn else CmpOp.In) {pins : List (Addr × Obj)} {s : Shared} {σ : L2.St} {w : Wd} {v : V} {x : D} {z : Str} {a b : Value} {Q : VK} (S : SR C w) (r1 : RV C w v x) (P : Pst C w (signV C.tg neg x z w.st) (WV C Q)) (I : L2.Inv X pins σ w.H s) (rv : L2.RelV v a) (ru : L2.RelV (.str z) b) :
    wpAny (model X.prog X.w) X.A (compareOp op a b) (EP X pins σ Q) X.xe s := by
  subst hop
  unfold signV at P
  split at P
  · rename_i y e
    obtain ⟨rfl, o⟩ := strOf_V r1 e
    split at P
    · rename_i c ec
      have ey : y = ⟨#[c]⟩ := by
        cases y with
        | mk cps =>
          have : cps = #[c] := Array.toList_inj.mp ec
          rw [this]
      subst ey
      have q := val_ok S (.bl _) P
      cases neg with
      | false => exact op_in_sign pins s σ w.H _ _ a b Q I rv ru ⟨c, z, rfl, rfl, by simpa using q⟩
      | true => exact op_notIn_sign pins s σ w.H _ _ a b Q I rv ru ⟨c, z, rfl, rfl, by simpa using q⟩
    · exact P.elim
  · exact P.elim
theorem or_in (neg : Bool) (nd : C.tg.Nodup) (hK : C.K = X.K) (hW : C.wd = X.w) (hu : X.A.units + 65 < cLine) : OpR X (compareOp (match neg with | false => .In | true => .NotIn)) (SimR2 C (inV' C.tg neg)) := by
  intro pins s σ H v u a b Q I rv ru g
  obtain ⟨w, x, y, rfl, S, r1, r2, P⟩ := g
  unfold inV' at P
  split at P
  · rename_i ys e
    obtain ⟨p, us, rfl, h1, q1⟩ := dr_lst S r2 e
    split at P
    · rename_i hf
      have z := inV_D nd r1 hf.1 q1 hf.2
      have q := val_ok S (.bl _) P
      cases neg with
      | false =>
        refine op_in_seq pins s σ w.H _ _ a b Q I rv ru ⟨p, us, rfl, .inl (SqL.of h1), flat_V r1 hf.1, flats_V q1 hf.2, ?_⟩
        rw [if_neg Bool.false_ne_true, z]
        simpa using q
      | true =>
        refine op_notIn_seq pins s σ w.H _ _ a b Q I rv ru ⟨p, us, rfl, .inl (SqL.of h1), flat_V r1 hf.1, flats_V q1 hf.2, ?_⟩
        rw [if_pos rfl, z]
        simpa using q
    · split at P
      · rename_i hf
        obtain ⟨f1, f2, f3, f4⟩ := hf
        have q := val_ok S (.bl _) P
        have d1 := toP_dp r1 f1
        have d2 : Dp C.K w.H (.ref p) (.list (toPL C.tg ys)) := .lst (SqL.of h1) (toPL_dp q1 f2)
        rw [hK] at d1 d2
        have s1 : SeqAt.shaped (toP C.tg x) = true := shaped_of (toP_lay r1) (by have := toP_dep C.tg x; omega)
        have s2 : SeqAt.shaped (.list (toPL C.tg ys)) = true := shaped_of (by simpa [PyData.canLay0] using toPL_lay q1) (by
          have := toPL_dep C.tg ys
          simp only [PyData.depth]
          omega)
        have z := any_P C.tg nd x f1 ys f2
        cases neg with
        | false =>
          refine op_inD hu pins s σ w.H _ _ a b Q I rv ru ⟨_, _, d1, d2, s1, s2, ?_⟩
          rw [z]
          simpa using q
        | true =>
          refine op_notInD hu pins s σ w.H _ _ a b Q I rv ru ⟨_, _, d1, d2, s1, s2, ?_⟩
          rw [z]
          simpa using q
      · exact P.elim
  · rename_i ys e
    obtain ⟨p, us, rfl, h1, q1⟩ := dr_tup r2 e
    split at P
    · rename_i hf
      have z := inV_D nd r1 hf.1 q1 hf.2
      have q := val_ok S (.bl _) P
      rw [hK] at h1
      cases neg with
      | false =>
        refine op_in_seq pins s σ w.H _ _ a b Q I rv ru ⟨p, us, rfl, .inr h1, flat_V r1 hf.1, flats_V q1 hf.2, ?_⟩
        rw [if_neg Bool.false_ne_true, z]
        simpa using q
      | true =>
        refine op_notIn_seq pins s σ w.H _ _ a b Q I rv ru ⟨p, us, rfl, .inr h1, flat_V r1 hf.1, flats_V q1 hf.2, ?_⟩
        rw [if_pos rfl, z]
        simpa using q
    · exact P.elim
  · rename_i kvs e
    obtain ⟨p, gs, rfl, h1, q1⟩ := dr_dct S r2 e
    split at P
    · rename_i hk
      obtain ⟨k, ek, rfl⟩ := keyD_of r1 hk
      have q := val_ok S (.bl _) P
      have g := DGet.k (k := k) h1
      have ez : (valV gs k).isSome = (lookD C.tg x kvs).isSome := by
        rcases KR.look nd ek q1 with ⟨v, d, l1, l2, _⟩ | ⟨l1, l2⟩ <;> rw [l1, l2] <;> rfl
      obtain rfl : b = Value.ref p := ru
      cases neg with
      | false =>
        refine d_in (by omega) I g rv fun s3 I3 => ⟨.bl _, w.H, I3, rfl, ?_⟩
        rw [ez]
        simpa using q
      | true =>
        refine d_notIn (by omega) I g rv fun s3 I3 => ⟨.bl _, w.H, I3, rfl, ?_⟩
        rw [ez]
        simpa using q
    · exact P.elim
  · rename_i kvs e
    split at P
    · rename_i m
      split at P
      · rename_i hm
        have q := val_ok S (.bl _) P
        have hk : ∃ p es n, u = .ref p ∧ KDict C.K C.wd p es n ∧ ∀ (m : Nat) (x : Str), C.tg[m]? = some x → PySem.W.nsIn C.K p x = some none ∧ lookD C.tg (.tag m) kvs = none ∨ ∃ (u : Value) (i : Int), PySem.W.nsIn C.K p x = some (some u) ∧ RelV (.int i) u ∧ lookD C.tg (.tag m) kvs = some (.int i) := by
          cases r2 with
          | dctK h qq => simp [deref] at e; subst e; exact ⟨_, _, _, rfl, h, qq⟩
          | @cell k hk =>
            simp only [deref] at e
            cases z : w.st.f k with
            | _ => rw [z] at e; simp at e
          | _ => simp [deref] at e
        obtain ⟨p, es, n, rfl, KD, hl⟩ := hk
        cases r1 with
        | @tag _ z e1 o1 =>
          rw [hK, hW] at KD
          have g := hl m z e1
          rw [hK] at g
          have gz : ∃ r, PySem.W.nsIn X.K p z = some r ∧ r.isSome = (lookD C.tg (.tag m) kvs).isSome := by
            rcases g with ⟨g1, g2⟩ | ⟨u', i, g1, g2, g3⟩
            · exact ⟨none, g1, by rw [g2] <;> rfl⟩
            · exact ⟨some u', g1, by rw [g3] <;> rfl⟩
          obtain ⟨r, g1, g2⟩ := gz
          cases neg with
          | false =>
            refine op_in_kd KD pins s σ w.H _ _ a b Q I rv ru ⟨z, r, rfl, rfl, g1, ?_⟩
            rw [g2]
            simpa using q
          | true =>
            refine op_notIn_kd KD pins s σ w.H _ _ a b Q I rv ru ⟨z, r, rfl, rfl, g1, ?_⟩
            rw [g2]
            simpa using q
      · exact P.elim
    · exact P.elim
  · rename_i z e
    obtain ⟨rfl, o⟩ := dr_str r2 e
    cases neg with
    | false => exact sign_ok (op := CmpOp.In) false rfl S r1 P I rv ru
    | true => exact sign_ok (op := CmpOp.NotIn) true rfl S r1 P I rv ru
  · rename_i m e
    obtain ⟨z, rfl, e1, o⟩ := dr_tag r2 e
    simp only [e1] at P
    cases neg with
    | false => exact sign_ok (op := CmpOp.In) false rfl S r1 P I rv ru
    | true => exact sign_ok (op := CmpOp.NotIn) true rfl S r1 P I rv ru
  · exact P.elim
theorem or_cop (o : Cop) (nd : C.tg.Nodup) (hK : C.K = X.K) (hW : C.wd = X.w) (hu : X.A.units + 65 < cLine) : OpR X (compareOp (copO o)) (SimR2 C (copV C.tg o)) := by
  cases o with
  | eq => exact or_eq false nd hK (by omega)
  | ne => exact or_eq true nd hK (by omega)
  | lt => exact or_ord op_lt
  | le => exact or_ord op_le
  | gt => exact or_ord op_gt
  | ge => exact or_ord op_ge
  | is_ =>
    intro pins s σ H v u a b Q I rv ru g
    obtain ⟨w, x, y, rfl, S, r1, r2, P⟩ := g
    simp only [copV] at P
    split at P
    · refine op_isN pins s σ w.H v u a b Q I rv ru ⟨r2.non_inv, ?_⟩
      rw [nonD_V r1]
      exact val_ok S (.bl _) P
    · split at P
      · exact op_is_bl pins s σ w.H v u a b Q I rv ru ⟨_, _, r1.bl_inv, r2.bl_inv, val_ok S (.bl _) P⟩
      · exact P.elim
    · exact P.elim
  | isnot =>
    intro pins s σ H v u a b Q I rv ru g
    obtain ⟨w, x, y, rfl, S, r1, r2, P⟩ := g
    simp only [copV] at P
    split at P
    · refine op_notN pins s σ w.H v u a b Q I rv ru ⟨r2.non_inv, ?_⟩
      rw [nonD_V r1]
      exact val_ok S (.bl _) P
    · split at P
      · exact op_isnot_bl pins s σ w.H v u a b Q I rv ru ⟨_, _, r1.bl_inv, r2.bl_inv, val_ok S (.bl _) P⟩
      · exact P.elim
    · exact P.elim
  | in_ => exact or_in false nd hK hW hu
  | notin => exact or_in true nd hK hW hu
end
end PI

/-! PE1: items, slices, built-in functions, methods keep step. -/
namespace PI
open PySem PySem.Spec PyProof.Rows L2
theorem cutV_RVs {C : Txs} {w : Wd} {vs : List V} {ds : List D} (h : RVs C w vs ds) (lo hi : Option Int) : RVs C w (cutV vs lo hi) (cutD ds lo hi) := by
  unfold cutV cutD
  rw [h.length]
  exact (h.drop _).take _
theorem atI_RVs {C : Txs} {w : Wd} {vs : List V} {ds : List D} (h : RVs C w vs ds) {i : Int} {d : D} (e : atI ds i = some d) : ∃ v, atI vs i = some v ∧ RV C w v d := by
  unfold atI at e ⊢
  rw [h.length]
  obtain ⟨j, h1, h2⟩ := Option.bind_eq_some_iff.mp e
  obtain ⟨v, h3, h4⟩ := h.get h2
  exact ⟨v, by rw [h1]; exact h3, h4⟩
def SimC (C : Txs) (g : List D → Store → R D) : List V → Hp → VK → Prop := fun vs H Q => ∃ w ds, w.H = H ∧ SR C w ∧ RVs C w vs ds ∧ Pst C w (g ds w.st) (WV C Q)
def SimS (C : Txs) (g : D → Option Int → Option Int → Store → R D) : V → Option Int → Option Int → Hp → VK → Prop := fun v lo hi H Q => ∃ w x, w.H = H ∧ SR C w ∧ RV C w v x ∧ Pst C w (g x lo hi w.st) (WV C Q)
def SimM (C : Txs) (g : D → List D → Store → R D) : V → List V → Hp → VK → Prop := fun v vs H Q => ∃ w x ds, w.H = H ∧ SR C w ∧ RV C w v x ∧ RVs C w vs ds ∧ Pst C w (g x ds w.st) (WV C Q)
theorem strOk_1 {z : Str} {i : Int} {c : Nat} (h : PyData.strOk z = true) (e : atI z.cps.toList i = some c) : PyData.strOk ⟨#[c]⟩ = true := by
  obtain ⟨j, _, h2⟩ := Option.bind_eq_some_iff.mp e
  simp only [PyData.strOk] at h ⊢
  have := List.mem_of_getElem? h2
  rw [Array.all_eq_true'] at h
  simp
  simpa using h c (by simpa using this)
theorem strOk_cps {z : Str} : PyData.strOk z = true ↔ ∀ c ∈ z.cps.toList, c < 0x110000 := by
  unfold PyData.strOk
  rw [Array.all_eq_true']
  constructor
  · intro h c hc
    simpa using h c (by simpa using hc)
  · intro h c hc
    simpa using h c (by simpa using hc)
theorem strOk_cut {z : Str} {lo hi : Option Int} (h : PyData.strOk z = true) : PyData.strOk (cutS z lo hi) = true := by
  rw [strOk_cps] at h ⊢
  intro c hc
  have hc : c ∈ (z.cps.toList.drop (HT.sIx z.length 0 lo)).take (HT.sIx z.length z.length hi - HT.sIx z.length 0 lo) := by simpa [cutS] using hc
  exact h c (List.mem_of_mem_drop (List.mem_of_mem_take hc))
section
variable {X : Cx} {C : Txs}
theorem xr_idx (nd : C.tg.Nodup) (hK : C.K = X.K) (hW : C.wd = X.w) (hu : X.A.units + 1 < cLine) : IxR X (SimR2 C (idxV C.tg)) := by
  intro value slice pins s σ H v u a b Q I rv ru g hs
  obtain ⟨w, x, y, rfl, S, r1, r2, P⟩ := g
  unfold idxV at P
  split at P
  · rename_i xs e
    obtain ⟨p, vs, rfl, h1, q1⟩ := dr_lst S r1 e
    split at P
    · split at P
      · rename_i d hd
        obtain ⟨z, h2, h3⟩ := atI_RVs q1 hd
        exact ix_list value slice pins s σ w.H _ _ a b Q I rv ru ⟨p, vs, _, z, rfl, r2.int_inv, SqL.of h1, h2, val_ok S h3 P⟩ hs
      · exact P.elim
    · exact P.elim
  · rename_i xs e
    obtain ⟨p, vs, rfl, h1, q1⟩ := dr_frz r1 e
    split at P
    · split at P
      · rename_i d hd
        obtain ⟨z, h2, h3⟩ := atI_RVs q1 hd
        rw [hK] at h1
        exact ix_list value slice pins s σ w.H _ _ a b Q I rv ru ⟨p, vs, _, z, rfl, r2.int_inv, h1, h2, val_ok S h3 P⟩ hs
      · exact P.elim
    · exact P.elim
  · rename_i xs e
    obtain ⟨p, vs, rfl, h1, q1⟩ := dr_tup r1 e
    split at P
    · split at P
      · rename_i d hd
        obtain ⟨z, h2, h3⟩ := atI_RVs q1 hd
        rw [hK] at h1
        exact ix_tup value slice pins s σ w.H _ _ a b Q I rv ru ⟨p, vs, _, z, rfl, r2.int_inv, h1, h2, val_ok S h3 P⟩ hs
      · exact P.elim
    · exact P.elim
  · rename_i kvs e
    obtain ⟨p, gs, rfl, h1, q1⟩ := dr_dct S r1 e
    split at P
    · rename_i hk
      split at P
      · rename_i d hd
        obtain ⟨k, ek, rfl⟩ := keyD_of r2 hk
        rcases KR.look nd ek q1 with ⟨v', d', l1, l2, l3⟩ | ⟨l1, l2⟩
        · rw [hd] at l1; cases l1
          have g := DGet.k (k := k) h1
          rw [l2] at g
          obtain rfl : a = Value.ref p := rv
          exact tail_any (dict_typeIs I g) PySem.F.slot_dict_getitem.lookup (d_getItem hu I g ru fun w' s3 I3 rw' => ⟨_, w.H, I3, rw', val_ok S l3 P⟩) hs
        · rw [hd] at l1; cases l1
      · exact P.elim
    · exact P.elim
  · rename_i kvs e
    split at P
    · rename_i m
      split at P
      · rename_i hm
        split at P
        · rename_i d hd
          have hk : ∃ p es n, v = .ref p ∧ KDict C.K C.wd p es n ∧ ∀ (m : Nat) (x : Str), C.tg[m]? = some x → PySem.W.nsIn C.K p x = some none ∧ lookD C.tg (.tag m) kvs = none ∨ ∃ (u : Value) (i : Int), PySem.W.nsIn C.K p x = some (some u) ∧ RelV (.int i) u ∧ lookD C.tg (.tag m) kvs = some (.int i) := by
            cases r1 with
            | dctK h qq => simp [deref] at e; subst e; exact ⟨_, _, _, rfl, h, qq⟩
            | @cell k hk =>
              simp only [deref] at e
              cases z : w.st.f k with
              | _ => rw [z] at e; simp at e
            | _ => simp [deref] at e
          obtain ⟨p, es, n, rfl, KD, hl⟩ := hk
          cases r2 with
          | @tag _ z e1 o1 =>
            rw [hK, hW] at KD
            have g := hl m z e1
            rw [hK] at g
            rcases g with ⟨g1, g2⟩ | ⟨u', i, g1, g2, g3⟩
            · rw [hd] at g2; cases g2
            · rw [hd] at g3; cases g3
              have q := val_ok S (.int i) P
              obtain rfl : a = Value.ref p := rv
              exact tail_any (kd_type KD I) PySem.F.slot_dict_getitem.lookup (op_item_kd KD pins s σ w.H (.ref p) (.str z) _ b Q I (show RelV (.ref p) (Value.ref p) from rfl) ru ⟨z, u', .int i, rfl, rfl, g1, g2, q⟩) hs
        · exact P.elim
      · exact P.elim
    · exact P.elim
  · rename_i z e
    obtain ⟨rfl, o⟩ := dr_str r1 e
    split at P
    · split at P
      · rename_i hl
        split at P
        · rename_i c hc
          exact ix_str value slice pins s σ w.H _ _ a b Q I rv ru ⟨z, _, c, rfl, r2.int_inv, LIM_le hl, hc, val_ok S (.str _ (strOk_1 o hc)) P⟩ hs
        · exact P.elim
      · exact P.elim
    · exact P.elim
  · rename_i m e
    obtain ⟨z, rfl, e1, o⟩ := dr_tag r1 e
    simp only [e1] at P
    split at P
    · split at P
      · rename_i hl
        split at P
        · rename_i c hc
          exact ix_str value slice pins s σ w.H _ _ a b Q I rv ru ⟨z, _, c, rfl, r2.int_inv, LIM_le hl, hc, val_ok S (.str _ (strOk_1 o hc)) P⟩ hs
        · exact P.elim
      · exact P.elim
    · exact P.elim
  · exact P.elim
theorem sl_slc (c : Bool) (hK : C.K = X.K) : SlR X (SimS C (slcV C.tg c)) := by
  intro pins s σ H v a vl vu lo hi sl Q I rv hs pl pu g
  obtain ⟨w, x, rfl, S, r1, P⟩ := g
  unfold slcV at P
  split at P
  · rename_i xs e
    obtain ⟨p, vs, rfl, h1, q1⟩ := dr_lst S r1 e
    exact sl_list pins s σ w.H _ a vl vu lo hi sl Q I rv hs pl pu ⟨p, vs, rfl, SqL.of h1, new_lst S (cutV_RVs q1 lo hi) P⟩
  · rename_i xs e
    obtain ⟨p, vs, rfl, h1, q1⟩ := dr_tup r1 e
    have h1' := h1
    rw [hK] at h1
    refine sl_tupA pins s σ w.H _ a vl vu lo hi sl Q I rv hs pl pu ⟨p, vs, rfl, h1, fun hw => ?_, fun _ => new_tup S (cutV_RVs q1 lo hi) P⟩
    have e2 : cutD xs lo hi = xs := by
      unfold cutD
      rw [← q1.length, hw.1, hw.2, List.drop_zero, Nat.sub_zero, q1.length, List.take_length]
    rw [e2] at P
    exact val_ok S (.tup h1' q1) P
  · rename_i z e
    obtain ⟨rfl, o⟩ := dr_str r1 e
    split at P
    · rename_i hl
      exact sl_str pins s σ w.H _ a vl vu lo hi sl Q I rv hs pl pu ⟨z, rfl, LIM_le hl, val_ok S (.str _ (strOk_cut o)) P⟩
    · exact P.elim
  · rename_i m e
    obtain ⟨z, rfl, e1, o⟩ := dr_tag r1 e
    simp only [e1] at P
    split at P
    · rename_i hl
      exact sl_str pins s σ w.H _ a vl vu lo hi sl Q I rv hs pl pu ⟨z, rfl, LIM_le hl, val_ok S (.str _ (strOk_cut o)) P⟩
    · exact P.elim
  · exact P.elim

theorem RVs.one_inv {w : Wd} {vs : List V} {x : D} (h : RVs C w vs [x]) : ∃ v, vs = [v] ∧ RV C w v x := by
  cases h with | cons a b => cases b; exact ⟨_, rfl, a⟩
theorem RVs.two_inv {w : Wd} {vs : List V} {x y : D} (h : RVs C w vs [x, y]) : ∃ v u, vs = [v, u] ∧ RV C w v x ∧ RV C w u y := by
  cases h with | cons a b => cases b with | cons b c => cases c; exact ⟨_, _, rfl, a, b⟩
theorem RVs.nil_inv {w : Wd} {vs : List V} (h : RVs C w vs []) : vs = [] := by cases h; rfl
theorem ints_V {w : Wd} : ∀ {vs : List V} {ds : List D} {l : List Int}, RVs C w vs ds → intsOf ds = some l → vs = l.map V.int
  | _, _, _, .nil, e => by cases e; rfl
  | _, _, l, .cons (d := d) (ds := ds) a b, e => by
    unfold intsOf at e
    cases d with
    | int i =>
      obtain ⟨l', h1, h2⟩ := Option.map_eq_some_iff.mp (show (intsOf ds).map (i :: ·) = some l from e)
      subst h2
      rw [a.int_inv, ints_V b h1]
      rfl
    | _ => cases e
theorem maxI_spec : ∀ (r : List Int) (m : Int), (maxI m r = m ∨ maxI m r ∈ r) ∧ m ≤ maxI m r ∧ ∀ y ∈ r, y ≤ maxI m r
  | [], m => ⟨.inl rfl, Int.le_refl _, fun _ h => nomatch h⟩
  | x :: r, m => by
    have e : maxI m (x :: r) = maxI (if m < x then x else m) r := rfl
    rw [e]
    by_cases q : m < x
    · rw [if_pos q]
      obtain ⟨h1, h2, h3⟩ := maxI_spec r x
      refine ⟨.inr ?_, by omega, fun y hy => ?_⟩
      · rcases h1 with h1 | h1
        · rw [h1]; exact List.mem_cons_self ..
        · exact List.mem_cons_of_mem _ h1
      · rcases List.mem_cons.mp hy with rfl | hy
        · exact h2
        · exact h3 y hy
    · rw [if_neg q]
      obtain ⟨h1, h2, h3⟩ := maxI_spec r m
      refine ⟨?_, h2, fun y hy => ?_⟩
      · rcases h1 with h1 | h1
        · exact .inl h1
        · exact .inr (List.mem_cons_of_mem _ h1)
      · rcases List.mem_cons.mp hy with rfl | hy
        · omega
        · exact h3 y hy
/-- the built-in functions, by the callee's value -/
def bltF : Blt → Value
  | .len => .builtin "len" | .int_ => .type "int" | .list_ => .type "list" | .tuple_ => .type "tuple" | .max1 => .builtin "max" | .max2 => .builtin "max" | .min2 => .builtin "min" | .sum => .builtin "sum" | .str_ => .type "str" | .sset => .builtin "sorted" | .srt => .builtin "sorted"
theorem cr_blt (o : Blt) (c : Bool) (hK : C.K = X.K) (hc : X.calm = true) (h1 : o ≠ .srt) (h2 : o ≠ .sset) : CallR X (bltF o) (SimC C (bltV C.tg o c)) := by
  intro pins s σ H vs us Q I r g
  obtain ⟨w, ds, rfl, S, rs, P⟩ := g
  cases o with
  | srt => exact absurd rfl h1
  | sset => exact absurd rfl h2
  | str_ =>
    simp only [bltV] at P
    split at P
    · obtain ⟨v, rfl, r1⟩ := rs.one_inv
      split at P
      · rename_i hl
        exact call_str_int pins s σ w.H _ us Q I r ⟨_, by rw [r1.int_inv], hl.1, val_ok S (.str _ hl.2) P⟩
      · exact P.elim
    · rename_i z
      obtain ⟨v, rfl, r1⟩ := rs.one_inv
      cases r1 with
      | str _ h => exact SkE.call_str_str pins s σ w.H _ us Q I r ⟨z, rfl, val_ok S (.str z h) P⟩
    · obtain ⟨v, rfl, r1⟩ := rs.one_inv
      cases r1 with
      | tag h h' => exact SkE.call_str_str pins s σ w.H _ us Q I r ⟨_, rfl, val_ok S (.tag h h') P⟩
    · exact P.elim
  | len =>
    simp only [bltV] at P
    split at P
    · obtain ⟨v, rfl, r1⟩ := rs.one_inv
      split at P
      · rename_i xs e
        obtain ⟨p, ws, rfl, h1, q1⟩ := dr_lst S r1 e
        rw [← q1.length] at P
        exact call_len_seq pins s σ w.H _ us Q I r ⟨p, ws, rfl, .inl (SqL.of h1), val_ok S (.int _) P⟩
      · rename_i xs e
        obtain ⟨p, ws, rfl, h1, q1⟩ := dr_frz r1 e
        rw [← q1.length] at P
        rw [hK] at h1
        exact call_len_seq pins s σ w.H _ us Q I r ⟨p, ws, rfl, .inl h1, val_ok S (.int _) P⟩
      · rename_i xs e
        obtain ⟨p, ws, rfl, h1, q1⟩ := dr_tup r1 e
        rw [← q1.length] at P
        rw [hK] at h1
        exact call_len_seq pins s σ w.H _ us Q I r ⟨p, ws, rfl, .inr h1, val_ok S (.int _) P⟩
      · rename_i z e
        obtain ⟨rfl, o⟩ := dr_str r1 e
        split at P
        · rename_i hl
          exact call_len_str pins s σ w.H _ us Q I r ⟨z, rfl, LIM_le hl, val_ok S (.int _) P⟩
        · exact P.elim
      · exact P.elim
    · exact P.elim
  | int_ =>
    simp only [bltV] at P
    split at P
    · obtain ⟨v, rfl, r1⟩ := rs.one_inv
      exact call_int1 pins s σ w.H _ us Q I r (.inl ⟨_, by rw [r1.int_inv], val_ok S (.int _) P⟩)
    · obtain ⟨v, rfl, r1⟩ := rs.one_inv
      exact call_int1 pins s σ w.H _ us Q I r (.inr ⟨_, by rw [r1.bl_inv], val_ok S (.int _) P⟩)
    · rename_i z
      obtain ⟨v, rfl, r1⟩ := rs.one_inv
      cases r1 with
      | str _ h =>
        split at P
        · rename_i n hn
          split at P
          · rename_i hl
            exact call_int_str pins s σ w.H _ us Q I r ⟨z, n, rfl, hn, hl, val_ok S (.int _) P⟩
          · exact P.elim
        · exact P.elim
    · exact P.elim
  | list_ =>
    simp only [bltV] at P
    split at P
    · obtain ⟨v, rfl, r1⟩ := rs.one_inv
      split at P
      · rename_i xs e
        obtain ⟨p, ws, rfl, h1, q1⟩ := dr_lst S r1 e
        exact call_list_of pins s σ w.H _ us Q I r ⟨p, ws, rfl, .inl (SqL.of h1), new_lst S q1 P⟩
      · rename_i xs e
        obtain ⟨p, ws, rfl, h1, q1⟩ := dr_tup r1 e
        rw [hK] at h1
        exact call_list_of pins s σ w.H _ us Q I r ⟨p, ws, rfl, .inr h1, new_lst S q1 P⟩
      · exact P.elim
    · exact P.elim
  | tuple_ =>
    simp only [bltV] at P
    split at P
    · obtain ⟨v, rfl, r1⟩ := rs.one_inv
      split at P
      · rename_i xs e
        obtain ⟨p, ws, rfl, h1, q1⟩ := dr_lst S r1 e
        exact call_tuple_of pins s σ w.H _ us Q I r ⟨p, ws, rfl, .inl ⟨SqL.of h1, new_tup S q1 P⟩⟩
      · rename_i xs e
        obtain ⟨p, ws, rfl, h1, q1⟩ := dr_tup r1 e
        have h1' := h1
        rw [hK] at h1
        exact call_tuple_of pins s σ w.H _ us Q I r ⟨p, ws, rfl, .inr ⟨h1, val_ok S (.tup h1' q1) P⟩⟩
      · exact P.elim
    · exact P.elim
  | max1 =>
    simp only [bltV] at P
    split at P
    · obtain ⟨v, rfl, r1⟩ := rs.one_inv
      split at P
      · rename_i xs e
        obtain ⟨p, ws, rfl, h1, q1⟩ := dr_lst S r1 e
        split at P
        · rename_i i l hl
          have ew := ints_V q1 hl
          subst ew
          refine cr_max hc pins s σ w.H _ us Q I r ⟨p, i :: l, rfl, SqL.of h1, Nat.succ_pos _, fun m hm hy => ?_⟩
          obtain ⟨z1, z2, z3⟩ := maxI_spec l i
          have em : m = maxI i l := by
            refine Int.le_antisymm ?_ ?_
            · rcases List.mem_cons.mp hm with rfl | hm
              · exact z2
              · exact z3 m hm
            · rcases z1 with z1 | z1
              · rw [z1]; exact hy _ (List.mem_cons_self ..)
              · exact hy _ (List.mem_cons_of_mem _ z1)
          rw [em]
          exact val_ok S (.int _) P
        · exact P.elim
      · exact P.elim
    · exact P.elim
  | max2 =>
    simp only [bltV] at P
    split at P
    · obtain ⟨v, u, rfl, r1, r2⟩ := rs.two_inv
      exact call_max2 hc pins s σ w.H _ us Q I r ⟨_, _, by rw [r1.int_inv, r2.int_inv], val_ok S (.int _) P⟩
    · exact P.elim
  | min2 =>
    simp only [bltV] at P
    split at P
    · obtain ⟨v, u, rfl, r1, r2⟩ := rs.two_inv
      exact call_min2 hc pins s σ w.H _ us Q I r ⟨_, _, by rw [r1.int_inv, r2.int_inv], val_ok S (.int _) P⟩
    · exact P.elim
  | sum =>
    simp only [bltV] at P
    split at P
    · obtain ⟨v, rfl, r1⟩ := rs.one_inv
      split at P
      · rename_i xs e
        obtain ⟨p, ws, rfl, h1, q1⟩ := dr_lst S r1 e
        split at P
        · rename_i l hl
          have ew := ints_V q1 hl
          subst ew
          exact cr_sum hc pins s σ w.H _ us Q I r ⟨p, l, rfl, SqL.of h1, val_ok S (.int _) P⟩
        · exact P.elim
      · exact P.elim
    · exact P.elim
end
end PI

/-! PF: methods of built-in types keep step; the combinators of expressions. -/
namespace PI
open PySem PySem.Spec PyProof.Rows L2
def bmtN : Bmt → String
  | .append => "list.append" | .extend => "list.extend" | .pop0 => "list.pop" | .popAt => "list.pop" | .index => "list.index" | .count => "list.count" | .reverse => "list.reverse" | .get1 => "dict.get" | .get2 => "dict.get" | .join => "str.join" | .split => "str.split"
def bmtDone : Bmt → Bool
  | .append => true | .extend => true | .pop0 => true | .popAt => true | .reverse => true | .get1 => true | .get2 => true | .index => true | .join => true | .split => true | _ => false
def bmtT : Bmt → String
  | .get1 => "dict" | .get2 => "dict" | .join => "str" | .split => "str" | _ => "list"
open PySem.AutoSeq1 in
theorem list_extend_tup (l : Addr) (items : Array Value) (n : Nat) (b : Addr) (items2 : Array Value) (n2 : Nat) (d2 : Option Addr) (sl2 : Array (Option Value)) (hs0 : ¬(!items.isEmpty && Builtin.List.listTooLong (items.size + items2.size)) = true) (hs1 : items.size ≤ sizeLine) (hs2 : items.size + items2.size ≤ sizeLine + 1) :
    Meets (Builtin.«list.extend» ⟨[.ref l, .ref b], []⟩) (fun _ R s => s.heap.get? l = some { cls := .type "list", dict := none, data := .seq items n, slots := #[] } ∧ s.heap.get? b = some { cls := .type "tuple", dict := d2, data := .seq items2 n2, slots := sl2 } ∧ R (.ok (.ret Value.none)) { s with heap := s.heap.update l (Obj.mapSeq fun x => x ++ items2), toks := s.toks }) :=
  .of_wp fun prog w A R s h => by
    obtain ⟨hp, g, d, tk, os⟩ := s; obtain ⟨hl, hb, h⟩ := h; have f1 := AutoSeq1.idx_int; have f2 := AutoSeq1.sub_tuple_tuple; have f3 := AutoSeq1.sub_list_list; have f4 := AutoSeq1.sub_tuple_list; have f5 := AutoSeq1.sub_list_tuple;
    have hz' : (items ++ items2).size ≤ sizeLine + 1 := by rw [Array.size_append]; exact hs2
    wp_walk using (wpAny_updateSeq hl rfl (hz := hs1) (_hz' := hz')), wpAny_loadPart' hl, wpAny_loadPart' hb; exact ⟨_, rfl, h⟩
theorem strs_V {C : Txs} {w : Wd} : ∀ {vs : List V} {ds : List D} {zs : List Str}, RVs C w vs ds → strsOf C.tg ds = some zs → vs = zs.map V.str
  | _, _, _, .nil, e => by cases e; rfl
  | _, _, zs, .cons a b, e => by
    unfold strsOf at e
    split at e
    · rename_i y ey
      obtain ⟨zs', h1, h2⟩ := Option.map_eq_some_iff.mp e
      subst h2
      rw [(strOf_V a ey).1, strs_V b h1]
      rfl
    · cases e
theorem strs_RV {C : Txs} {w : Wd} : ∀ {zs : List Str}, zs.all PyData.strOk = true → RVs C w (zs.map V.str) (zs.map D.str)
  | [], _ => .nil
  | z :: zs, h => by
    rw [List.all_cons, Bool.and_eq_true] at h
    exact .cons (.str z h.1) (strs_RV h.2)
section
variable {X : Cx} {C : Txs}
/-- list.extend(a tuple) -/
theorem mt_extendT {pins : List (Addr × Obj)} {s : Shared} {σ : L2.St} {H : Hp} {l b : Addr} {xs zs : List V} {Q : VK} (I : L2.Inv X pins σ H s) (hH : H l = some (.lst xs)) (hB : SqT X.K H b zs) (hz : xs.length + zs.length ≤ sizeLine) (q : Q .non (upd H l (.lst (xs ++ zs)))) :
    wpAny (model X.prog X.w) X.A (call (.builtin "list.extend") [.ref l, .ref b]) (EP X pins σ Q) X.xe s := by
  obtain ⟨z, its, n, r, hl, e⟩ := I.lstM hH
  obtain ⟨its2, r2, ⟨o2, ho2, hc2, n2, hd2⟩, hz2⟩ := I.tuple hB
  have hl2 := r2.length
  have hsz : its.toArray.size + its2.toArray.size ≤ sizeLine := by rw [List.size_toArray, List.size_toArray]; omega
  have hlong : ¬ (!its.toArray.isEmpty && Builtin.List.listTooLong (its.toArray.size + its2.toArray.size)) = true := by
    rw [notLongL hsz, Bool.and_false]
    exact Bool.false_ne_true
  obtain ⟨c2, d2, dt2, sl2⟩ := o2
  simp only at hc2 hd2
  subst hc2 hd2
  refine call_meets PySem.F.slot_list_extend ⟨_, e, rfl⟩ PySem.F.entry_list_extend (PySem.F.args_list_extend_2 _ _)
    (list_extend_tup l its.toArray n b its2.toArray n2 d2 sl2 hlong (by rw [List.size_toArray]; omega) (by omega)) ⟨e, ho2, ?_⟩
  refine ⟨.non, _, I.lset (its' := its ++ its2) hH e (by simp) (r.append r2) ?_, rfl, q⟩
  rw [List.length_append]
  omega
theorem mr_bmt (o : Bmt) (nd : C.tg.Nodup) (hK : C.K = X.K) (hu : X.A.units + 1 < cLine) (h : bmtDone o = true) : MtR X (bmtN o) (SimM C (bmtV C.tg o)) := by
  intro pins s σ H v vs a us Q I rv r g
  obtain ⟨w, x, ds, rfl, S, r1, rs, P⟩ := g
  cases o with
  | append =>
    simp only [bmtV] at P
    split at P
    · rename_i k d
      obtain ⟨u, rfl, r2⟩ := rs.one_inv
      split at P
      · rename_i xs e
        split at P
        · rename_i hl
          have z := S.cell k
          rw [e] at z
          obtain ⟨ws, h1, q1⟩ := z
          have hk : w.st.f k ≠ .dead := by rw [e]; exact fun q => nomatch q
          have ev : v = .ref (w.ρ k) := by cases r1; rfl
          subst ev
          obtain ⟨st, S'⟩ := step_set (o := .lst (ws ++ [u])) (c := .lst (xs ++ [d])) S hk (fun w' st e => ⟨_, e, (q1.mono S st).append (.one (r2.mono S st))⟩)
          exact mt_append pins s σ w.H _ _ a us Q I rv r ⟨w.ρ k, ws, u, rfl, rfl, h1, LIM_lt (by rw [q1.length]; exact hl), P _ st S' rfl _ .non⟩
        · exact P.elim
      · exact P.elim
    · exact P.elim
  | extend =>
    simp only [bmtV] at P
    split at P
    · rename_i k d
      obtain ⟨u, rfl, r2⟩ := rs.one_inv
      split at P
      · rename_i xs ys e e2
        split at P
        · rename_i hl
          have z := S.cell k
          rw [e] at z
          obtain ⟨ws, h1, q1⟩ := z
          obtain ⟨b, zs, rfl, h2, q2⟩ := dr_lst S r2 e2
          have hk : w.st.f k ≠ .dead := by rw [e]; exact fun q => nomatch q
          have ev : v = .ref (w.ρ k) := by cases r1; rfl
          subst ev
          obtain ⟨st, S'⟩ := step_set (o := .lst (ws ++ zs)) (c := .lst (xs ++ ys)) S hk (fun w' st e => ⟨_, e, (q1.mono S st).append (q2.mono S st)⟩)
          exact mt_extend pins s σ w.H _ _ a us Q I rv r ⟨w.ρ k, b, ws, zs, rfl, rfl, h1, h2, LIM_le (by rw [q1.length, q2.length]; exact hl), P _ st S' rfl _ .non⟩
        · exact P.elim
      · rename_i xs ys e e2
        split at P
        · rename_i hl
          have z := S.cell k
          rw [e] at z
          obtain ⟨ws, h1, q1⟩ := z
          obtain ⟨b, zs, rfl, h2, q2⟩ := dr_tup r2 e2
          have hk : w.st.f k ≠ .dead := by rw [e]; exact fun q => nomatch q
          have ev : v = .ref (w.ρ k) := by cases r1; rfl
          subst ev
          obtain ⟨st, S'⟩ := step_set (o := .lst (ws ++ zs)) (c := .lst (xs ++ ys)) S hk (fun w' st e => ⟨_, e, (q1.mono S st).append (q2.mono S st)⟩)
          rw [hK] at h2
          obtain rfl : a = Value.ref (w.ρ k) := rv
          obtain ⟨u1, rfl, r3⟩ := vals1 r
          obtain rfl : u1 = Value.ref b := r3
          exact mt_extendT I h1 h2 (LIM_le (by rw [q1.length, q2.length]; exact hl)) (P _ st S' rfl _ .non)
        · exact P.elim
      · exact P.elim
    · exact P.elim
  | pop0 =>
    simp only [bmtV] at P
    split at P
    · rename_i k
      obtain rfl := rs.nil_inv
      split at P
      · rename_i xs e
        split at P
        · rename_i d hd
          have z := S.cell k
          rw [e] at z
          obtain ⟨ws, h1, q1⟩ := z
          have hk : w.st.f k ≠ .dead := by rw [e]; exact fun q => nomatch q
          have ev : v = .ref (w.ρ k) := by cases r1; rfl
          subst ev
          obtain ⟨u, h2, r2⟩ := q1.get hd
          rw [← q1.length] at h2
          obtain ⟨st, S'⟩ := step_set (o := .lst ws.dropLast) (c := .lst xs.dropLast) S hk (fun w' st e => ⟨_, e, (q1.mono S st).dropLast⟩)
          exact mt_pop pins s σ w.H _ _ a us Q I rv r ⟨w.ρ k, ws, u, rfl, rfl, h1, h2, P _ st S' rfl _ (r2.mono S st)⟩
        · exact P.elim
      · exact P.elim
    · exact P.elim
  | popAt =>
    simp only [bmtV] at P
    split at P
    · rename_i k i
      obtain ⟨ui, rfl, ri⟩ := rs.one_inv
      split at P
      · rename_i xs e
        split at P
        · rename_i j hj
          split at P
          · rename_i d hd
            have z := S.cell k
            rw [e] at z
            obtain ⟨ws, h1, q1⟩ := z
            have hk : w.st.f k ≠ .dead := by rw [e]; exact fun q => nomatch q
            have ev : v = .ref (w.ρ k) := by cases r1; rfl
            subst ev
            obtain ⟨u, h2, r2⟩ := q1.get hd
            obtain ⟨g1, g2, g3, g4⟩ := ixN_seq hj
            rw [← q1.length] at g1
            have hz := (show ObjOk X.prog X.w w.H s.heap (w.ρ k) (.lst ws) from I.hok _ _ h1).1
            rw [q1.length, sizeLine_eq] at hz
            obtain ⟨st, S'⟩ := step_set (o := .lst (ws.eraseIdx j)) (c := .lst (xs.eraseIdx j)) S hk (fun w' st e => ⟨_, e, (q1.mono S st).eraseIdx j⟩)
            exact mt_popAt pins s σ w.H _ _ a us Q I rv r ⟨w.ρ k, ws, i, j, u, rfl, by rw [ri.int_inv], h1, by omega, by omega, g1, h2, P _ st S' rfl _ (r2.mono S st)⟩
          · exact P.elim
        · exact P.elim
      · exact P.elim
    · exact P.elim
  | reverse =>
    simp only [bmtV] at P
    split at P
    · rename_i k
      obtain rfl := rs.nil_inv
      split at P
      · rename_i xs e
        have z := S.cell k
        rw [e] at z
        obtain ⟨ws, h1, q1⟩ := z
        have hk : w.st.f k ≠ .dead := by rw [e]; exact fun q => nomatch q
        have ev : v = .ref (w.ρ k) := by cases r1; rfl
        subst ev
        obtain ⟨st, S'⟩ := step_set (o := .lst ws.reverse) (c := .lst xs.reverse) S hk (fun w' st e => ⟨_, e, (q1.mono S st).reverse⟩)
        exact mt_reverse pins s σ w.H _ _ a us Q I rv r ⟨w.ρ k, ws, rfl, rfl, h1, P _ st S' rfl _ .non⟩
      · exact P.elim
    · exact P.elim
  | get1 =>
    simp only [bmtV] at P
    split at P
    · rename_i kvs k e
      obtain ⟨u, rfl, r2⟩ := rs.one_inv
      obtain ⟨p, gs, rfl, h1, q1⟩ := dr_dct S r1 e
      split at P
      · rename_i hk
        obtain ⟨ky, ek, rfl⟩ := keyD_of r2 hk
        have g := DGet.k (k := ky) h1
        obtain ⟨u1, rfl, r3⟩ := vals1 r
        obtain rfl : a = Value.ref p := rv
        have q : Q ((valV gs ky).getD .non) w.H := by
          rcases KR.look nd ek q1 with ⟨v', d', l1, l2, l3⟩ | ⟨l1, l2⟩
          · rw [l1] at P; rw [l2]; exact val_ok S l3 P
          · rw [l1] at P; rw [l2]; exact val_ok S .non P
        exact d_get1 hu I g r3 fun w' s3 I3 rw' => ⟨_, w.H, I3, rw', q⟩
      · exact P.elim
    · exact P.elim
  | get2 =>
    simp only [bmtV] at P
    split at P
    · rename_i kvs k dv e
      obtain ⟨u, u2, rfl, r2, r2'⟩ := rs.two_inv
      obtain ⟨p, gs, rfl, h1, q1⟩ := dr_dct S r1 e
      split at P
      · rename_i hk
        obtain ⟨ky, ek, rfl⟩ := keyD_of r2 hk
        have g := DGet.k (k := ky) h1
        obtain ⟨u1, u2', rfl, r3, r4⟩ := vals2 r
        obtain rfl : a = Value.ref p := rv
        have q : Q ((valV gs ky).getD u2) w.H := by
          rcases KR.look nd ek q1 with ⟨v', d', l1, l2, l3⟩ | ⟨l1, l2⟩
          · rw [l1] at P; rw [l2]; exact val_ok S l3 P
          · rw [l1] at P; rw [l2]; exact val_ok S r2' P
        exact d_get2 hu I g r3 r4 fun w' s3 I3 rw' => ⟨_, w.H, I3, rw', q⟩
      · exact P.elim
    · exact P.elim
  | join =>
    have jn : ∀ (b : Str) (vs2 : List V) (p : Addr) (ds2 : List D), v = .str b → vs = [.ref p] → (SqL X.K w.H p vs2 ∨ SqT X.K w.H p vs2) → RVs C w vs2 ds2 → Pst C w (joinV C.tg b ds2 w.st) (WV C Q) → wpAny (model X.prog X.w) X.A (call (.builtin "str.join") (a :: us)) (EP X pins σ Q) X.xe s := fun b vs2 p ds2 ev evs hp rs2 P => by
      subst ev evs
      unfold joinV at P
      split at P
      · rename_i zs ez
        have e2 := strs_V rs2 ez
        subst e2
        split at P
        · rename_i hl
          exact mt_join pins s σ w.H _ _ a us Q I rv r ⟨b, p, zs, rfl, rfl, hp, Nat.le_trans hl.1 (by decide), val_ok S (.str _ hl.2) P⟩
        · exact P.elim
      · exact P.elim
    simp only [bmtV] at P
    split at P
    · rename_i b d eb
      obtain ⟨u, rfl, r2⟩ := rs.one_inv
      obtain ⟨ev, _⟩ := strOf_V r1 eb
      split at P
      · rename_i ys e
        obtain ⟨p, ws, rfl, h1, q1⟩ := dr_lst S r2 e
        exact jn b ws p ys ev rfl (.inl (SqL.of h1)) q1 P
      · rename_i ys e
        obtain ⟨p, ws, rfl, h1, q1⟩ := dr_tup r2 e
        rw [hK] at h1
        exact jn b ws p ys ev rfl (.inr h1) q1 P
      · exact P.elim
    · exact P.elim
  | split =>
    simp only [bmtV] at P
    split at P
    · rename_i b d eb
      obtain ⟨u, rfl, r2⟩ := rs.one_inv
      obtain ⟨ev, _⟩ := strOf_V r1 eb
      subst ev
      split at P
      · rename_i z ez
        obtain ⟨eu, _⟩ := strOf_V r2 ez
        subst eu
        split at P
        · rename_i hl
          exact mt_split pins s σ w.H _ _ a us Q I rv r ⟨b, z, rfl, rfl, hl.1, LIM_le hl.2.1, new_lst (c := false) S (strs_RV hl.2.2) P⟩
        · exact P.elim
      · exact P.elim
    · exact P.elim
  | index =>
    simp only [bmtV] at P
    split at P
    · rename_i ys d e
      obtain ⟨u, rfl, r2⟩ := rs.one_inv
      obtain ⟨p, ws, rfl, h1, q1⟩ := dr_lst S r1 e
      split at P
      · rename_i hf
        split at P
        · rename_i j hj
          obtain ⟨hlt, hp, hno⟩ := List.findIdx?_eq_some_iff_getElem.mp hj
          obtain ⟨z, e1, rz⟩ := q1.get (List.getElem?_eq_getElem hlt)
          have fz : flatD ys[j] = true := List.all_eq_true.mp hf.2 _ (List.getElem_mem hlt)
          refine mt_index pins s σ w.H _ _ a us Q I rv r ⟨p, ws, u, j, z, rfl, rfl, SqL.of h1, flat_V r2 hf.1, flats_V q1 hf.2, e1, ?_, fun m z' hm ez' => ?_, val_ok S (.int _) P⟩
          · rw [eqV_D nd rz r2 fz hf.1]; exact hp
          · obtain ⟨d', e2, rz'⟩ := q1.get' ez'
            have hlm : m < ys.length := (List.getElem?_eq_some_iff.mp e2).1
            have e3 : ys[m] = d' := (List.getElem?_eq_some_iff.mp e2).2
            have fz' : flatD d' = true := by rw [← e3]; exact List.all_eq_true.mp hf.2 _ (List.getElem_mem hlm)
            rw [eqV_D nd rz' r2 fz' hf.1, ← e3]
            simpa using hno m hm
        · exact P.elim
      · exact P.elim
    · exact P.elim
  | _ => cases h
theorem recv_ty {o : Bmt} {w : Wd} {v : V} {x : D} (S : SR C w) (r : RV C w v x) (hK : C.K = X.K) (h : recvOk o x w.st = true) : tyV X.K (bmtT o) v w.H := by
  have L : ∀ {xs}, deref w.st x = .lst xs → tyV X.K "list" v w.H := fun {xs} e => by
    obtain ⟨p, vs, rfl, h1, _⟩ := dr_lst S r e
    exact .inl ⟨rfl, vs, SqL.of h1⟩
  have Dc : ∀ {xs}, deref w.st x = .dct xs → tyV X.K "dict" v w.H := fun {xs} e => by
    obtain ⟨p, vs, rfl, h1, _⟩ := dr_dct S r e
    exact .inr (.inr (.inl ⟨rfl, .inl ⟨vs, h1⟩⟩))
  cases o with
  | get1 =>
    simp only [recvOk] at h
    split at h
    · rename_i e; exact Dc e
    · cases h
  | get2 =>
    simp only [recvOk] at h
    split at h
    · rename_i e; exact Dc e
    · cases h
  | join =>
    simp only [recvOk] at h
    split at h
    · cases r; exact rfl
    · cases r; exact rfl
    · cases h
  | split =>
    simp only [recvOk] at h
    split at h
    · cases r; exact rfl
    · cases r; exact rfl
    · cases h
  | _ =>
    simp only [recvOk] at h
    split at h
    · rename_i e; exact L e
    · cases h
end

/-! ### expressions -/
theorem PE.imp {X : Cx} {e : Expr} {t t' : TE} (h : PE X e t) (k : ∀ σ H Q, t' σ H Q → t σ H Q) : PE X e t' := ⟨fun pins s σ H Q I q => h.run pins s σ H Q I (k σ H Q q)⟩
theorem PT.imp {X : Cx} {e : Expr} {t t' : TT} (h : PT X e t) (k : ∀ σ H Q, t' σ H Q → t σ H Q) : PT X e t' := ⟨fun pins s σ H Q I q => h.run pins s σ H Q I (k σ H Q q)⟩
theorem PW.imp {X : Cx} {e : Expr} {t t' : TT} (h : PW X e t) (k : ∀ σ H Q, t' σ H Q → t σ H Q) : PW X e t' := ⟨fun wh pins s σ H Q I q => h.run wh pins s σ H Q I (k σ H Q q)⟩
theorem PA.imp {X : Cx} {es : List Expr} {t t' : TA} (h : PA X es t) (k : ∀ σ H Q, t' σ H Q → t σ H Q) : PA X es t' := ⟨fun pos pins s σ H Q I q => h.run pos pins s σ H Q I (k σ H Q q)⟩
section
variable {C : Txs} {σ : L2.St} {H : Hp} {ma mb mc : Env → Store → R D}
theorem sim_bin {g : D → D → Store → R D} {Q : VK} (h : SimE C (fun env s => (ma env s).bind fun x s1 => (mb env s1).bind fun y s2 => g x y s2) σ H Q) : tOp (SimR2 C g) (SimE C ma) (SimE C mb) σ H Q := by
  obtain ⟨w, env, rfl, S, ER, P⟩ := h
  refine ⟨w, env, rfl, S, ER, P.bind.mono fun w1 x p1 S1 h1 v rv => ?_⟩
  have E1 := ER.mono S p1
  refine ⟨w1, env, rfl, S1, E1, h1.bind.mono fun w2 y p2 S2 h2 u ru => ?_⟩
  exact ⟨w2, x, y, rfl, S2, rv.mono S1 p2, ru, h2⟩
/-- what a value-taking combinator reads -/
theorem sim_then {k : D → Store → R D} {Q : VK} (h : SimE C (fun env s => (ma env s).bind fun x s1 => k x s1) σ H Q) : SimE C ma σ H fun v H1 => ∃ w x, w.H = H1 ∧ SR C w ∧ RV C w v x ∧ Pst C w (k x w.st) (WV C Q) := by
  obtain ⟨w, env, rfl, S, ER, P⟩ := h
  exact ⟨w, env, rfl, S, ER, P.bind.mono fun w1 x p1 S1 h1 v rv => ⟨w1, x, rfl, S1, rv, h1⟩⟩
theorem sim_cond {kt kf : Env → Store → R D} {Q : VK} (h : SimE C (fun env s => (ma env s).bind fun x s1 => boolK x s1 (kt env) (kf env)) σ H Q) :
    SimT C ma σ H fun c H1 => if c = true then SimE C kt σ H1 Q else SimE C kf σ H1 Q := by
  obtain ⟨w, env, rfl, S, ER, P⟩ := h
  refine ⟨w, env, rfl, S, ER, P.bind.mono fun w1 x p1 S1 h1 => ?_⟩
  cases x with
  | bl b =>
    refine ⟨b, rfl, ?_⟩
    cases b with
    | true => exact ⟨w1, env, rfl, S1, ER.mono S p1, h1⟩
    | false => exact ⟨w1, env, rfl, S1, ER.mono S p1, h1⟩
  | _ => exact h1.elim
theorem sim_condT {kt kf : Env → Store → R D} {Q : Bool → Hp → Prop} (h : SimT C (fun env s => (ma env s).bind fun x s1 => boolK x s1 (kt env) (kf env)) σ H Q) :
    SimT C ma σ H fun c H1 => if c = true then SimT C kt σ H1 Q else SimT C kf σ H1 Q := by
  obtain ⟨w, env, rfl, S, ER, P⟩ := h
  refine ⟨w, env, rfl, S, ER, P.bind.mono fun w1 x p1 S1 h1 => ?_⟩
  cases x with
  | bl b =>
    refine ⟨b, rfl, ?_⟩
    cases b with
    | true => exact ⟨w1, env, rfl, S1, ER.mono S p1, h1⟩
    | false => exact ⟨w1, env, rfl, S1, ER.mono S p1, h1⟩
  | _ => exact h1.elim
theorem sim_bl {b : Bool} {Q : VK} (h : SimE C (fun env s => .ok (.bl b) s) σ H Q) : Q (.bl b) H := by
  obtain ⟨w, env, rfl, S, ER, P⟩ := h
  exact val_ok S (.bl b) P
theorem sim_blT {b : Bool} {Q : Bool → Hp → Prop} (h : SimT C (fun env s => .ok (.bl b) s) σ H Q) : Q b H := by
  obtain ⟨w, env, rfl, S, ER, P⟩ := h
  obtain ⟨c, e, q⟩ := P.here S
  cases e
  exact q
end
section
variable {X : Cx} {C : Txs} {a b c : Expr} {ma mb mc : Env → Store → R D} {pos : Pos}
theorem pe_var' {i : Nat} {x : Str} {p : Pos} (hN : X.N[i]? = some x) (hv : Vis X.env.scope x) (hd : (x == ("__debug__" : Str)) = false) (hcd : (x == ("__classdict__" : Str)) = false) {G : GE} : PE X (.Name x p) (SimE C (evalE G (.var i))) := by
  refine PE.imp (pe_var hN hv hd hcd) fun σ H Q h => ?_
  obtain ⟨w, env, rfl, S, ER, P⟩ := h
  unfold evalE at P
  split at P
  · rename_i d e
    obtain ⟨v, e1, r⟩ := ER.at_ i d e
    exact ⟨v, e1, val_ok S r P⟩
  · exact P.elim
theorem pe_frz' {i : Nat} {x : Str} {p : Pos} (hN : X.N[i]? = some x) (hv : Vis X.env.scope x) (hd : (x == ("__debug__" : Str)) = false) (hcd : (x == ("__classdict__" : Str)) = false) {G : GE} : PE X (.Name x p) (SimE C (evalE G (.frz i))) := by
  refine PE.imp (pe_var hN hv hd hcd) fun σ H Q h => ?_
  obtain ⟨w, env, rfl, S, ER, P⟩ := h
  unfold evalE at P
  split at P
  · rename_i d e
    obtain ⟨v, e1, r⟩ := ER.at_ i d e
    refine ⟨v, e1, ?_⟩
    unfold frzV at P
    split at P
    · rename_i k
      split at P
      · rename_i xs ex
        have z := S.cell k
        rw [ex] at z
        obtain ⟨vs, h1, q1⟩ := z
        obtain ⟨st, S', nl⟩ := step_dead (k := k) S (by rw [ex]; exact fun q => nomatch q)
        have ev : v = .ref (w.ρ k) := by cases r; rfl
        subst ev
        exact P _ st S' rfl _ (.lst (vs := vs) h1 nl (q1.mono S st))
      · exact P.elim
    · exact P.elim
  · exact P.elim
theorem pe_bin' {op : Operator} {g : D → D → Store → R D} (ho : OpR X (binaryOp op) (SimR2 C g)) (ha : PE X a (SimE C ma)) (hb : PE X b (SimE C mb)) : PE X (.BinOp a op b pos) (SimE C fun env s => (ma env s).bind fun x s1 => (mb env s1).bind fun y s2 => g x y s2) :=
  PE.imp (pe_op ho ha hb) fun _ _ _ h => sim_bin h
theorem pe_cmp' {op : CmpOp} {g : D → D → Store → R D} (ho : OpR X (compareOp op) (SimR2 C g)) (ha : PE X a (SimE C ma)) (hb : PE X b (SimE C mb)) (hm : behindInMarks op b = false) : PE X (.Compare a [op] [b] pos) (SimE C fun env s => (ma env s).bind fun x s1 => (mb env s1).bind fun y s2 => g x y s2) :=
  PE.imp (pe_cmpR ho ha hb hm) fun _ _ _ h => sim_bin h
theorem pt_cmp' {op : CmpOp} {g : D → D → Store → R D} (ho : OpR X (compareOp op) (SimR2 C g)) (ha : PE X a (SimE C ma)) (hb : PE X b (SimE C mb)) (hm : behindInMarks op b = false) : PT X (.Compare a [op] [b] pos) (SimT C fun env s => (ma env s).bind fun x s1 => (mb env s1).bind fun y s2 => g x y s2) :=
  PT.imp (pt_cmpR ho ha hb hm) fun _ _ _ h => sim_bin h.e
theorem sim_chain {σ : L2.St} {H : Hp} {g g' : D → D → Store → R D} {Q : VK} (h : SimE C (fun env s => (ma env s).bind fun x s1 => (mb env s1).bind fun y s2 => (g x y s2).bind fun z s3 => boolK z s3 (fun s3 => (mc env s3).bind fun w s4 => g' y w s4) (fun s3 => .ok (.bl false) s3)) σ H Q) :
    tChain (SimR2 C g) (SimR2 C g') (SimE C ma) (SimE C mb) (SimE C mc) σ H Q := by
  obtain ⟨w, env, rfl, S, ER, P⟩ := h
  refine ⟨w, env, rfl, S, ER, P.bind.mono fun w1 x p1 S1 h1 v rv => ?_⟩
  have E1 := ER.mono S p1
  refine ⟨w1, env, rfl, S1, E1, h1.bind.mono fun w2 y p2 S2 h2 u ru => ?_⟩
  refine ⟨w2, x, y, rfl, S2, rv.mono S1 p2, ru, h2.bind.mono fun w3 z p3 S3 h3 zz rz => ?_⟩
  cases z with
  | bl k =>
    refine ⟨k, rz.bl_inv, ?_⟩
    cases k with
    | true =>
      show SimE C mc σ w3.H fun y' H4 => SimR2 C g' u y' H4 Q
      have h3 : Pst C w3 ((mc env w3.st).bind fun w s4 => g' y w s4) (WV C Q) := h3
      refine ⟨w3, env, rfl, S3, (E1.mono S1 p2).mono S2 p3, h3.bind.mono fun w4 q p4 S4 h4 qq rq => ?_⟩
      exact ⟨w4, y, q, rfl, S4, (ru.mono S2 p3).mono S3 p4, rq, h4⟩
    | false =>
      show Q (.bl false) w3.H
      exact val_ok S3 (.bl false) h3
  | _ => exact h3.elim
end
end PI

/-! PG: combinators of expressions: tests, arguments, displays, calls, methods, fields. -/
namespace PI
open PySem PySem.Spec PyProof.Rows L2
/-! ### syntax -/
def notStar : Expr → Bool
  | .Starred _ _ => false
  | _ => true
def notComp : Expr → Bool
  | .ListComp _ _ _ _ => false
  | .SetComp _ _ _ _ => false
  | .DictComp _ _ _ _ _ => false
  | _ => true
def notSet : Expr → Bool
  | .Set _ _ _ => false
  | _ => true
def notSlice : Expr → Bool
  | .Slice _ _ _ _ => false
  | _ => true
/-- no zero-argument call of a name (super) -/
def noSup : Expr → Bool
  | .Call (.Name _ _) [] [] _ => false
  | _ => true
/-- a test that is its value's truth -/
def plainT : Expr → Bool
  | .UnaryOp .Not _ _ => false
  | .BoolOp _ _ _ => false
  | .IfExp _ _ _ _ => false
  | .Compare _ _ _ _ => false
  | _ => true
theorem starEach_cons {e : Expr} (h : notStar e = true) (es : List Expr) (env : PySem.Env) : starEach (e :: es) env = (false, eval e env) :: starEach es env := by
  cases e <;> first | rfl | cases h
theorem star_any : ∀ {es : List Expr}, es.all notStar = true → ∀ (pos : Pos) (env : PySem.Env), (backTo pos (starEach es env)).any (·.1) = false
  | [], _, _, _ => rfl
  | e :: es, h, pos, env => by
    rw [List.all_cons, Bool.and_eq_true] at h
    rw [starEach_cons h.1]
    show (false || (backTo pos (starEach es env)).any (·.1)) = false
    rw [star_any h.2, Bool.or_false]
theorem star_all : ∀ {es : List Expr}, es.all notStar = true → ∀ (pos : Pos) (env : PySem.Env), (backTo pos (starEach es env)).all (fun x => !x.1) = true
  | [], _, _, _ => rfl
  | e :: es, h, pos, env => by
    rw [List.all_cons, Bool.and_eq_true] at h
    rw [starEach_cons h.1]
    show (true && (backTo pos (starEach es env)).all (fun x => !x.1)) = true
    rw [star_all h.2, Bool.and_true]
theorem attr_base {o : Expr} (h : noSup o = true) (m : Str) (env : PySem.Env) : attributeBase o m env (eval o env) = eval o env := by
  unfold attributeBase
  split
  · cases h
  · rfl
theorem isTrue_of {e : Expr} (h : plainT e = true) (env : PySem.Env) (whole : Sem Value) : isTrue e env whole = (do let v ← whole; standAt e.pos; holding [v] (truthy v)) := by
  cases e with
  | UnaryOp op x pos => cases op <;> first | rfl | cases h
  | _ => first | rfl | cases h
theorem marks_of {b : Expr} (h : notSet b = true) (op : CmpOp) : behindInMarks op b = false := by
  cases b <;> first | rfl | cases h
theorem plainIx_of {b : Expr} (h : notSlice b = true) : PlainIx b := by
  intro o i
  cases b <;> first | rfl | cases h
theorem swaps_of {e : Expr} (h : notComp e = true) (t : Option Expr) (l : Nat) (env : PySem.Env) : swapsWith e t l env = pure false := by
  cases e <;> first | rfl | cases h
theorem lastMarks_of {b c : Expr} (h : notSet c = true) (o p : CmpOp) : lastMarks [o, p] [b, c] = false := marks_of h p
theorem folded_of {e : Expr} (h : notSet e = true) (env : PySem.Env) (x : Value) : foldedSetIterable e env x = pure x := by
  cases e <;> first | rfl | cases h

section
variable {X : Cx} {C : Txs} {a b c : Expr} {ma mb mc : Env → Store → R D} {pos : Pos}
/-! ### tests -/
theorem pt_plain (h : PE X a (SimE C ma)) (hp : plainT a = true) : PT X a (SimT C ma) :=
  PT.imp (pt_val h (isTrue_of hp X.env)) fun _ _ _ q => q.e
theorem pe_and' {rest : List Expr} (ha : PE X a (SimE C ma)) (hb : PE X (.BoolOp .And (b :: rest) pos) (SimE C mb)) : PE X (.BoolOp .And (a :: b :: rest) pos) (SimE C fun env s => (ma env s).bind fun x s1 => boolK x s1 (fun s => mb env s) (fun s => .ok (.bl false) s)) := by
  refine PE.imp (pe_and ha hb) fun σ H Q h => ?_
  obtain ⟨w, env, rfl, S, ER, P⟩ := h
  refine ⟨w, env, rfl, S, ER, P.bind.mono fun w1 x p1 S1 h1 v rv => ?_⟩
  cases x with
  | bl k =>
    refine ⟨k, rv.bl_inv, ?_⟩
    cases k with
    | true => exact ⟨w1, env, rfl, S1, ER.mono S p1, h1⟩
    | false => exact val_ok S1 (.bl false) h1
  | _ => exact h1.elim
theorem pe_or' {rest : List Expr} (ha : PE X a (SimE C ma)) (hb : PE X (.BoolOp .Or (b :: rest) pos) (SimE C mb)) : PE X (.BoolOp .Or (a :: b :: rest) pos) (SimE C fun env s => (ma env s).bind fun x s1 => boolK x s1 (fun s => .ok (.bl true) s) (fun s => mb env s)) := by
  refine PE.imp (pe_or ha hb) fun σ H Q h => ?_
  obtain ⟨w, env, rfl, S, ER, P⟩ := h
  refine ⟨w, env, rfl, S, ER, P.bind.mono fun w1 x p1 S1 h1 v rv => ?_⟩
  cases x with
  | bl k =>
    refine ⟨k, rv.bl_inv, ?_⟩
    cases k with
    | false => exact ⟨w1, env, rfl, S1, ER.mono S p1, h1⟩
    | true => exact val_ok S1 (.bl true) h1
  | _ => exact h1.elim
theorem pw_and' {rest : List Expr} (ha : PT X a (SimT C ma)) (hb : PW X (.BoolOp .And (b :: rest) pos) (SimT C mb)) : PW X (.BoolOp .And (a :: b :: rest) pos) (SimT C fun env s => (ma env s).bind fun x s1 => boolK x s1 (fun s => mb env s) (fun s => .ok (.bl false) s)) := by
  refine PW.imp (pw_and ha hb) fun σ H Q h => ?_
  obtain ⟨w, env, rfl, S, ER, P⟩ := sim_condT (kt := mb) (kf := fun _ s => .ok (.bl false) s) h
  refine ⟨w, env, rfl, S, ER, P.mono fun w1 x p1 S1 ⟨k, e, h1⟩ => ⟨k, e, ?_⟩⟩
  cases k with
  | true => exact h1
  | false => exact sim_blT h1
theorem pw_or' {rest : List Expr} (ha : PT X a (SimT C ma)) (hb : PW X (.BoolOp .Or (b :: rest) pos) (SimT C mb)) : PW X (.BoolOp .Or (a :: b :: rest) pos) (SimT C fun env s => (ma env s).bind fun x s1 => boolK x s1 (fun s => .ok (.bl true) s) (fun s => mb env s)) := by
  refine PW.imp (pw_or ha hb) fun σ H Q h => ?_
  obtain ⟨w, env, rfl, S, ER, P⟩ := sim_condT (kt := fun _ s => .ok (.bl true) s) (kf := mb) h
  refine ⟨w, env, rfl, S, ER, P.mono fun w1 x p1 S1 ⟨k, e, h1⟩ => ⟨k, e, ?_⟩⟩
  cases k with
  | false => exact h1
  | true => exact sim_blT h1
theorem pe_not' (ha : PE X a (SimE C ma)) : PE X (.UnaryOp .Not a pos) (SimE C fun env s => (ma env s).bind fun x s1 => boolK x s1 (fun s => .ok (.bl false) s) (fun s => .ok (.bl true) s)) := by
  refine PE.imp (pe_not ha) fun σ H Q h => ?_
  obtain ⟨w, env, rfl, S, ER, P⟩ := h
  refine ⟨w, env, rfl, S, ER, P.bind.mono fun w1 x p1 S1 h1 v rv => ?_⟩
  cases x with
  | bl k =>
    refine ⟨k, rv.bl_inv, ?_⟩
    cases k with
    | false => exact val_ok S1 (.bl true) h1
    | true => exact val_ok S1 (.bl false) h1
  | _ => exact h1.elim
theorem pt_not' (ha : PT X a (SimT C ma)) : PT X (.UnaryOp .Not a pos) (SimT C fun env s => (ma env s).bind fun x s1 => boolK x s1 (fun s => .ok (.bl false) s) (fun s => .ok (.bl true) s)) := by
  refine PT.imp (pt_not ha) fun σ H Q h => ?_
  obtain ⟨w, env, rfl, S, ER, P⟩ := sim_condT (kt := fun _ s => .ok (.bl false) s) (kf := fun _ s => .ok (.bl true) s) h
  refine ⟨w, env, rfl, S, ER, P.mono fun w1 x p1 S1 ⟨k, e, h1⟩ => ⟨k, e, ?_⟩⟩
  cases k with
  | false => exact sim_blT h1
  | true => exact sim_blT h1
theorem pe_ite' (hc : PT X c (SimT C mc)) (ha : PE X a (SimE C ma)) (hb : PE X b (SimE C mb)) : PE X (.IfExp c a b pos) (SimE C fun env s => (mc env s).bind fun x s1 => boolK x s1 (fun s => ma env s) (fun s => mb env s)) :=
  PE.imp (pe_ifExp hc ha hb) fun _ _ _ h => sim_cond h
theorem pe_chain' {op op' : CmpOp} {g g' : D → D → Store → R D} (ho : OpR X (compareOp op) (SimR2 C g)) (ho' : OpR X (compareOp op') (SimR2 C g')) (ha : PE X a (SimE C ma)) (hb : PE X b (SimE C mb)) (hc : PE X c (SimE C mc)) (hm : notSet c = true) :
    PE X (.Compare a [op, op'] [b, c] pos) (SimE C fun env s => (ma env s).bind fun x s1 => (mb env s1).bind fun y s2 => (g x y s2).bind fun z s3 => boolK z s3 (fun s3 => (mc env s3).bind fun w s4 => g' y w s4) (fun s3 => .ok (.bl false) s3)) :=
  PE.imp (pe_chain ho ho' ha hb hc (lastMarks_of hm _ _)) fun _ _ _ h => sim_chain h
theorem pt_chain' {op op' : CmpOp} {g g' : D → D → Store → R D} (ho : OpR X (compareOp op) (SimR2 C g)) (ho' : OpR X (compareOp op') (SimR2 C g')) (ha : PE X a (SimE C ma)) (hb : PE X b (SimE C mb)) (hc : PE X c (SimE C mc)) (hm : notSet c = true) :
    PT X (.Compare a [op, op'] [b, c] pos) (SimT C fun env s => (ma env s).bind fun x s1 => (mb env s1).bind fun y s2 => (g x y s2).bind fun z s3 => boolK z s3 (fun s3 => (mc env s3).bind fun w s4 => g' y w s4) (fun s3 => .ok (.bl false) s3)) :=
  PT.imp (pt_chain ho ho' ha hb hc (lastMarks_of hm _ _)) fun _ _ _ h => sim_chain h.e
/-! ### arguments, displays -/
variable {es : List Expr} {mas : Env → Store → R (List D)}
theorem pa_nil' : PA X [] (SimA C fun _ s => .ok [] s) := PA.imp pa_nil fun σ H Q h => by
  obtain ⟨w, env, rfl, S, ER, P⟩ := h
  exact P.here S [] .nil
theorem pa_cons' (ha : PE X a (SimE C ma)) (hr : PA X es (SimA C mas)) (hs : notStar a = true) : PA X (a :: es) (SimA C fun env s => (ma env s).bind fun d s1 => (mas env s1).bind fun ds s2 => .ok (d :: ds) s2) :=
  PA.imp (pa_cons ha hr (starEach_cons hs es X.env)) fun σ H Q h => by
    obtain ⟨w, env, rfl, S, ER, P⟩ := h
    refine ⟨w, env, rfl, S, ER, P.bind.mono fun w1 x p1 S1 h1 v rv => ?_⟩
    refine ⟨w1, env, rfl, S1, ER.mono S p1, h1.bind.mono fun w2 ds p2 S2 h2 vs rs => ?_⟩
    exact h2.here S2 (v :: vs) (.cons (rv.mono S1 p2) rs)
theorem RV.tagV {w : Wd} {v : V} {d : D} (h : RV C w v d) : RV C w v (PI.tagV C.tg d) := by
  unfold PI.tagV
  split
  · rename_i x
    split
    · rename_i n hn
      cases h with
      | str _ ho =>
        obtain ⟨hlt, hp, _⟩ := List.findIdx?_eq_some_iff_getElem.mp hn
        have e : C.tg[n] = x := by simpa using hp
        exact .tag (by rw [List.getElem?_eq_getElem hlt, e]) ho
    · exact h
  · exact h
theorem RVs.tagHd {w : Wd} {vs : List V} {ds : List D} (h : RVs C w vs ds) : RVs C w vs (PI.tagHd C.tg ds) := by
  cases h with
  | nil => exact .nil
  | cons a b => exact .cons a.tagV b
theorem pe_tupW' {k : Nat} (h : PA X es (SimA C mas)) (hl : es.length ≤ 1000) (hlen : ∀ env s ds s', mas env s = .ok ds s' → ds.length = es.length) : PE X (.Tuple es k pos) (SimE C fun env s => (mas env s).bind fun ds s1 => .ok (.tup (tagHd C.tg ds)) s1) :=
  PE.imp (pe_tup h) fun σ H Q h => by
    obtain ⟨w, env, rfl, S, ER, P⟩ := h
    refine ⟨w, env, rfl, S, ER, ?_⟩
    have P : Pst C w ((mas env w.st).bind fun ds s1 => R.ok (D.tup (tagHd C.tg ds)) s1) (WV C Q) := P
    cases e : mas env w.st with
    | ok ds s' =>
      rw [e] at P
      intro w1 p1 S1 e1 vs rs
      subst e1
      have q : Pst C w1 (.ok (.tup (tagHd C.tg ds)) w1.st) (WV C Q) := Pst.later p1 P
      exact ⟨LIM_le (by rw [rs.length, hlen _ _ _ _ e]; exact Nat.le_trans hl (by decide)), new_tup S1 rs.tagHd q⟩
    | stuck => rw [e] at P; exact P
    | exc x s' => rw [e] at P; exact P
theorem pe_tup' {k : Nat} (h : PA X es (SimA C mas)) (hl : es.length ≤ 1000) (hlen : ∀ env s ds s', mas env s = .ok ds s' → ds.length = es.length) : PE X (.Tuple es k pos) (SimE C fun env s => (mas env s).bind fun ds s1 => .ok (.tup ds) s1) :=
  PE.imp (pe_tup h) fun σ H Q h => by
    obtain ⟨w, env, rfl, S, ER, P⟩ := h
    refine ⟨w, env, rfl, S, ER, ?_⟩
    have P : Pst C w ((mas env w.st).bind fun ds s1 => R.ok (D.tup ds) s1) (WV C Q) := P
    cases e : mas env w.st with
    | ok ds s' =>
      rw [e] at P
      intro w1 p1 S1 e1 vs rs
      subst e1
      have q : Pst C w1 (.ok (.tup ds) w1.st) (WV C Q) := Pst.later p1 P
      exact ⟨LIM_le (by rw [rs.length, hlen _ _ _ _ e]; exact Nat.le_trans hl (by decide)), new_tup S1 rs q⟩
    | stuck => rw [e] at P; exact P
    | exc e' s' => rw [e] at P; exact P
theorem pe_lst' {k : Bool} (h : PA X es (SimA C mas)) (hl : es.length ≤ 1000) (hlen : ∀ env s ds s', mas env s = .ok ds s' → ds.length = es.length) : PE X (.List es pos) (SimE C fun env s => (mas env s).bind fun ds s1 => newL k ds s1) :=
  PE.imp (pe_lst h) fun σ H Q h => by
    obtain ⟨w, env, rfl, S, ER, P⟩ := h
    refine ⟨w, env, rfl, S, ER, ?_⟩
    have P : Pst C w ((mas env w.st).bind fun ds s1 => newL k ds s1) (WV C Q) := P
    cases e : mas env w.st with
    | ok ds s' =>
      rw [e] at P
      intro w1 p1 S1 e1 vs rs
      subst e1
      have q : Pst C w1 (newL k ds w1.st) (WV C Q) := Pst.later p1 P
      exact ⟨LIM_le (by rw [rs.length, hlen _ _ _ _ e]; exact Nat.le_trans hl (by decide)), new_lst S1 rs q⟩
    | stuck => rw [e] at P; exact P
    | exc e' s' => rw [e] at P; exact P
/-! ### calls -/
theorem simA_then {σ : L2.St} {H : Hp} {g : List D → Store → R D} {Q : VK} (h : SimE C (fun env s => (mas env s).bind fun ds s1 => g ds s1) σ H Q) : SimA C mas σ H fun vs H1 => SimC C g vs H1 Q := by
  obtain ⟨w, env, rfl, S, ER, P⟩ := h
  exact ⟨w, env, rfl, S, ER, P.bind.mono fun w1 ds p1 S1 h1 vs rs => ⟨w1, ds, rfl, S1, rs, h1⟩⟩
/-- what a def promises -/
def spOf (C : Txs) (m : List D → Store → R D) : Sp := fun vs H Q _ => SimC C m vs H Q
variable {x : Str} {p : Pos} {G : GE} {n : Nat}
theorem pe_call' {f : Addr} {fd : FuncData} {ps : List Str} {m : List D → Store → R D} (F : FnOk X.prog X.w X.K X.mg X.base CX0 n f fd ps (spOf C m)) (hr : Room n X.A) (hg : Gl X x) (hm : X.mg x = some (.ref f)) (hk : PySem.W.keepIn X.K (.ref f) = true)
    (hb : Binds X.K fd ps []) (ha : PA X (a :: es) (SimA C mas)) (hdb : (x == ("__debug__" : Str)) = false) (hs : (a :: es).all notStar = true) : PE X (.Call (.Name x p) (a :: es) [] pos) (SimE C fun env s => (mas env s).bind fun ds s1 => m ds s1) := by
  rw [List.all_cons, Bool.and_eq_true] at hs
  refine PE.imp (pe_call (E := E0) F hr hg hm hk hb .nil pass0 ha hdb (starEach_cons hs.1 es X.env) (star_any hs.2 pos X.env)) fun σ H Q h => ?_
  obtain ⟨w, env, e, S, ER, P⟩ := simA_then h
  exact ⟨w, env, e, S, ER, P.mono fun w1 ds p1 S1 h1 vs rs => by
    show spOf C m (vs ++ []) w1.H Q E0
    rw [List.append_nil]
    exact h1 vs rs⟩
theorem pe_blt' {id : String} {g : List D → Store → R D} (hc : CallR X (.builtin id) (SimC C g)) (hg : Gl X x) (hm : X.mg x = none) (hv : bootBuiltins x = some (.builtin id)) (ha : PA X (a :: es) (SimA C mas)) (hn : x ≠ "__name__") (hdb : (x == ("__debug__" : Str)) = false) (hs : (a :: es).all notStar = true) :
    PE X (.Call (.Name x p) (a :: es) [] pos) (SimE C fun env s => (mas env s).bind fun ds s1 => g ds s1) := by
  rw [List.all_cons, Bool.and_eq_true] at hs
  exact PE.imp (pe_callB hc hg hm hv ha hn hdb (starEach_cons hs.1 es X.env) (star_any hs.2 pos X.env)) fun σ H Q h => simA_then h
theorem pe_bltTy' {T : String} {g : List D → Store → R D} (hc : CallR X (.type T) (SimC C g)) (hg : Gl X x) (hm : X.mg x = none) (hv : bootBuiltins x = some (.type T)) (ha : PA X (a :: es) (SimA C mas)) (hn : x ≠ "__name__") (hdb : (x == ("__debug__" : Str)) = false) (hs : (a :: es).all notStar = true) :
    PE X (.Call (.Name x p) (a :: es) [] pos) (SimE C fun env s => (mas env s).bind fun ds s1 => g ds s1) := by
  rw [List.all_cons, Bool.and_eq_true] at hs
  exact PE.imp (pe_callTy hc hg hm hv ha hn hdb (starEach_cons hs.1 es X.env) (star_any hs.2 pos X.env)) fun σ H Q h => simA_then h
/-- a built-in type's method -/
theorem pe_bmt' {o : Expr} {mo : Env → Store → R D} {op : Bmt} {name : Str} {apos : Pos} (nd : C.tg.Nodup) (hK : C.K = X.K) (hu : X.A.units + 1 < cLine) (hd : bmtDone op = true) (pa : PlainAttrs (bmtT op)) (slot : Slot (bmtT op) name (bmtN op))
    (hty : typeOf (.builtin (bmtN op)) = pure (.type "method_descriptor")) (ho : PE X o (SimE C mo)) (ha : PA X (a :: es) (SimA C mas)) (hb : noSup o = true) (hs : (a :: es).all notStar = true) (hn : (a :: es).length < 29) (hl : (apos.endLine == pos.line) = true) :
    PE X (.Call (.Attribute o name apos) (a :: es) [] pos) (SimE C fun env s => (mo env s).bind fun x s1 => match recvOk op x s1 with
      | true => (mas env s1).bind fun ds s2 => bmtV C.tg op x ds s2
      | false => .stuck) := by
  have hs' := hs
  rw [List.all_cons, Bool.and_eq_true] at hs
  have few : ((backTo pos (starEach (a :: es) X.env)).all (fun x => !x.1) && (backToKw pos (keywordEach [] X.env)).all (fun x => x.1.isSome) && decide ((a :: es).length + ([] : List Keyword).length + (if ([] : List Keyword).isEmpty then 0 else 1) < 30)) = true := by
    rw [star_all hs']
    show (true && true && decide ((a :: es).length + 0 + 0 < 30)) = true
    rw [decide_eq_true (by omega)] <;> rfl
  refine PE.imp (pe_bm pa slot hty (mr_bmt op nd hK hu hd) ho ha (attr_base hb name X.env) few hl (starEach_cons hs.1 es X.env) (star_any hs.2 pos X.env)) fun σ H Q h => ?_
  obtain ⟨w, env, rfl, S, ER, P⟩ := h
  refine ⟨w, env, rfl, S, ER, P.bind.mono fun w1 x p1 S1 h1 v rv => ?_⟩
  cases hq : recvOk op x w1.st with
  | false => rw [hq] at h1; exact h1.elim
  | true =>
    rw [hq] at h1
    refine ⟨recv_ty S1 rv hK hq, w1, env, rfl, S1, ER.mono S p1, ?_⟩
    have h1 : Pst C w1 ((mas env w1.st).bind fun ds s2 => bmtV C.tg op x ds s2) (WV C Q) := h1
    exact h1.bind.mono fun w2 ds p2 S2 h2 vs rs => ⟨w2, x, ds, rfl, S2, rv.mono S1 p2, rs, h2⟩
theorem pe_bmt0' {o : Expr} {mo : Env → Store → R D} {op : Bmt} {name : Str} {apos : Pos} (nd : C.tg.Nodup) (hK : C.K = X.K) (hu : X.A.units + 1 < cLine) (hd : bmtDone op = true) (pa : PlainAttrs (bmtT op)) (slot : Slot (bmtT op) name (bmtN op))
    (hty : typeOf (.builtin (bmtN op)) = pure (.type "method_descriptor")) (ho : PE X o (SimE C mo)) (hb : noSup o = true) (hl : (apos.endLine == pos.line) = true) :
    PE X (.Call (.Attribute o name apos) [] [] pos) (SimE C fun env s => (mo env s).bind fun x s1 => match recvOk op x s1 with
      | true => (R.ok ([] : List D) s1).bind fun ds s2 => bmtV C.tg op x ds s2
      | false => .stuck) := by
  refine PE.imp (pe_bm0 pa slot hty (mr_bmt op nd hK hu hd) ho (attr_base hb name X.env) hl) fun σ H Q h => ?_
  obtain ⟨w, env, rfl, S, ER, P⟩ := h
  refine ⟨w, env, rfl, S, ER, P.bind.mono fun w1 x p1 S1 h1 v rv => ?_⟩
  cases hq : recvOk op x w1.st with
  | false => rw [hq] at h1; exact h1.elim
  | true =>
    rw [hq] at h1
    exact ⟨recv_ty S1 rv hK hq, w1, x, [], rfl, S1, rv, .nil, h1⟩
/-! ### fields, items, slices -/
theorem FR.look {w : Wd} (nd : C.fl.Nodup) {f : Nat} {x : Str} (hx : C.fl[f]? = some x) : ∀ {gs : List (Str × V)} {fs : List (Nat × D)}, FR C w gs fs →
    (∃ v d, lookN f fs = some d ∧ gs.lookup x = some v ∧ RV C w v d) ∨ (lookN f fs = none ∧ gs.lookup x = none)
  | _, _, .nil => .inr ⟨rfl, rfl⟩
  | _, _, .cons (n := m) (x := y) (v := v) (d := d) (gs := gs) (fs := fs) h1 h2 h3 => by
    unfold lookN
    by_cases z : f = m
    · subst z
      rw [hx] at h1; cases h1
      rw [if_pos rfl]
      exact .inl ⟨v, d, rfl, by simp [List.lookup_cons], h2⟩
    · have ne : ¬ x = y := fun e => by
        subst e
        obtain ⟨l1, g1⟩ := List.getElem?_eq_some_iff.mp hx
        obtain ⟨l2, g2⟩ := List.getElem?_eq_some_iff.mp h1
        exact z ((List.getElem_inj nd).mp (g1.trans g2.symm))
      rw [if_neg z]
      rw [List.lookup_cons]
      have : (x == y) = false := beq_eq_false_iff_ne.mpr ne
      rw [this]
      exact FR.look nd hx h3
theorem FR.put {w : Wd} (nd : C.fl.Nodup) {f : Nat} {x : Str} {v : V} {d : D} (hx : C.fl[f]? = some x) (r : RV C w v d) : ∀ {gs : List (Str × V)} {fs : List (Nat × D)}, FR C w gs fs → FR C w (putF x v gs) (putN f d fs)
  | _, _, .nil => .cons hx r .nil
  | _, _, .cons (n := m) (x := y) (v := v') (d := d') (gs := gs) (fs := fs) h1 h2 h3 => by
    unfold putN putF
    by_cases z : m = f
    · subst z
      rw [hx] at h1; cases h1
      rw [if_pos rfl, if_pos rfl]
      exact .cons hx r h3
    · have ne : ¬ y = x := fun e => by
        subst e
        obtain ⟨l1, g1⟩ := List.getElem?_eq_some_iff.mp hx
        obtain ⟨l2, g2⟩ := List.getElem?_eq_some_iff.mp h1
        exact z ((List.getElem_inj nd).mp (g2.trans g1.symm))
      rw [if_neg z, if_neg ne]
      exact .cons h1 h2 (FR.put nd hx r h3)
theorem FR.length {w : Wd} {gs : List (Str × V)} {fs : List (Nat × D)} (h : FR C w gs fs) : gs.length = fs.length := by
  induction h with
  | nil => rfl
  | cons _ _ _ ih => simp [ih]
/-- what the classes are -/
structure ClsOk (C : Txs) (K : PySem.W.Frag) : Prop where
  cls : C.fl ≠ [] → ∀ c, Cls K (C.ca c)
  no : ∀ (c f : Nat) (x : Str), C.fl[f]? = some x → NoAttr K (C.ca c) x
  nd : C.fl.Nodup
theorem pe_fld' {f : Nat} (hK : C.K = X.K) (cl : ClsOk C X.K) (hx : C.fl[f]? = some x) (ha : PE X a (SimE C ma)) (hb : noSup a = true) : PE X (.Attribute a x pos) (SimE C fun env s => (ma env s).bind fun d s1 => fldV f d s1) := by
  refine PE.imp (pe_fld ha (attr_base hb x X.env)) fun σ H Q h => ?_
  obtain ⟨w, env, rfl, S, ER, P⟩ := h
  refine ⟨w, env, rfl, S, ER, P.bind.mono fun w1 d p1 S1 h1 v rv => ?_⟩
  unfold fldV at h1
  split at h1
  · rename_i k
    split at h1
    · rename_i c fs ec
      have z := S1.cell k
      rw [ec] at z
      obtain ⟨dx, gs, e1, q1⟩ := z
      have ev : v = .ref (w1.ρ k) := by cases rv; rfl
      subst ev
      split at h1
      · rename_i d hd
        rcases FR.look cl.nd hx q1 with ⟨v', d', l1, l2, l3⟩ | ⟨l1, l2⟩
        · rw [hd] at l1; cases l1
          exact ⟨_, _, dx, gs, v', rfl, e1, cl.cls (fun e => by rw [e] at hx; cases hx) c, cl.no c f x hx, l2, val_ok S1 l3 h1⟩
        · rw [hd] at l1; cases l1
      · exact h1.elim
    · exact h1.elim
  · exact h1.elim
theorem pe_idx' (hr : IxR X (SimR2 C (idxV C.tg))) (ha : PE X a (SimE C ma)) (hb : PE X b (SimE C mb)) (hs : notSlice b = true) : PE X (.Subscript a b pos) (SimE C fun env s => (ma env s).bind fun x s1 => (mb env s1).bind fun y s2 => idxV C.tg x y s2) :=
  PE.imp (pe_ix hr ha hb (plainIx_of hs)) fun _ _ _ h => sim_bin h
end
end PI

/-! PH: slices, own methods, new instances, isinstance, dict displays. -/
namespace PI
open PySem PySem.Spec PyProof.Rows L2
theorem PO.imp {X : Cx} {e : Option Expr} {t t' : TO} (h : PO X e t) (k : ∀ σ H Q, t' σ H Q → t σ H Q) : PO X e t' := ⟨fun pins s σ H Q I q => h.run pins s σ H Q I (k σ H Q q)⟩
def SimO (C : Txs) (m : Env → Store → R (Option Int)) : TO := fun σ H Q => ∃ w env, w.H = H ∧ SR C w ∧ EnvR C w env σ ∧ Pst C w (m env w.st) fun w' o => Q o w'.H
section
variable {X : Cx} {C : Txs} {a b c : Expr} {ma mb mc : Env → Store → R D} {pos : Pos} {es : List Expr} {mas : Env → Store → R (List D)} {x : Str} {p : Pos} {G : GE} {n : Nat}
theorem po_none' : PO X none (SimO C fun env s => prt false (.ok .non s)) := PO.imp po_none fun σ H Q h => by
  obtain ⟨w, env, rfl, S, ER, P⟩ := h
  exact P.here S
theorem po_some' (ha : PE X a (SimE C ma)) : PO X (some a) (SimO C fun env s => prt true (ma env s)) := PO.imp (po_some ha) fun σ H Q h => by
  obtain ⟨w, env, rfl, S, ER, P⟩ := h
  refine ⟨w, env, rfl, S, ER, P.bind.mono fun w1 d p1 S1 h1 v rv => ?_⟩
  cases d with
  | int i => exact ⟨i, rv.int_inv, h1.here S1⟩
  | _ => exact h1.elim
theorem pe_slc' {k : Bool} {lo hi : Option Expr} {ml mh : Env → Store → R (Option Int)} {p2 : Pos} (hK : C.K = X.K) (ha : PE X a (SimE C ma)) (hl : PO X lo (SimO C ml)) (hh : PO X hi (SimO C mh)) :
    PE X (.Subscript a (.Slice lo hi none p2) pos) (SimE C fun env s => (ma env s).bind fun x s1 => (ml env s1).bind fun i s2 => (mh env s2).bind fun j s3 => slcV C.tg k x i j s3) :=
  PE.imp (pe_slice (sl_slc k hK) ha hl hh) fun σ H Q h => by
    obtain ⟨w, env, rfl, S, ER, P⟩ := h
    refine ⟨w, env, rfl, S, ER, P.bind.mono fun w1 x p1 S1 h1 v rv => ?_⟩
    refine ⟨w1, env, rfl, S1, ER.mono S p1, h1.bind.mono fun w2 i p2 S2 h2 => ?_⟩
    refine ⟨w2, env, rfl, S2, (ER.mono S p1).mono S1 p2, h2.bind.mono fun w3 j p3 S3 h3 => ?_⟩
    exact ⟨w3, x, rfl, S3, (rv.mono S1 p2).mono S2 p3, h3⟩
theorem FR.nolook {w : Wd} {x : Str} (hx : ∀ (n : Nat) (y : Str), C.fl[n]? = some y → y ≠ x) {gs : List (Str × V)} {fs : List (Nat × D)} (h : FR C w gs fs) : gs.lookup x = none := by
  induction h with
  | nil => rfl
  | @cons n y v d gs fs h1 h2 h3 ih =>
    rw [List.lookup_cons]
    have : (x == y) = false := beq_eq_false_iff_ne.mpr (fun e => hx n y h1 e.symm)
    rw [this]
    exact ih
/-- a method of an own class is what the class has it to be -/
def MthOk (X : Cx) (C : Txs) (G : GE) (n : Nat) (m : Nat) (name : Str) : Prop := ∀ c f, G.mt c m = some f → ∃ fa fd ps, Meth X.K (C.ca c) name fa ∧ FnOk X.prog X.w X.K X.mg X.base CX0 n fa fd ps (spOf C (G.fn f)) ∧ Binds X.K fd ps []
theorem mcall_eq {o : Expr} {name : Str} {apos : Pos} {es : List Expr} {env : PySem.Env} (hb : noSup o = true) (hs : es.all notStar = true) (hn : es.length < 29) (hl : (apos.endLine == pos.line) = true) :
    eval (.Call (.Attribute o name apos) es [] pos) env = (do
      let ov ← eval o env
      standAt apos.atName
      let (f, first) ← holding [ov] (getMethod ov name (plainOf o env))
      callWith pos f first (backTo pos (starEach es env)) (backToKw pos (keywordEach [] env))) := by
  have e1 : eval (.Call (.Attribute o name apos) es [] pos) env = (do
      let ov ← attributeBase o name env (eval o env)
      standAt apos.atName
      methodCall o name apos pos env ov (es.length + ([] : List Keyword).length) (backTo pos (starEach es env)) (backToKw pos (keywordEach [] env))) := rfl
  rw [e1, attr_base hb]
  have hf : methodCallForm (es.length + ([] : List Keyword).length) (backTo pos (starEach es env)) (backToKw pos (keywordEach [] env)) = true := by
    unfold methodCallForm
    rw [star_all hs]
    show (true && true && decide (es.length + 0 + 0 < 30)) = true
    rw [decide_eq_true (by omega)] <;> rfl
  congr 1
  funext ov
  congr 1
  funext _
  exact mcall_line hf hl
theorem pe_mth' {o : Expr} {mo : Env → Store → R D} {m : Nat} {name : Str} {apos : Pos} (hK : C.K = X.K) (cl : ClsOk C X.K) (mk : MthOk X C G n m name) (nf : C.fl ≠ [] ∧ ∀ (n : Nat) (y : Str), C.fl[n]? = some y → y ≠ name) (hr : Room n X.A)
    (ho : PE X o (SimE C mo)) (ha : PA X (a :: es) (SimA C mas)) (hb : noSup o = true) (hs : (a :: es).all notStar = true) (hn : (a :: es).length < 29) (hl : (apos.endLine == pos.line) = true) :
    PE X (.Call (.Attribute o name apos) (a :: es) [] pos) (SimE C fun env s => (mo env s).bind fun x s1 => match mthV G m x s1 with
      | some (k, f) => (mas env s1).bind fun ds s2 => G.fn f (.cell k :: ds) s2
      | none => .stuck) := by
  refine ⟨fun pins s σ H Q I h => ?_⟩
  obtain ⟨w, env, rfl, S, ER, P⟩ := h
  have h : SimE C mo σ w.H fun v H1 => ∃ w1 x, w1.H = H1 ∧ SR C w1 ∧ EnvR C w1 env σ ∧ RV C w1 v x ∧ Pst C w1 (match mthV G m x w1.st with
      | some (k, f) => (mas env w1.st).bind fun ds s2 => G.fn f (.cell k :: ds) s2
      | none => .stuck) (WV C Q) := ⟨w, env, rfl, S, ER, P.bind.mono fun w1 x p1 S1 h1 v rv => ⟨w1, x, rfl, S1, ER.mono S p1, rv, h1⟩⟩
  refine PySem.W.methodCall_KW (pl := plainOf o X.env) (thn (ho.run pins s σ w.H _ I h) fun u s1 ⟨v, H1, I1, rx, w1, x, e1, S1, E1, rv, q⟩ => ?_) (mcall_eq hb hs hn hl)
  subst e1
  unfold mthV at q
  split at q
  · rename_i k f eq
    split at eq
    · rename_i k'
      split at eq
      · rename_i c fs ec
        have z := S1.cell k'
        rw [ec] at z
        obtain ⟨dx, gs, e2, q1⟩ := z
        have ev : v = .ref (w1.ρ k') := by cases rv; rfl
        subst ev
        obtain rfl : u = Value.ref (w1.ρ k') := rx
        obtain ⟨f', hf, e3⟩ := Option.map_eq_some_iff.mp eq
        cases e3
        obtain ⟨fa, fd, ps, M, F, B⟩ := mk c f hf
        refine getmeth_ok I1 e2 (cl.cls nf.1 c) M (FR.nolook nf.2 q1) ?_
        have hs' := hs
        rw [List.all_cons, Bool.and_eq_true] at hs'
        have ta : SimA C mas σ w1.H fun vs H2 => spOf C (G.fn f) (.ref (w1.ρ k) :: vs) H2 Q E0 := ⟨w1, env, rfl, S1, E1, q.bind.mono fun w2 ds p2 S2 h2 vs rs => ⟨w2, .cell k :: ds, rfl, S2, .cons (rv.mono S1 p2) rs, h2⟩⟩
        refine PySem.W.callWith_K (first := [.ref (w1.ρ k)]) (h₀ := X.base) I.ok.mod.kin M.kp (thn (ha.run pos pins s1 σ w1.H _ I1 ta) fun us s2 ⟨vs, H2, I2, r, q2⟩ => ⟨I2.kIn, ?_⟩) (starEach_cons hs'.1 es X.env) (star_any hs'.2 pos X.env)
        exact run_fn (us := .ref (w1.ρ k) :: us) (vs := .ref (w1.ρ k) :: vs) F hr B .nil pass0 I2 (.cons rfl r) (by rw [List.append_nil]; exact q2)
      · cases eq
    · cases eq
  · exact q.elim
theorem pe_mth0' {o : Expr} {mo : Env → Store → R D} {m : Nat} {name : Str} {apos : Pos} (hK : C.K = X.K) (cl : ClsOk C X.K) (mk : MthOk X C G n m name) (nf : C.fl ≠ [] ∧ ∀ (n : Nat) (y : Str), C.fl[n]? = some y → y ≠ name) (hr : Room n X.A)
    (ho : PE X o (SimE C mo)) (hb : noSup o = true) (hl : (apos.endLine == pos.line) = true) :
    PE X (.Call (.Attribute o name apos) [] [] pos) (SimE C fun env s => (mo env s).bind fun x s1 => match mthV G m x s1 with
      | some (k, f) => (R.ok ([] : List D) s1).bind fun ds s2 => G.fn f (.cell k :: ds) s2
      | none => .stuck) := by
  refine ⟨fun pins s σ H Q I h => ?_⟩
  obtain ⟨w, env, rfl, S, ER, P⟩ := h
  have h : SimE C mo σ w.H fun v H1 => ∃ w1 x, w1.H = H1 ∧ SR C w1 ∧ EnvR C w1 env σ ∧ RV C w1 v x ∧ Pst C w1 (match mthV G m x w1.st with
      | some (k, f) => (R.ok ([] : List D) w1.st).bind fun ds s2 => G.fn f (.cell k :: ds) s2
      | none => .stuck) (WV C Q) := ⟨w, env, rfl, S, ER, P.bind.mono fun w1 x p1 S1 h1 v rv => ⟨w1, x, rfl, S1, ER.mono S p1, rv, h1⟩⟩
  refine PySem.W.methodCall_KW (pl := plainOf o X.env) (thn (ho.run pins s σ w.H _ I h) fun u s1 ⟨v, H1, I1, rx, w1, x, e1, S1, E1, rv, q⟩ => ?_) (mcall_eq hb rfl (by decide) hl)
  subst e1
  unfold mthV at q
  split at q
  · rename_i k f eq
    split at eq
    · rename_i k'
      split at eq
      · rename_i c fs ec
        have z := S1.cell k'
        rw [ec] at z
        obtain ⟨dx, gs, e2, q1⟩ := z
        have ev : v = .ref (w1.ρ k') := by cases rv; rfl
        subst ev
        obtain rfl : u = Value.ref (w1.ρ k') := rx
        obtain ⟨f', hf, e3⟩ := Option.map_eq_some_iff.mp eq
        cases e3
        obtain ⟨fa, fd, ps, M, F, B⟩ := mk c f hf
        refine getmeth_ok I1 e2 (cl.cls nf.1 c) M (FR.nolook nf.2 q1) ?_
        exact PySem.W.callWith_K0 (first := [.ref (w1.ρ k)]) I1.kIn M.kp (run_fn (us := [.ref (w1.ρ k)]) (vs := [.ref (w1.ρ k)]) F hr B .nil pass0 I1 (.cons rfl .nil) ⟨w1, [.cell k], rfl, S1, .one rv, q⟩)
      · cases eq
    · cases eq
  · exact q.elim
theorem pe_mk' {c : Nat} {k : Nat} {fi : Addr} {fd : FuncData} {ps : List Str} {f : Nat} (M : Mk X.K (C.ca c) fi) (F : FnOk X.prog X.w X.K X.mg X.base CX0 k fi fd ps (spOf C (G.mkf f))) (hr : Room (k + 1) X.A) (hg : Gl X x) (hm : X.mg x = some (.ref (C.ca c)))
    (hb : Binds X.K fd ps []) (hf : G.ini c = some f) (ha : PA X (a :: es) (SimA C mas)) (hdb : (x == ("__debug__" : Str)) = false) (hs : (a :: es).all notStar = true) :
    PE X (.Call (.Name x p) (a :: es) [] pos) (SimE C fun env s => (mas env s).bind fun ds s1 => match G.ini c with
    | some f => (G.mkf f (.cell s1.n :: ds) (s1.new (.ins c []))).bind fun d s2 => match d with
      | .non => .ok (.cell s1.n) s2
      | _ => .stuck
    | none => .stuck) := by
  rw [List.all_cons, Bool.and_eq_true] at hs
  refine PE.imp (pe_make (E := E0) M F hr hg hm hb .nil pass0 ha hdb (starEach_cons hs.1 es X.env) (star_any hs.2 pos X.env)) fun σ H Q h => ?_
  obtain ⟨w, env, rfl, S, ER, P⟩ := h
  refine ⟨w, env, rfl, S, ER, P.bind.mono fun w1 ds p1 S1 h1 vs rs => ?_⟩
  intro y dx hy hdx ne
  rw [List.append_nil]
  simp only [hf] at h1
  obtain ⟨st2, S2⟩ := step_new (o := .own y) S1 hdx
  have hy2 : upd w1.H dx (.own y) y = none := by rw [upd_ne (Ne.symm ne)]; exact hy
  obtain ⟨st3, S3⟩ := step_cell (w := { w1 with H := upd w1.H dx (.own y) }) (o := .ins (C.ca c) dx []) (c := .ins c []) S2 hy2 (fun w' st e => ⟨dx, [], e, .nil⟩)
  have stp : Stp w1 ⟨w1.Z, fun k => if k = w1.st.n then y else w1.ρ k, w1.st.new (.ins c []), upd (upd w1.H dx (.own y)) y (.ins (C.ca c) dx [])⟩ := st2.trans st3
  have rc : RV C ⟨w1.Z, fun k => if k = w1.st.n then y else w1.ρ k, w1.st.new (.ins c []), upd (upd w1.H dx (.own y)) y (.ins (C.ca c) dx [])⟩ (.ref y) (.cell w1.st.n) := by
    have z := RV.cell (C := C) (w := ⟨w1.Z, fun k => if k = w1.st.n then y else w1.ρ k, w1.st.new (.ins c []), upd (upd w1.H dx (.own y)) y (.ins (C.ca c) dx [])⟩) (k := w1.st.n) (Nat.lt_succ_self _)
    have e : (if w1.st.n = w1.st.n then y else w1.ρ w1.st.n) = y := if_pos rfl
    have z' : RV C ⟨w1.Z, fun k => if k = w1.st.n then y else w1.ρ k, w1.st.new (.ins c []), upd (upd w1.H dx (.own y)) y (.ins (C.ca c) dx [])⟩ (.ref (if w1.st.n = w1.st.n then y else w1.ρ w1.st.n)) (.cell w1.st.n) := z
    rw [e] at z'
    exact z'
  refine ⟨⟨w1.Z, fun k => if k = w1.st.n then y else w1.ρ k, w1.st.new (.ins c []), upd (upd w1.H dx (.own y)) y (.ins (C.ca c) dx [])⟩, .cell w1.st.n :: ds, rfl, S3, .cons rc (rs.mono S1 stp), ?_⟩
  have h2 := Pst.later stp h1
  refine h2.bind.mono fun w4 d p4 S4 h4 v rv => ?_
  cases d with
  | non => exact ⟨rv.non_inv, val_ok S4 (rc.mono S3 p4) h4⟩
  | _ => exact h4.elim

/-! ### isinstance -/
def tyN : Nat → String
  | 0 => "int" | 1 => "bool" | 2 => "str" | 3 => "list" | _ => "tuple"
theorem ty_of {w : Wd} {v : V} {d : D} (S : SR C w) (r : RV C w v d) {t0 : Nat} {b0 : Bool} (e0 : tyIs w.st d t0 = some b0) : ∃ T, TyX C.K w.H v (.type T) ∧ ∀ (t : Nat) (b : Bool), t < 5 → tyIs w.st d t = some b → PySem.W.kitOne C.K (.type T) (.type (tyN t)) = some b := by
  have five : ∀ {t : Nat}, t < 5 → t = 0 ∨ t = 1 ∨ t = 2 ∨ t = 3 ∨ t = 4 := by omega
  unfold tyIs at e0
  split at e0
  · rename_i z
    have : v = .non := by
      cases r with
      | non => rfl
      | @cell k hk =>
        simp only [deref] at z
        cases q : w.st.f k with
        | _ => rw [q] at z; simp at z
      | _ => simp [deref] at z
    subst this
    refine ⟨"NoneType", .base .non, fun t b ht e => kit_ty ?_⟩
    unfold tyIs at e; simp only [z] at e; rcases five ht with rfl | rfl | rfl | rfl | rfl <;> (cases e; decide +kernel)
  · rename_i b' z
    have : v = .bl b' := by
      cases r with
      | bl => simp [deref] at z; subst z; rfl
      | @cell k hk =>
        simp only [deref] at z
        cases q : w.st.f k with
        | _ => rw [q] at z; simp at z
      | _ => simp [deref] at z
    subst this
    refine ⟨"bool", .base (.bl _), fun t b ht e => kit_ty ?_⟩
    unfold tyIs at e; simp only [z] at e; rcases five ht with rfl | rfl | rfl | rfl | rfl <;> (cases e; decide +kernel)
  · rename_i i z
    have := dr_int r z
    subst this
    refine ⟨"int", .base (.int _), fun t b ht e => kit_ty ?_⟩
    unfold tyIs at e; simp only [z] at e; rcases five ht with rfl | rfl | rfl | rfl | rfl <;> (cases e; decide +kernel)
  · rename_i i z
    obtain ⟨rfl, _⟩ := dr_str r z
    refine ⟨"str", .base (.str _), fun t b ht e => kit_ty ?_⟩
    unfold tyIs at e; simp only [z] at e; rcases five ht with rfl | rfl | rfl | rfl | rfl <;> (cases e; decide +kernel)
  · rename_i i z
    obtain ⟨y, rfl, _, _⟩ := dr_tag r z
    refine ⟨"str", .base (.str _), fun t b ht e => kit_ty ?_⟩
    unfold tyIs at e; simp only [z] at e; rcases five ht with rfl | rfl | rfl | rfl | rfl <;> (cases e; decide +kernel)
  · rename_i i z
    obtain ⟨p, vs, rfl, h1, _⟩ := dr_lst S r z
    refine ⟨"list", .base (.lst h1), fun t b ht e => kit_ty ?_⟩
    unfold tyIs at e; simp only [z] at e; rcases five ht with rfl | rfl | rfl | rfl | rfl <;> (cases e; decide +kernel)
  · rename_i i z
    obtain ⟨p, vs, rfl, h1, _⟩ := dr_tup r z
    refine ⟨"tuple", ?_, fun t b ht e => kit_ty ?_⟩
    · rcases h1 with (h1 | ⟨o, h1⟩) | ⟨o, its, n, h1, h2, _⟩
      · exact .base (.tup h1)
      · exact .fTuple h1
      · exact .kTuple h1 h2
    · unfold tyIs at e; simp only [z] at e; rcases five ht with rfl | rfl | rfl | rfl | rfl <;> (cases e; decide +kernel)
  · cases e0
def tyBoot (t : Nat) : Prop := bootBuiltins (PySem.Str.ofString (tyN t)) = some (.type (tyN t))
/-- isinstance(a, T) -/
theorem pe_isi' {t : Nat} {T : Str} {p2 : Pos} (hK : C.K = X.K) (ht : t < 5) (ha : PE X a (SimE C ma)) (hs : notStar a = true) (hg : Gl X "isinstance") (hm : X.mg "isinstance" = none) (hgT : Gl X T) (hmT : X.mg T = none) (hT : bootBuiltins T = some (.type (tyN t))) (hTn : T ≠ "__name__") (hTd : (T == ("__debug__" : Str)) = false) :
    PE X (.Call (.Name "isinstance" p) [a, .Name T p2] [] pos) (SimE C fun env s => (ma env s).bind fun x s1 => isiV [t] x s1) := by
  refine PE.imp (pe_callB call_isi hg hm (by decide +kernel) (pa_cons ha (pa_cons (pe_bltn (v := .ty (tyN t)) hgT hmT hT rfl hTn hTd) pa_nil) (starEach_cons hs _ X.env)) (by decide) (by decide) (starEach_cons hs _ X.env) rfl) fun σ H Q h => ?_
  obtain ⟨w, env, rfl, S, ER, P⟩ := h
  refine ⟨w, env, rfl, S, ER, P.bind.mono fun w1 d p1 S1 h1 v rv => ?_⟩
  unfold isiV at h1
  cases e : tyIs w1.st d t with
  | none => simp only [e] at h1; exact h1.elim
  | some b =>
    simp only [e] at h1
    obtain ⟨U, ty, kit⟩ := ty_of S1 rv e
    have kit := kit t b ht e
    rw [hK] at ty kit
    refine ⟨v, .ty (tyN t), .type U, .type (tyN t), b, rfl, .ty _, ty, kit, ?_⟩
    cases b with
    | true => exact val_ok S1 (.bl true) h1
    | false => exact val_ok S1 (.bl false) h1
/-- isinstance(a, (T, U)) -/
theorem pe_isi2' {t t2 : Nat} {T T2 : Str} {k2 : Nat} {p2 p3 p4 : Pos} (hK : C.K = X.K) (ht : t < 5) (ht2 : t2 < 5) (ha : PE X a (SimE C ma)) (hs : notStar a = true) (hg : Gl X "isinstance") (hm : X.mg "isinstance" = none) (hgT : Gl X T) (hmT : X.mg T = none) (hT : bootBuiltins T = some (.type (tyN t))) (hTn : T ≠ "__name__") (hTd : (T == ("__debug__" : Str)) = false)
    (hgT2 : Gl X T2) (hmT2 : X.mg T2 = none) (hT2 : bootBuiltins T2 = some (.type (tyN t2))) (hTn2 : T2 ≠ "__name__") (hTd2 : (T2 == ("__debug__" : Str)) = false) :
    PE X (.Call (.Name "isinstance" p) [a, .Tuple [.Name T p2, .Name T2 p3] k2 p4] [] pos) (SimE C fun env s => (ma env s).bind fun x s1 => isiV [t, t2] x s1) := by
  refine PE.imp (pe_callB call_isiT hg hm (by decide +kernel) (pa_cons ha (pa_cons (pe_tup (pa_cons (pe_bltn (v := .ty (tyN t)) hgT hmT hT rfl hTn hTd) (pa_cons (pe_bltn (v := .ty (tyN t2)) hgT2 hmT2 hT2 rfl hTn2 hTd2) pa_nil))) pa_nil) (starEach_cons hs _ X.env)) (by decide) (by decide) (starEach_cons hs _ X.env) rfl) fun σ H Q h => ?_
  obtain ⟨w, env, rfl, S, ER, P⟩ := h
  refine ⟨w, env, rfl, S, ER, P.bind.mono fun w1 d p1 S1 h1 v rv => ⟨by show 2 ≤ sizeLine; decide, fun tp htp => ?_⟩⟩
  obtain ⟨st, S2⟩ := step_new (o := .tup [.ty (tyN t), .ty (tyN t2)]) S1 htp
  have rv2 := rv.mono S1 st
  have fin : ∀ {b : Bool}, Pst C w1 (.ok (.bl b) w1.st) (WV C Q) → Q (.bl b) (upd w1.H tp (.tup [.ty (tyN t), .ty (tyN t2)])) := fun {b} h => val_ok S2 (.bl b) (Pst.later st h)
  have cs : Paired ClsV [.ty (tyN t), .ty (tyN t2)] [.type (tyN t), .type (tyN t2)] := .cons (.ty _) (.cons (.ty _) .nil)
  unfold isiV at h1
  cases e : tyIs w1.st d t with
  | none => simp only [e] at h1; exact h1.elim
  | some b =>
    obtain ⟨U, ty, kit⟩ := ty_of S2 rv2 e
    have k1 := kit t b ht e
    rw [hK] at ty k1
    cases b with
    | true =>
      simp only [e] at h1
      exact ⟨v, tp, _, .type U, _, true, rfl, upd_same, cs, ty, kitAny_cons k1 (fun q => nomatch q) (fun _ => rfl), fin h1⟩
    | false =>
      simp only [e] at h1
      unfold isiV at h1
      cases e' : tyIs w1.st d t2 with
      | none => simp only [e'] at h1; exact h1.elim
      | some b =>
        have k2 := kit t2 b ht2 e'
        rw [hK] at k2
        cases b with
        | true =>
          simp only [e'] at h1
          exact ⟨v, tp, _, .type U, _, true, rfl, upd_same, cs, ty, kitAny_cons k1 (fun _ => kitAny_cons k2 (fun q => nomatch q) (fun _ => rfl)) (fun q => nomatch q), fin h1⟩
        | false =>
          simp only [e'] at h1
          unfold isiV at h1
          exact ⟨v, tp, _, .type U, _, false, rfl, upd_same, cs, ty, kitAny_cons k1 (fun _ => kitAny_cons k2 (fun _ => kitAny_nil) (fun q => nomatch q)) (fun q => nomatch q), fin h1⟩
end
end PI

/-! PJ: what is walked; comprehensions; for. -/
namespace PI
open PySem PySem.Spec PyProof.Rows L2
theorem EnvR.monoK {C : Txs} {w w' : Wd} {env : Env} {σ : L2.St} (h : EnvR C w env σ) (p : Kp w w') : EnvR C w' env σ :=
  ⟨h.len, fun i d e => let ⟨v, a, b⟩ := h.at_ i d e; ⟨v, a, b.monoK p⟩⟩
theorem Kp.refl (w : Wd) : Kp w w := ⟨Nat.le_refl _, fun _ _ => rfl, fun _ _ h n => ⟨h, n⟩, fun _ _ h _ _ _ => h⟩
theorem Kp.trans {w1 w2 w3 : Wd} (a : Kp w1 w2) (b : Kp w2 w3) : Kp w1 w3 :=
  ⟨Nat.le_trans a.n b.n, fun k h => (b.ρ k (Nat.lt_of_lt_of_le h a.n)).trans (a.ρ k h), fun x o h n => let q := a.keep x o h n; b.keep x o q.1 q.2, fun x o h h1 h2 h3 => b.keepO x o (a.keepO x o h h1 h2 h3) h1 h2 h3⟩
/-! ### what is walked -/
def Src (C : Txs) (w : Wd) (J : It) (xs : List D) : Prop := ∀ w', Kp w w' → (∀ i d, xs[i]? = some d → J.go i w'.H ∧ ∀ x H', J.yld i w'.H x H' → H' = w'.H ∧ RV C w' x d) ∧ J.stop xs.length w'.H
section
variable {X : Cx} {C : Txs} {w : Wd}
theorem src_list {K : PySem.W.Frag} {a : Addr} {vs : List V} {xs : List D} (h : w.H a = some (.lst vs)) (nl : ¬ w.live a) (r : RVs C w vs xs) : Src C w (Itl K a) xs := by
  intro w' p
  have h' := (p.keep a _ h nl).1
  have r' := r.monoK p
  refine ⟨fun i d e => ?_, vs, SqL.of h', by rw [r.length]; exact Nat.le_refl _⟩
  obtain ⟨v, e1, r1⟩ := r'.get e
  refine ⟨⟨vs, v, SqL.of h', e1⟩, fun x H' ⟨eH, q⟩ => ⟨eH, ?_⟩⟩
  have := q vs (SqL.of h')
  rw [e1] at this; cases this
  exact r1
theorem src_tup {a : Addr} {vs : List V} {xs : List D} (h : SqT C.K w.H a vs) (r : RVs C w vs xs) : Src C w (Itt C.K a) xs := by
  intro w' p
  have h' := p.sqT h
  have r' := r.monoK p
  refine ⟨fun i d e => ?_, vs, h', by rw [r.length]; exact Nat.le_refl _⟩
  obtain ⟨v, e1, r1⟩ := r'.get e
  refine ⟨⟨vs, v, h', e1⟩, fun x H' ⟨eH, q⟩ => ⟨eH, ?_⟩⟩
  have := q vs h'
  rw [e1] at this; cases this
  exact r1
theorem src_rng {n : Nat} : Src C w (Itr 0 n) ((List.range n).map fun (i : Nat) => D.int (i : Int)) := by
  intro w' p
  refine ⟨fun i d e => ?_, by show n ≤ _; simp⟩
  obtain ⟨k, h1, h2⟩ := (List.getElem?_map .. ▸ e : ((List.range n)[i]?).map (fun (i : Nat) => D.int (i : Int)) = some d) |> Option.map_eq_some_iff.mp
  obtain ⟨hl, rfl⟩ := List.getElem?_eq_some_iff.mp h1
  simp at hl
  refine ⟨hl, fun x H' ⟨eH, q⟩ => ⟨eH, ?_⟩⟩
  subst q h2
  simp only [List.getElem_range, Int.zero_add]
  exact .int _
theorem src_rngc {i c : Int} {n : Nat} : Src C w (Itc i c n) ((List.range n).map fun (k : Nat) => D.int (i + (k : Nat) * c)) := by
  intro w' p
  refine ⟨fun j d e => ?_, by show n ≤ _; simp⟩
  obtain ⟨k, h1, h2⟩ := (List.getElem?_map .. ▸ e : ((List.range n)[j]?).map (fun (k : Nat) => D.int (i + (k : Nat) * c)) = some d) |> Option.map_eq_some_iff.mp
  obtain ⟨hl, rfl⟩ := List.getElem?_eq_some_iff.mp h1
  simp at hl
  refine ⟨hl, fun x H' ⟨eH, q⟩ => ⟨eH, ?_⟩⟩
  subst q h2
  simp only [List.getElem_range]
  exact .int _
theorem src_str {z : Str} (h : PyData.strOk z = true) : Src C w (Its z) (z.cps.toList.map fun c => D.str ⟨#[c]⟩) := by
  intro w' p
  refine ⟨fun j d e => ?_, by show z.cps.size ≤ _; simp⟩
  rw [List.getElem?_map] at e
  obtain ⟨c, h1, h2⟩ := Option.map_eq_some_iff.mp e
  have hl := (List.getElem?_eq_some_iff.mp h1).1
  rw [Array.getElem?_toList] at h1
  refine ⟨by show j < z.cps.size; simpa using hl, fun x H' ⟨eH, c', q1, q2⟩ => ⟨eH, ?_⟩⟩
  rw [h1] at q1
  cases q1
  subst q2 h2
  refine .str _ ?_
  rw [strOk_cps] at h ⊢
  intro c' hc
  have : c' = c := by simpa using hc
  subst this
  exact h c' (by rw [Array.mem_toList_iff]; exact Array.mem_of_getElem? h1)
/-- a cell that is walked as it stands -/
def SrcC (C : Txs) (a : Addr) (k : Nat) (J : It) : Prop := ∀ w', SR C w' → w'.ρ k = a → ∀ xs, w'.st.f k = .lst xs → (∀ i d, xs[i]? = some d → J.go i w'.H ∧ ∀ x H', J.yld i w'.H x H' → H' = w'.H ∧ RV C w' x d) ∧ ∀ i, xs.length ≤ i → J.stop i w'.H
theorem srcC_list {K : PySem.W.Frag} {a : Addr} {k : Nat} : SrcC C a k (Itl K a) := by
  intro w' S e xs ex
  subst e
  have z := S.cell k
  rw [ex] at z
  obtain ⟨vs, h', r'⟩ := z
  refine ⟨fun i d e => ?_, fun i hi => ⟨vs, SqL.of h', by rw [r'.length]; exact hi⟩⟩
  obtain ⟨v, e1, r1⟩ := r'.get e
  refine ⟨⟨vs, v, SqL.of h', e1⟩, fun x H' ⟨eH, q⟩ => ⟨eH, ?_⟩⟩
  have := q vs (SqL.of h')
  rw [e1] at this; cases this
  exact r1
/-- an iterable, by what is reckoned -/
def iSim (C : Txs) (m : Env → Store → R D) : TI := fun σ H R => ∃ w env, w.H = H ∧ SR C w ∧ EnvR C w env σ ∧ Pst C w (m env w.st) fun w' d => (∃ xs, itemsOf d = some xs ∧ ∀ J, Src C w' J xs → R J w'.H) ∨ ∃ k, d = .cell k ∧ k < w'.st.n ∧ (∃ xs, w'.st.f k = .lst xs) ∧ ∀ J, SrcC C (w'.ρ k) k J → R J w'.H
theorem pi_sim {tg it : Expr} {m : Env → Store → R D} (hK : C.K = X.K) (h : PE X it (SimE C m)) : PI X tg it (iSim C m) := by
  refine ⟨fun pins s σ H R I q => ?_⟩
  obtain ⟨w, env, rfl, S, ER, P⟩ := q
  have hh : SimE C m σ w.H fun v H1 => ∃ w1 d, w1.H = H1 ∧ RV C w1 v d ∧ SR C w1 ∧ ((∃ xs, itemsOf d = some xs ∧ ∀ J, Src C w1 J xs → R J w1.H) ∨ ∃ k, d = .cell k ∧ k < w1.st.n ∧ (∃ xs, w1.st.f k = .lst xs) ∧ ∀ J, SrcC C (w1.ρ k) k J → R J w1.H) := ⟨w, env, rfl, S, ER, P.mono fun w1 d p1 S1 h1 v rv => ⟨w1, d, rfl, rv, S1, h1⟩⟩
  refine thn (h.run pins s σ w.H _ I hh) fun v s1 ⟨x, H1, I1, r1, w1, d, e1, rv, S1, hq⟩ => ?_
  subst e1
  rcases hq with ⟨xs, ex, q⟩ | ⟨k, rfl, hk, ⟨xs, ex⟩, q⟩
  rotate_left
  · have z := S1.cell k
    rw [ex] at z
    obtain ⟨vs, ha, rs⟩ := z
    cases rv
    cases r1
    obtain ⟨its, rv', p, hz⟩ := I1.list (SqL.of ha)
    refine wpAny_pyIter_list p.isList ?_
    refine ⟨s1.heap.objs.size, [s1.heap.objs.size], _, _, w1.H, rfl, I1.kept (t' := s1.toks) fun b o e => Heap.get?_push_of_some _ e, turn_list _ _, ⟨_, Heap.get?_push_size _ rfl, rfl, rfl⟩, fun b hb => ?_, q _ srcC_list⟩
    have e : b = s1.heap.objs.size := by simpa using hb
    subst e
    exact I1.fpOk (Nat.le_refl _) (I1.hok.fresh (Nat.le_refl _))
  cases d with
  | lst ys =>
    cases ex
    cases rv with
    | @lst a vs _ ha nl rs =>
      cases r1
      obtain ⟨its, rv', p, hz⟩ := I1.list (SqL.of ha)
      refine wpAny_pyIter_list p.isList ?_
      refine ⟨s1.heap.objs.size, [s1.heap.objs.size], _, _, w1.H, rfl, I1.kept (t' := s1.toks) fun b o e => Heap.get?_push_of_some _ e, turn_list a _, ⟨_, Heap.get?_push_size _ rfl, rfl, rfl⟩, fun b hb => ?_, q _ (src_list ha nl rs)⟩
      have e : b = s1.heap.objs.size := by simpa using hb
      subst e
      exact I1.fpOk (Nat.le_refl _) (I1.hok.fresh (Nat.le_refl _))
  | tup ys =>
    cases ex
    cases rv with
    | @tup a vs _ ha rs =>
      cases r1
      have q' := q _ (src_tup ha rs)
      rw [hK] at ha q'
      obtain ⟨its, rv', p, hz⟩ := I1.tuple ha
      refine wpAny_pyIter_tuple (show s1.heap.IsTuple a its.toArray from p) ?_
      refine ⟨s1.heap.objs.size, [s1.heap.objs.size], _, _, w1.H, rfl, I1.kept (t' := s1.toks) fun b o e => Heap.get?_push_of_some _ e, turn_tuple a _, ⟨_, Heap.get?_push_size _ rfl, rfl, rfl⟩, fun b hb => ?_, q'⟩
      have e : b = s1.heap.objs.size := by simpa using hb
      subst e
      exact I1.fpOk (Nat.le_refl _) (I1.hok.fresh (Nat.le_refl _))
  | str z =>
    cases ex
    cases rv with
    | str _ ho =>
      obtain ⟨t, rfl⟩ := r1
      cases ha : z.cps.all (· < 128)
      · exact wpAny_pyIter_wide ha (pi_one (tk := s1.toks) I1 _ (turn_str _ z t "str_iterator" (.inr rfl)) ⟨_, Heap.get?_push_size _ rfl, rfl, rfl⟩ (q _ (src_str ho)))
      · exact wpAny_pyIter_ascii ha (pi_one (tk := s1.toks) I1 _ (turn_str _ z t "str_ascii_iterator" (.inl rfl)) ⟨_, Heap.get?_push_size _ rfl, rfl, rfl⟩ (q _ (src_str ho)))
  | _ => cases ex
theorem pi_rng {tg a : Expr} {p pos : Pos} {m : Env → Store → R D} (hg : Gl X "range") (hm : X.mg "range" = none) (h : PE X a (SimE C m)) (hs : notStar a = true) : PI X tg (.Call (.Name "range" p) [a] [] pos) (iSim C fun env s => (m env s).bind fun x s1 => rngV x s1) := by
  have q := pi_range1 (tg := tg) (p := p) (pos := pos) hg hm (pa_cons h pa_nil (starEach_cons hs [] X.env)) (starEach_cons hs [] X.env)
  refine ⟨fun pins s σ H R I z => q.run pins s σ H R I ?_⟩
  obtain ⟨w, env, rfl, S, ER, P⟩ := z
  refine ⟨w, env, rfl, S, ER, P.bind.mono fun w1 d p1 S1 h1 v rv => ?_⟩
  unfold rngV at h1
  split at h1
  · rename_i j
    split at h1
    · rename_i hj
      rcases h1.here S1 with ⟨xs, ex, k⟩ | ⟨k, ek, _⟩
      · cases ex
        have hl : (LIM : Int) = 1000000 := rfl
        exact ⟨j, by rw [rv.int_inv], by omega, by omega, k _ src_rng⟩
      · cases ek
    · exact h1.elim
  · exact h1.elim
theorem pi_rng3' {tg a b c : Expr} {p pos : Pos} {ma mb mc : Env → Store → R D} (hg : Gl X "range") (hm : X.mg "range" = none) (ha : PE X a (SimE C ma)) (hb : PE X b (SimE C mb)) (hc : PE X c (SimE C mc)) (h1 : notStar a = true) (h2 : notStar b = true) (h3 : notStar c = true) :
    PI X tg (.Call (.Name "range" p) [a, b, c] [] pos) (iSim C fun env s => (ma env s).bind fun x s1 => (mb env s1).bind fun y s2 => (mc env s2).bind fun z s3 => rng3V x y z s3) := by
  have e1 : starEach [a, b, c] X.env = (false, eval a X.env) :: starEach [b, c] X.env := starEach_cons h1 _ _
  have e2 : starEach [b, c] X.env = (false, eval b X.env) :: starEach [c] X.env := starEach_cons h2 _ _
  have e3 : starEach [c] X.env = (false, eval c X.env) :: starEach [] X.env := starEach_cons h3 _ _
  have q := pi_range3 (tg := tg) (p := p) (pos := pos) hg hm (pa_cons ha (pa_cons hb (pa_cons hc pa_nil e3) e2) e1) e1 (star_any (es := [b, c]) (by rw [List.all_cons, List.all_cons, h2, h3]; rfl) pos X.env)
  refine ⟨fun pins s σ H R I z => q.run pins s σ H R I ?_⟩
  obtain ⟨w, env, rfl, S, ER, P⟩ := z
  refine ⟨w, env, rfl, S, ER, P.bind.mono fun w1 d1 p1 S1 h1 v1 rv1 => ?_⟩
  refine ⟨w1, env, rfl, S1, ER.mono S p1, h1.bind.mono fun w2 d2 p2 S2 h2 v2 rv2 => ?_⟩
  refine ⟨w2, env, rfl, S2, (ER.mono S p1).mono S1 p2, h2.bind.mono fun w3 d3 p3 S3 h3 v3 rv3 => ?_⟩
  replace rv1 := (rv1.mono S1 p2).mono S2 p3
  replace rv2 := rv2.mono S2 p3
  clear h1 h2
  unfold rng3V at h3
  split at h3
  · rename_i i j c
    split at h3
    · rename_i hj
      obtain ⟨j1, j2, j3, j4⟩ := hj
      rcases h3.here S3 with ⟨xs, ex, k⟩ | ⟨k, ek, _⟩
      · cases ex
        exact ⟨i, j, c, _, by rw [rv1.int_inv, rv2.int_inv, rv3.int_inv], ⟨j1, j2, j3, (Int.toNat_of_nonneg j4).symm⟩, k _ src_rngc⟩
      · cases ek
    · exact h3.elim
  · exact h3.elim
/-! ### targets of loops -/
def gNames : List Nat → TGs
  | [] => gNil
  | i :: is => gCons (gName i) (gNames is)
def gCT (K : PySem.W.Frag) : CT → TG
  | .name i => gName i
  | .tup is => gTup K is.length (gNames is)
def ctSlots : CT → List Nat
  | .name i => [i]
  | .tup is => is
theorem wipe_set {σ : L2.St} {i : Nat} {x : Option V} : ∀ {own : List Nat}, i ∈ own → wipe (σ.set i x) own = wipe σ own := by
  have ext : ∀ (own : List Nat) (j : Nat), (wipe (σ.set i x) own)[j]? = if j ∈ own ∧ j < σ.length then some none else (σ.set i x)[j]? := by
    intro own
    induction own with
    | nil => intro j; simp [wipe]
    | cons v vs ih =>
      intro j
      unfold wipe
      rw [List.getElem?_set, ih j, wipe_length]
      simp only [List.length_set, List.mem_cons]
      by_cases hv : v = j
      · subst hv
        by_cases hl : v < σ.length
        · simp [hl]
        · simp [hl]
      · have : ¬ j = v := fun e => hv e.symm
        simp [hv, this]
  have ext2 : ∀ (own : List Nat) (j : Nat), (wipe σ own)[j]? = if j ∈ own ∧ j < σ.length then some none else σ[j]? := by
    intro own
    induction own with
    | nil => intro j; simp [wipe]
    | cons v vs ih =>
      intro j
      unfold wipe
      rw [List.getElem?_set, ih j, wipe_length]
      simp only [List.mem_cons]
      by_cases hv : v = j
      · subst hv
        by_cases hl : v < σ.length
        · simp [hl]
        · simp [hl]
      · have : ¬ j = v := fun e => hv e.symm
        simp [hv, this]
  intro own hi
  apply List.ext_getElem?
  intro j
  rw [ext, ext2]
  by_cases h : j ∈ own ∧ j < σ.length
  · rw [if_pos h, if_pos h]
  · rw [if_neg h, if_neg h, List.getElem?_set]
    by_cases hj : i = j
    · subst hj
      have : ¬ i < σ.length := fun z => h ⟨hi, z⟩
      simp [this]
    · simp [hj]
theorem gNames_ok {H : Hp} {Q : L2.St → Hp → Prop} : ∀ {is : List Nat} {vs : List V} {ds : List D} {env : Env} {σ : L2.St}, RVs C w vs ds → ds.length = is.length → EnvR C w env σ →
    (∀ σ', EnvR C w (setAll is ds env) σ' → (∀ own, (∀ i ∈ is, i ∈ own) → wipe σ' own = wipe σ own) → Q σ' H) → gNames is vs σ H Q
  | [], _, [], env, σ, .nil, _, E, k => ⟨rfl, k σ E fun _ _ => rfl⟩
  | i :: is, _, _ :: ds, env, σ, .cons (v := v) (vs := vs) a b, hl, E, k => by
    refine ⟨v, vs, rfl, ?_⟩
    show gNames is vs (σ.set i (some v)) H Q
    refine gNames_ok b (by simpa using hl) (E.set a) fun σ' E' hw => k σ' E' fun own ho => ?_
    rw [hw own fun j hj => ho j (List.mem_cons_of_mem _ hj)]
    exact wipe_set (ho i (List.mem_cons_self ..))
  | [], _, _ :: _, _, _, _, hl, _, _ => by cases hl
  | _ :: _, _, [], _, _, _, hl, _, _ => by cases hl
theorem gct_ok {t : CT} {d : D} {env env1 : Env} {σ : L2.St} {v : V} {Q : L2.St → Hp → Prop} (r : RV C w v d) (E : EnvR C w env σ) (hb : bindC t d env = some env1)
    (k : ∀ σ', EnvR C w env1 σ' → (∀ own, (∀ i ∈ ctSlots t, i ∈ own) → wipe σ' own = wipe σ own) → Q σ' w.H) : gCT C.K t v σ w.H Q := by
  cases t with
  | name i =>
    cases hb
    exact k _ (E.set r) fun own ho => wipe_set (ho i (by simp [ctSlots]))
  | tup is =>
    unfold bindC at hb
    cases d with
    | tup ds =>
      simp only at hb
      split at hb
      · rename_i hl
        cases hb
        cases r with
        | @tup a vs _ ha rs => exact ⟨a, vs, rfl, ha, by rw [rs.length]; exact hl, gNames_ok rs hl E k⟩
      · cases hb
    | _ => cases hb
/-! ### comprehensions -/
theorem drop_cons {xs : List D} {i : Nat} (h : i < xs.length) : xs.drop i = xs[i] :: xs.drop (i + 1) := List.drop_eq_getElem_cons h
/-- what a comprehension asks of what it walks -/
def LcR (g : TG) (tt : TT) (te : TE) (vs : List Nat) (σ : L2.St) (Q : VK) : It → Hp → Prop := fun J H1 => ∀ D, H1 D = none → ∃ W : Nat → Nat → Hp → Prop, (∃ m, W 0 m (upd H1 D (.lst []))) ∧ ∀ i m H, W i m H →
  (J.stop i H ∧ Q (.ref D) H) ∨ (J.go i H ∧ ∃ Nx : Hp → Prop, (∀ H', Nx H' → ∃ m', m' < m ∧ W (i + 1) m' H') ∧ ∀ x H', J.yld i H x H' → g x (wipe σ vs) H' fun σ2 H2 => wipe σ2 vs = wipe σ vs ∧ tt σ2 H2 fun b H3 =>
    if b = true then te σ2 H3 fun y H4 => ∃ acc, H4 D = some (.lst acc) ∧ acc.length < sizeLine ∧ Nx (upd H4 D (.lst (acc ++ [y]))) else Nx H3)
theorem sim_compC {k : Bool} {t : CT} {vs : List Nat} {σ : L2.St} {Q : VK} {kc : Nat} {w1 : Wd} {env : Env} {mc me : Env → Store → R D} (hv : ∀ i ∈ ctSlots t, i ∈ vs) (S1 : SR C w1) (E1 : EnvR C w1 env σ)
    (h1 : Pst C w1 ((compC (fun d => bindC t d (wipeD env vs)) mc me kc LIM 0 w1.st).bind fun ys s2 => newL k ys s2) (WV C Q)) :
    ∃ k', D.cell kc = .cell k' ∧ k' < w1.st.n ∧ (∃ xs, w1.st.f k' = .lst xs) ∧ ∀ J, SrcC C (w1.ρ k') k' J → LcR (gCT C.K t) (SimT C mc) (SimE C me) vs σ Q J w1.H := by
  have el0 : ∃ xs, w1.st.f kc = .lst xs := by
    rw [show LIM = 999999 + 1 from rfl] at h1
    unfold compC at h1
    split at h1
    · exact ⟨_, by assumption⟩
    · exact h1.elim
  have hk : kc < w1.st.n := by
    obtain ⟨xs, e⟩ := el0
    exact S1.lt (k := kc) (by rw [e]; exact fun q => nomatch q)
  refine ⟨kc, rfl, hk, el0, fun J src Dl hD => ?_⟩
  cases ec : compC (fun d => bindC t d (wipeD env vs)) mc me kc LIM 0 w1.st with
  | stuck => rw [ec] at h1; exact h1.elim
  | exc e s => rw [ec] at h1; exact h1.elim
  | ok ys sE =>
    rw [ec] at h1
    have h1 : Pst C w1 (newL k ys sE) (WV C Q) := h1
    obtain ⟨l0, S0⟩ := Lp.start (o := .lst []) S1 hD
    refine ⟨fun i m H' => i + m = LIM ∧ ∃ w' acc accD rest, w'.H = H' ∧ SR C w' ∧ Lp Dl w1 w' ∧ w'.H Dl = some (.lst acc) ∧ RVs C w' acc accD ∧ accD.length ≤ i ∧
      compC (fun d => bindC t d (wipeD env vs)) mc me kc m i w'.st = .ok rest sE ∧ accD ++ rest = ys, ⟨LIM, by omega, _, [], [], ys, rfl, S0, l0, upd_same, .nil, Nat.le_refl _, ec, rfl⟩, ?_⟩
    rintro i m H' ⟨hi, w', acc, accD, rest, rfl, S', l, hDl, racc, hlen, hc, hys⟩
    cases m with
    | zero => unfold compC at hc; cases hc
    | succ n =>
    have el : ∃ xs, w'.st.f kc = .lst xs := by
      unfold compC at hc
      split at hc
      · exact ⟨_, by assumption⟩
      · cases hc
    obtain ⟨xs, exs⟩ := el
    have src' := src w' S' (l.ρ kc hk) xs exs
    unfold compC at hc
    simp only [exs] at hc
    by_cases hlt : i < xs.length
    · refine .inr ?_
      have ex' : xs[i]? = some xs[i] := by simp [hlt]
      have q := src'.1 i xs[i] ex'
      refine ⟨q.1, fun H'' => ∃ w' acc accD rest, w'.H = H'' ∧ SR C w' ∧ Lp Dl w1 w' ∧ w'.H Dl = some (.lst acc) ∧ RVs C w' acc accD ∧ accD.length ≤ i + 1 ∧
        compC (fun d => bindC t d (wipeD env vs)) mc me kc n (i + 1) w'.st = .ok rest sE ∧ accD ++ rest = ys, fun H'' hN => ⟨n, Nat.lt_succ_self _, by omega, hN⟩, fun x H'' hy => ?_⟩
      obtain ⟨eH, rx⟩ := q.2 x H'' hy
      subst eH
      simp only [ex'] at hc
      cases eb : bindC t xs[i] (wipeD env vs) with
      | none => simp only [eb] at hc; cases hc
      | some env1 =>
        simp only [eb] at hc
        refine gct_ok rx ((E1.monoK l.kp).wipe vs) eb fun σ' E' hw => ⟨?_, ?_⟩
        · have z := hw vs hv
          rw [z]
          have : ∀ (σ : L2.St) (vs us : List Nat), (∀ i ∈ us, i ∈ vs) → wipe (wipe σ vs) us = wipe σ vs := by
            intro σ vs us hsub
            apply List.ext_getElem?
            intro j
            have ext2 : ∀ (τ : L2.St) (own : List Nat) (j : Nat), (wipe τ own)[j]? = if j ∈ own ∧ j < τ.length then some none else τ[j]? := by
              intro τ own
              induction own with
              | nil => intro j; simp [wipe]
              | cons v vs ih =>
                intro j
                unfold wipe
                rw [List.getElem?_set, ih j, wipe_length]
                simp only [List.mem_cons]
                by_cases hv : v = j
                · subst hv
                  by_cases hl : v < τ.length
                  · simp [hl]
                  · simp [hl]
                · have : ¬ j = v := fun e => hv e.symm
                  simp [hv, this]
            rw [ext2 (wipe σ vs) us, ext2 σ vs, wipe_length]
            by_cases hu : j ∈ us ∧ j < σ.length
            · rw [if_pos hu, if_pos ⟨hsub j hu.1, hu.2⟩]
            · rw [if_neg hu]
          exact this σ vs vs fun _ h => h
        · refine ⟨w', env1, rfl, S', E', ?_⟩
          cases em : mc env1 w'.st with
          | stuck => rw [em] at hc; cases hc
          | exc e s => rw [em] at hc; cases hc
          | ok b s1 =>
            rw [em] at hc
            intro w2 p2 S2 e2
            have hc : boolK b s1 (fun s1 => (me env1 s1).noexc.bind fun y s2 => (compC (fun d => bindC t d (wipeD env vs)) mc me kc n (i + 1) s2).bind fun ys s3 => .ok (y :: ys) s3) (fun s1 => compC (fun d => bindC t d (wipeD env vs)) mc me kc n (i + 1) s1) = .ok rest sE := hc
            subst e2
            have l2 := l.step S' p2
            have hD2 : w2.H Dl = some (.lst acc) := p2.keepZ Dl _ l.res hDl
            have r2 := racc.mono S' p2
            cases b with
            | bl b =>
              refine ⟨b, rfl, ?_⟩
              cases b with
              | false =>
                show ∃ w' acc accD rest, _
                exact ⟨w2, acc, accD, rest, rfl, S2, l2, hD2, r2, by omega, hc, hys⟩
              | true =>
                show SimE C me σ' w2.H _
                have hc : ((me env1 w2.st).noexc.bind fun y s2 => (compC (fun d => bindC t d (wipeD env vs)) mc me kc n (i + 1) s2).bind fun ys s3 => R.ok (y :: ys) s3) = .ok rest sE := hc
                refine ⟨w2, env1, rfl, S2, E'.mono S' p2, ?_⟩
                cases ee : me env1 w2.st with
                | stuck => rw [ee] at hc; cases hc
                | exc e s => rw [ee] at hc; cases hc
                | ok y s2 =>
                  rw [ee] at hc
                  intro w3 p3 S3 e3 v rv
                  have hc : ((compC (fun d => bindC t d (wipeD env vs)) mc me kc n (i + 1) s2).bind fun ys s3 => R.ok (y :: ys) s3) = .ok rest sE := hc
                  subst e3
                  have l3 := l2.step S2 p3
                  have hD3 : w3.H Dl = some (.lst acc) := p3.keepZ Dl _ l2.res hD2
                  have r3 := r2.mono S2 p3
                  cases e4 : compC (fun d => bindC t d (wipeD env vs)) mc me kc n (i + 1) w3.st with
                  | stuck => rw [e4] at hc; cases hc
                  | exc e s => rw [e4] at hc; cases hc
                  | ok ys' s3 =>
                    rw [e4] at hc
                    have hc : R.ok (y :: ys') s3 = .ok rest sE := hc
                    cases hc
                    obtain ⟨l4, S4, k4⟩ := l3.upd (o := .lst (acc ++ [v])) S3 (fun u e => by rw [hD3] at e; cases e; exact .inl ⟨_, rfl⟩)
                    refine ⟨acc, hD3, LIM_lt ?_, _, acc ++ [v], accD ++ [y], ys', rfl, S4, l4, upd_same, (r3.append (.one rv)).monoK k4, by simp; exact hlen, e4, by simp [← hys]⟩
                    rw [r3.length]
                    omega
            | _ => cases hc
    · refine .inl ⟨src'.2 i (by omega), ?_⟩
      have ex' : xs[i]? = none := List.getElem?_eq_none (by omega)
      simp only [ex'] at hc
      cases hc
      rw [List.append_nil] at hys
      subst hys
      cases k with
      | false =>
        obtain ⟨st, S2, kp, nl⟩ := l.fin S1 S'
        exact h1 _ st S2 rfl _ (.lst (vs := acc) hDl nl (racc.monoK kp))
      | true =>
        obtain ⟨st, S2⟩ := l.cellK (c := .lst accD) S1 S' (fun w'' kp e => ⟨acc, by rw [e]; exact hDl, racc.monoK kp⟩)
        have q := h1 _ st S2 rfl (.ref Dl)
        refine q ?_
        have z := RV.cell (C := C) (w := ⟨w1.Z, fun k => if k = w'.st.n then Dl else w'.ρ k, w'.st.new (.lst accD), w'.H⟩) (k := w'.st.n) (Nat.lt_succ_self _)
        have e : (if w'.st.n = w'.st.n then Dl else w'.ρ w'.st.n) = Dl := if_pos rfl
        have z' : RV C ⟨w1.Z, fun k => if k = w'.st.n then Dl else w'.ρ k, w'.st.new (.lst accD), w'.H⟩ (.ref (if w'.st.n = w'.st.n then Dl else w'.ρ w'.st.n)) (.cell w'.st.n) := z
        rw [e] at z'
        exact z'
theorem sim_comp {k : Bool} {t : CT} {vs : List Nat} {σ : L2.St} {H : Hp} {Q : VK} {mi mc me : Env → Store → R D} (hv : ∀ i ∈ ctSlots t, i ∈ vs)
    (h : SimE C (fun env s => (mi env s).bind fun x s1 => (compX (fun d => bindC t d (wipeD env vs)) mc me x s1).bind fun ys s2 => newL k ys s2) σ H Q) : tLc (iSim C mi) (gCT C.K t) (SimT C mc) (SimE C me) vs σ H Q := by
  obtain ⟨w, env, rfl, S, ER, P⟩ := h
  refine ⟨w, env, rfl, S, ER, P.bind.mono fun w1 x p1 S1 h1 => ?_⟩
  cases ex : itemsOf x with
  | none =>
    simp only [compX, ex] at h1
    cases x with
    | cell kc => exact .inr (sim_compC hv S1 (ER.mono S p1) h1)
    | _ => exact h1.elim
  | some xs =>
    simp only [compX, ex] at h1
    by_cases hlim : xs.length ≤ LIM
    · rw [if_pos hlim] at h1
      refine .inl ⟨xs, rfl, fun J src Dl hD => ?_⟩
      have E1 := ER.mono S p1
      cases ec : compL (fun d => bindC t d (wipeD env vs)) mc me xs w1.st with
      | stuck => rw [ec] at h1; exact h1.elim
      | exc e s => rw [ec] at h1; exact h1.elim
      | ok ys sE =>
        rw [ec] at h1
        have h1 : Pst C w1 (newL k ys sE) (WV C Q) := h1
        obtain ⟨l0, S0⟩ := Lp.start (o := .lst []) S1 hD
        refine ⟨fun i m H' => m = xs.length - i ∧ i ≤ xs.length ∧ ∃ w' acc accD rest, w'.H = H' ∧ SR C w' ∧ Lp Dl w1 w' ∧ w'.H Dl = some (.lst acc) ∧ RVs C w' acc accD ∧ accD.length ≤ i ∧
          compL (fun d => bindC t d (wipeD env vs)) mc me (xs.drop i) w'.st = .ok rest sE ∧ accD ++ rest = ys, ⟨xs.length, rfl, Nat.zero_le _, _, [], [], ys, rfl, S0, l0, upd_same, .nil, Nat.le_refl _, ec, rfl⟩, ?_⟩
        rintro i m H' ⟨rfl, hi, w', acc, accD, rest, rfl, S', l, hDl, racc, hlen, hc, hys⟩
        by_cases hlt : i < xs.length
        · refine .inr ?_
          have q := (src w' l.kp).1 i xs[i] (by simp [hlt])
          refine ⟨q.1, fun H'' => ∃ w' acc accD rest, w'.H = H'' ∧ SR C w' ∧ Lp Dl w1 w' ∧ w'.H Dl = some (.lst acc) ∧ RVs C w' acc accD ∧ accD.length ≤ i + 1 ∧
            compL (fun d => bindC t d (wipeD env vs)) mc me (xs.drop (i + 1)) w'.st = .ok rest sE ∧ accD ++ rest = ys, fun H'' hN => ⟨xs.length - (i + 1), by omega, rfl, hlt, hN⟩, fun x H'' hy => ?_⟩
          obtain ⟨eH, rx⟩ := q.2 x H'' hy
          subst eH
          rw [drop_cons hlt] at hc
          unfold compL at hc
          cases eb : bindC t xs[i] (wipeD env vs) with
          | none => simp only [eb] at hc; cases hc
          | some env1 =>
            simp only [eb] at hc
            refine gct_ok rx ((E1.monoK l.kp).wipe vs) eb fun σ' E' hw => ⟨?_, ?_⟩
            · have z := hw vs hv
              rw [z]
              have : ∀ (σ : L2.St) (vs us : List Nat), (∀ i ∈ us, i ∈ vs) → wipe (wipe σ vs) us = wipe σ vs := by
                intro σ vs us hsub
                apply List.ext_getElem?
                intro j
                have ext2 : ∀ (τ : L2.St) (own : List Nat) (j : Nat), (wipe τ own)[j]? = if j ∈ own ∧ j < τ.length then some none else τ[j]? := by
                  intro τ own
                  induction own with
                  | nil => intro j; simp [wipe]
                  | cons v vs ih =>
                    intro j
                    unfold wipe
                    rw [List.getElem?_set, ih j, wipe_length]
                    simp only [List.mem_cons]
                    by_cases hv : v = j
                    · subst hv
                      by_cases hl : v < τ.length
                      · simp [hl]
                      · simp [hl]
                    · have : ¬ j = v := fun e => hv e.symm
                      simp [hv, this]
                rw [ext2 (wipe σ vs) us, ext2 σ vs, wipe_length]
                by_cases hu : j ∈ us ∧ j < σ.length
                · rw [if_pos hu, if_pos ⟨hsub j hu.1, hu.2⟩]
                · rw [if_neg hu]
              exact this σ vs vs fun _ h => h
            · refine ⟨w', env1, rfl, S', E', ?_⟩
              cases em : mc env1 w'.st with
              | stuck => rw [em] at hc; cases hc
              | exc e s => rw [em] at hc; cases hc
              | ok b s1 =>
                rw [em] at hc
                intro w2 p2 S2 e2
                have hc : boolK b s1 (fun s1 => (me env1 s1).noexc.bind fun y s2 => (compL (fun d => bindC t d (wipeD env vs)) mc me (xs.drop (i + 1)) s2).bind fun ys s3 => .ok (y :: ys) s3) (fun s1 => compL (fun d => bindC t d (wipeD env vs)) mc me (xs.drop (i + 1)) s1) = .ok rest sE := hc
                subst e2
                have l2 := l.step S' p2
                have hD2 : w2.H Dl = some (.lst acc) := p2.keepZ Dl _ l.res hDl
                have r2 := racc.mono S' p2
                cases b with
                | bl b =>
                  refine ⟨b, rfl, ?_⟩
                  cases b with
                  | false =>
                    show ∃ w' acc accD rest, _
                    exact ⟨w2, acc, accD, rest, rfl, S2, l2, hD2, r2, by omega, hc, hys⟩
                  | true =>
                    show SimE C me σ' w2.H _
                    have hc : ((me env1 w2.st).noexc.bind fun y s2 => (compL (fun d => bindC t d (wipeD env vs)) mc me (xs.drop (i + 1)) s2).bind fun ys s3 => R.ok (y :: ys) s3) = .ok rest sE := hc
                    refine ⟨w2, env1, rfl, S2, E'.mono S' p2, ?_⟩
                    cases ee : me env1 w2.st with
                    | stuck => rw [ee] at hc; cases hc
                    | exc e s => rw [ee] at hc; cases hc
                    | ok y s2 =>
                      rw [ee] at hc
                      intro w3 p3 S3 e3 v rv
                      have hc : ((compL (fun d => bindC t d (wipeD env vs)) mc me (xs.drop (i + 1)) s2).bind fun ys s3 => R.ok (y :: ys) s3) = .ok rest sE := hc
                      subst e3
                      have l3 := l2.step S2 p3
                      have hD3 : w3.H Dl = some (.lst acc) := p3.keepZ Dl _ l2.res hD2
                      have r3 := r2.mono S2 p3
                      cases e4 : compL (fun d => bindC t d (wipeD env vs)) mc me (xs.drop (i + 1)) w3.st with
                      | stuck => rw [e4] at hc; cases hc
                      | exc e s => rw [e4] at hc; cases hc
                      | ok ys' s3 =>
                        rw [e4] at hc
                        have hc : R.ok (y :: ys') s3 = .ok rest sE := hc
                        cases hc
                        obtain ⟨l4, S4, k4⟩ := l3.upd (o := .lst (acc ++ [v])) S3 (fun u e => by rw [hD3] at e; cases e; exact .inl ⟨_, rfl⟩)
                        refine ⟨acc, hD3, LIM_lt ?_, _, acc ++ [v], accD ++ [y], ys', rfl, S4, l4, upd_same, (r3.append (.one rv)).monoK k4, by simp; exact hlen, e4, by simp [← hys]⟩
                        rw [r3.length]
                        exact Nat.lt_of_le_of_lt hlen (Nat.lt_of_lt_of_le hlt hlim)
                | _ => cases hc
        · have e : i = xs.length := by omega
          subst e
          refine .inl ⟨(src w' l.kp).2, ?_⟩
          rw [List.drop_length] at hc
          unfold compL at hc
          cases hc
          rw [List.append_nil] at hys
          subst hys
          cases k with
          | false =>
            obtain ⟨st, S2, kp, nl⟩ := l.fin S1 S'
            exact h1 _ st S2 rfl _ (.lst (vs := acc) hDl nl (racc.monoK kp))
          | true =>
            obtain ⟨st, S2⟩ := l.cellK (c := .lst accD) S1 S' (fun w'' kp e => ⟨acc, by rw [e]; exact hDl, racc.monoK kp⟩)
            have q := h1 _ st S2 rfl (.ref Dl)
            refine q ?_
            have z := RV.cell (C := C) (w := ⟨w1.Z, fun k => if k = w'.st.n then Dl else w'.ρ k, w'.st.new (.lst accD), w'.H⟩) (k := w'.st.n) (Nat.lt_succ_self _)
            have e : (if w'.st.n = w'.st.n then Dl else w'.ρ w'.st.n) = Dl := if_pos rfl
            have z' : RV C ⟨w1.Z, fun k => if k = w'.st.n then Dl else w'.ρ k, w'.st.new (.lst accD), w'.H⟩ (.ref (if w'.st.n = w'.st.n then Dl else w'.ρ w'.st.n)) (.cell w'.st.n) := z
            rw [e] at z'
            exact z'
    · rw [if_neg hlim] at h1
      exact h1.elim
/-! ### for -/
def PF (C : Txs) (D : Ends) : Wd → F → Prop := fun w f => match f with
  | .nx env => ∀ σ, EnvR C w env σ → D.nx σ w.H
  | .rt d => ∀ v, RV C w v d → D.rt v w.H
def SimSt (C : Txs) (m : Env → Store → R F) : TS := fun D σ H => ∃ w env, w.H = H ∧ SR C w ∧ EnvR C w env σ ∧ Pst C w (m env w.st) (PF C D)
/-- what a loop asks of what it walks -/
def ForR (g : TG) (tb : TS) (D : Ends) (σ0 : L2.St) : It → Hp → Prop := fun J H1 => ∃ W : Nat → Nat → L2.St → Hp → Prop, (∃ m, W 0 m σ0 H1) ∧ ∀ i m σ H, W i m σ H →
  (J.stop i H ∧ D.nx σ H) ∨ (J.go i H ∧ ∃ N : L2.St → Hp → Prop, (∀ σ' H', N σ' H' → ∃ m', m' < m ∧ W (i + 1) m' σ' H') ∧ ∀ x H', J.yld i H x H' → g x σ H' fun σ2 H2 => tb { D with nx := N, ct := N, bk := D.nx } σ2 H2)
theorem sim_forC {t : CT} {σ : L2.St} {Dd : Ends} {kc W : Nat} {w1 : Wd} {env : Env} {mb : Env → Store → R F} (S1 : SR C w1) (E1 : EnvR C w1 env σ)
    (h1 : Pst C w1 (forC (fun d env => bindC t d env) mb kc W 0 env w1.st) (PF C Dd)) :
    ∃ k', D.cell kc = .cell k' ∧ k' < w1.st.n ∧ (∃ xs, w1.st.f k' = .lst xs) ∧ ∀ J, SrcC C (w1.ρ k') k' J → ForR (gCT C.K t) (SimSt C mb) Dd σ J w1.H := by
  have el0 : ∃ xs, w1.st.f kc = .lst xs := by
    cases W with
    | zero => unfold forC at h1; exact h1.elim
    | succ n =>
      unfold forC at h1
      split at h1
      · exact ⟨_, by assumption⟩
      · exact h1.elim
  have hk : kc < w1.st.n := by
    obtain ⟨xs, e⟩ := el0
    exact S1.lt (k := kc) (by rw [e]; exact fun q => nomatch q)
  refine ⟨kc, rfl, hk, el0, fun J src => ?_⟩
  refine ⟨fun i m σ' H' => ∃ w' env', w'.H = H' ∧ SR C w' ∧ w'.ρ kc = w1.ρ kc ∧ kc < w'.st.n ∧ EnvR C w' env' σ' ∧ Pst C w' (forC (fun d env => bindC t d env) mb kc m i env' w'.st) (PF C Dd),
      ⟨W, w1, env, rfl, S1, rfl, hk, E1, h1⟩, ?_⟩
  rintro i m σ' H' ⟨w', env', rfl, S', eρ, hk', E', Pw⟩
  cases m with
  | zero => unfold forC at Pw; exact Pw.elim
  | succ n =>
    have el : ∃ xs, w'.st.f kc = .lst xs := by
      unfold forC at Pw
      split at Pw
      · exact ⟨_, by assumption⟩
      · exact Pw.elim
    obtain ⟨xs, exs⟩ := el
    have src' := src w' S' eρ xs exs
    unfold forC at Pw
    simp only [exs] at Pw
    by_cases hlt : i < xs.length
    · refine .inr ?_
      have ex' : xs[i]? = some xs[i] := by simp [hlt]
      have q := src'.1 i xs[i] ex'
      refine ⟨q.1, fun σ'' H'' => ∃ w' env', w'.H = H'' ∧ SR C w' ∧ w'.ρ kc = w1.ρ kc ∧ kc < w'.st.n ∧ EnvR C w' env' σ'' ∧ Pst C w' (forC (fun d env => bindC t d env) mb kc n (i + 1) env' w'.st) (PF C Dd),
        fun σ'' H'' hN => ⟨n, Nat.lt_succ_self _, hN⟩, fun x H'' hy => ?_⟩
      obtain ⟨eH, rx⟩ := q.2 x H'' hy
      subst eH
      simp only [ex'] at Pw
      cases eb : bindC t xs[i] env' with
      | none => simp only [eb] at Pw; exact Pw.elim
      | some env1 =>
        simp only [eb] at Pw
        refine gct_ok rx E' eb fun σ2 E2 _ => ?_
        refine ⟨w', env1, rfl, S', E2, Pw.bind.mono fun w2 f p2 S2 h2 => ?_⟩
        cases f with
        | nx env2 => exact fun σ3 E3 => ⟨w2, env2, rfl, S2, (p2.ρ kc hk').trans eρ, Nat.lt_of_lt_of_le hk' p2.n, E3, h2⟩
        | rt d => exact h2.here S2
    · refine .inl ⟨src'.2 i (by omega), ?_⟩
      have ex' : xs[i]? = none := List.getElem?_eq_none (by omega)
      simp only [ex'] at Pw
      exact Pw.here S' σ' E'
theorem sim_for {t : CT} {σ : L2.St} {H : Hp} {Dd : Ends} {mi : Env → Store → R D} {mb : Env → Store → R F} {W : Nat}
    (h : SimSt C (fun env s => (mi env s).bind fun x s1 => forX W (fun d env => bindC t d env) mb x env s1) Dd σ H) : tFor (iSim C mi) (gCT C.K t) (SimSt C mb) Dd σ H := by
  obtain ⟨w, env, rfl, S, ER, P⟩ := h
  refine ⟨w, env, rfl, S, ER, P.bind.mono fun w1 x p1 S1 h1 => ?_⟩
  cases ex : itemsOf x with
  | none =>
    simp only [forX, ex] at h1
    cases x with
    | cell kc => exact .inr (sim_forC S1 (ER.mono S p1) h1)
    | _ => exact h1.elim
  | some xs =>
    simp only [forX, ex] at h1
    refine .inl ⟨xs, rfl, fun J src => ?_⟩
    refine ⟨fun i m σ' H' => m = xs.length - i ∧ i ≤ xs.length ∧ ∃ w' env', w'.H = H' ∧ SR C w' ∧ Kp w1 w' ∧ EnvR C w' env' σ' ∧ Pst C w' (forL (fun d env => bindC t d env) mb (xs.drop i) env' w'.st) (PF C Dd),
      ⟨xs.length, rfl, Nat.zero_le _, w1, env, rfl, S1, .refl _, ER.mono S p1, h1⟩, ?_⟩
    rintro i m σ' H' ⟨rfl, hi, w', env', rfl, S', kp, E', Pw⟩
    by_cases hlt : i < xs.length
    · refine .inr ?_
      have q := (src w' kp).1 i xs[i] (by simp [hlt])
      refine ⟨q.1, fun σ'' H'' => ∃ w' env', w'.H = H'' ∧ SR C w' ∧ Kp w1 w' ∧ EnvR C w' env' σ'' ∧ Pst C w' (forL (fun d env => bindC t d env) mb (xs.drop (i + 1)) env' w'.st) (PF C Dd),
        fun σ'' H'' hN => ⟨xs.length - (i + 1), by omega, rfl, hlt, hN⟩, fun x H'' hy => ?_⟩
      obtain ⟨eH, rx⟩ := q.2 x H'' hy
      subst eH
      rw [drop_cons hlt] at Pw
      unfold forL at Pw
      cases eb : bindC t xs[i] env' with
      | none => simp only [eb] at Pw; exact Pw.elim
      | some env1 =>
        simp only [eb] at Pw
        refine gct_ok rx E' eb fun σ2 E2 _ => ?_
        refine ⟨w', env1, rfl, S', E2, Pw.bind.mono fun w2 f p2 S2 h2 => ?_⟩
        cases f with
        | nx env2 => exact fun σ3 E3 => ⟨w2, env2, rfl, S2, kp.trans (.of S' p2), E3, h2⟩
        | rt d => exact h2.here S2
    · have e : i = xs.length := by omega
      subst e
      refine .inl ⟨(src w' kp).2, ?_⟩
      rw [List.drop_length] at Pw
      unfold forL at Pw
      exact Pw.here S' σ' E'
theorem sim_whl {σ : L2.St} {H : Hp} {Dd : Ends} {mc : Env → Store → R D} {mb : Env → Store → R F} {n : Nat}
    (h : SimSt C (fun env s => whlL mc mb n env s) Dd σ H) : tWhile (SimT C mc) (SimSt C mb) Dd σ H := by
  refine ⟨fun n σ H => SimSt C (fun env s => whlL mc mb n env s) Dd σ H, ⟨n, h⟩, ?_⟩
  rintro n σ H ⟨w, env, rfl, S, ER, P⟩
  cases n with
  | zero => exact P.elim
  | succ n =>
    have P : Pst C w ((mc env w.st).bind fun x s1 => boolK x s1 (fun s1 => (mb env s1).bind fun f s2 => (match f with
      | .nx env2 => whlL mc mb n env2 s2
      | .rt d => .ok (.rt d) s2)) (fun s1 => .ok (.nx env) s1)) (PF C Dd) := P
    refine ⟨w, env, rfl, S, ER, P.bind.mono fun w1 x p1 S1 h1 => ?_⟩
    cases x with
    | bl b =>
      refine ⟨b, rfl, ?_⟩
      cases b with
      | false => exact h1.here S1 σ (ER.mono S p1)
      | true =>
        have h1 : Pst C w1 ((mb env w1.st).bind fun f s2 => (match f with
          | .nx env2 => whlL mc mb n env2 s2
          | .rt d => .ok (.rt d) s2)) (PF C Dd) := h1
        refine ⟨fun σ' H' => SimSt C (fun env s => whlL mc mb n env s) Dd σ' H', fun σ' H' q => ⟨n, Nat.lt_succ_self _, q⟩, w1, env, rfl, S1, ER.mono S p1, h1.bind.mono fun w2 f p2 S2 h2 => ?_⟩
        cases f with
        | nx env2 => exact fun σ3 E3 => ⟨w2, env2, rfl, S2, E3, h2⟩
        | rt d => exact h2.here S2
    | _ => exact h1.elim
end
end PI

/-! PK: targets, statements, dict displays. -/
namespace PI
open PySem PySem.Spec PyProof.Rows L2
theorem PG.imp {X : Cx} {e : Expr} {t t' : TG} (h : PG X e t) (k : ∀ v σ H Q, t' v σ H Q → t v σ H Q) : PG X e t' := ⟨fun pins s σ H v u Q I r q => h.run pins s σ H v u Q I r (k v σ H Q q)⟩
theorem PGs.imp {X : Cx} {es : List Expr} {t t' : TGs} (h : PGs X es t) (k : ∀ v σ H Q, t' v σ H Q → t v σ H Q) : PGs X es t' := ⟨fun pins s σ H vs us Q I r q => h.run pins s σ H vs us Q I r (k vs σ H Q q)⟩
theorem PS.imp {X : Cx} {e : Stmt} {t t' : TS} (h : PS X e t) (k : ∀ D σ H, t' D σ H → t D σ H) : PS X e t' := ⟨fun pins s σ H D I q => h.run pins s σ H D I (k D σ H q)⟩
theorem PSs.imp {X : Cx} {e : List Stmt} {t t' : TS} (h : PSs X e t) (k : ∀ D σ H, t' D σ H → t D σ H) : PSs X e t' := ⟨fun pins s σ H D I q => h.run pins s σ H D I (k D σ H q)⟩
def gFld (K : PySem.W.Frag) (to : TE) (f : Str) : TG := fun v σ H Q => to σ H fun x H1 => ∃ a C dx fs, x = .ref a ∧ H1 a = some (.ins C dx fs) ∧ Cls K C ∧ NoAttr K C f ∧ fs.length < 1000 ∧ Q σ (upd H1 a (.ins C dx (putF f v fs)))
section
variable {X : Cx} {C : Txs} {G : GE}
theorem pg_fldA {o : Expr} {to : TE} {f : Str} {pos : Pos} (ho : PE X o to) : PG X (.Attribute o f pos) (gFld X.K to f) := by
  refine ⟨fun pins s σ H v u Q I r h => ?_⟩
  show wpAny _ _ (do
    let ov ← holding [u] (eval o X.env)
    standAt pos.atName
    holding [u, ov] (setAttr ov f u)
    release [u, ov] []) _ _ s
  refine wpAny_bind (wpAny_holding (thn (ho.run pins s σ H _ I h) fun ov s1 ⟨x, H1, I1, r1, a, Cc, dx, fs, ex, ea, c, n, l, q⟩ => ?_))
  subst ex
  obtain rfl : ov = Value.ref a := r1
  refine wpAny_bind (wpAny_standAt (wpAny_bind (wpAny_holding (setattr_ok I1 ea c n l r fun s3 I3 => ?_))))
  exact wpAny_release ⟨σ, _, I3, q⟩
/-- a store, by what is reckoned -/
def SimTg (C : Txs) (ms : D → Env → Store → R Env) : TG := fun v σ H Q => ∃ w env d, w.H = H ∧ SR C w ∧ EnvR C w env σ ∧ RV C w v d ∧ Pst C w (ms d env w.st) fun w' env' => ∀ σ', EnvR C w' env' σ' → Q σ' w'.H
def SimTgs (C : Txs) (ms : List D → Env → Store → R Env) : TGs := fun vs σ H Q => ∃ w env ds, w.H = H ∧ SR C w ∧ EnvR C w env σ ∧ RVs C w vs ds ∧ Pst C w (ms ds env w.st) fun w' env' => ∀ σ', EnvR C w' env' σ' → Q σ' w'.H
theorem pg_name' {i : Nat} {x : Str} {pos : Pos} (hN : X.N.Nodup) (hi : X.N[i]? = some x) (hx : Loc X.env.scope x) (hf : X.fn x = true ∨ X.env.scope.names.lookup x = some .local) : PG X (.Name x pos) (SimTg C (storeT G (.name i))) :=
  PG.imp (pg_name hN hi hx hf) fun v σ H Q h => by
    obtain ⟨w, env, d, rfl, S, ER, r, P⟩ := h
    exact P.here S _ (ER.set r)
theorem pg_fld' {f : Nat} {x : Str} {o : Expr} {c : E} {pos : Pos} (hK : C.K = X.K) (cl : ClsOk C X.K) (hx : C.fl[f]? = some x) (ho : PE X o (SimE C (evalE G c))) : PG X (.Attribute o x pos) (SimTg C (storeT G (.fld c f))) :=
  PG.imp (pg_fldA ho) fun v σ H Q h => by
    obtain ⟨w, env, d, rfl, S, ER, r, P⟩ := h
    unfold storeT at P
    refine ⟨w, env, rfl, S, ER, P.bind.mono fun w1 y p1 S1 h1 u ru => ?_⟩
    split at h1
    · rename_i k
      split at h1
      · rename_i cc fs ec
        split at h1
        · rename_i hl
          have z := S1.cell k
          rw [ec] at z
          obtain ⟨dx, gs, e1, q1⟩ := z
          have ev : u = .ref (w1.ρ k) := by cases ru; rfl
          subst ev
          have hk : w1.st.f k ≠ .dead := by rw [ec]; exact fun q => nomatch q
          have r1 := r.mono S p1
          obtain ⟨st, S'⟩ := step_set (o := .ins (C.ca cc) dx (putF x v gs)) (c := .ins cc (putN f d fs)) S1 hk (fun w' st e => ⟨dx, _, e, FR.put cl.nd hx (r1.mono S1 st) (q1.mono S1 st)⟩)
          refine ⟨_, _, dx, gs, rfl, e1, cl.cls (fun e => by rw [e] at hx; cases hx) cc, cl.no cc f x hx, by rw [q1.length]; omega, ?_⟩
          exact h1 _ st S' rfl σ ((ER.mono S p1).mono S1 st)
        · exact h1.elim
      · exact h1.elim
    · exact h1.elim
def SimSet (C : Txs) (g : D → D → D → Store → R Unit) : TSet := fun o i v H Q => ∃ w x y d, w.H = H ∧ SR C w ∧ RV C w o x ∧ RV C w i y ∧ RV C w v d ∧ Pst C w (g x y d w.st) fun w' _ => Q w'.H
/-- o[i] = v, on values -/
def setV (T : List Str) (x i d : D) (s : Store) : R Unit := match x with
    | .cell k => (match s.f k with
      | .lst xs => (match i with
        | .int z => (match ixN xs.length z with
          | some j => .ok () (s.set k (.lst (xs.set j d)))
          | none => .stuck)
        | _ => .stuck)
      | .dct kvs => if keyD i = true ∧ kvs.length < LIM then .ok () (s.set k (.dct (putD T i d kvs))) else .stuck
      | _ => .stuck)
    | _ => .stuck
theorem pset_ok (nd : C.tg.Nodup) (hu : X.A.units + 1 < cLine) : PSet X (SimSet C (setV C.tg)) := by
  intro pins s σ H o i v ov iv u Q I ro ri rv h
  obtain ⟨w, x, y, d, rfl, S, r1, r2, r3, P⟩ := h
  unfold setV at P
  split at P
  · rename_i k
    have ev : o = .ref (w.ρ k) := by cases r1; rfl
    subst ev
    split at P
    · rename_i xs ec
      have hk : w.st.f k ≠ .dead := by rw [ec]; exact fun q => nomatch q
      have z := S.cell k
      rw [ec] at z
      obtain ⟨vs, e1, q1⟩ := z
      split at P
      · rename_i zi
        split at P
        · rename_i j hj
          obtain ⟨st, S'⟩ := step_set (o := .lst (vs.set j v)) (c := .lst (xs.set j d)) S hk (fun w' st e => ⟨_, e, (q1.mono S st).set j (r3.mono S st)⟩)
          exact set_list pins s σ w.H _ i v ov iv u Q I ro ri rv ⟨w.ρ k, vs, zi, j, rfl, r2.int_inv, e1, by rw [q1.length]; exact hj, P _ st S' rfl⟩
        · exact P.elim
      · exact P.elim
    · rename_i kvs ec
      have hk : w.st.f k ≠ .dead := by rw [ec]; exact fun q => nomatch q
      have z := S.cell k
      rw [ec] at z
      obtain ⟨gs, e1, q1⟩ := z
      split at P
      · rename_i hh
        obtain ⟨ky, ek, rfl⟩ := keyD_of r2 hh.1
        obtain ⟨st, S'⟩ := step_set (o := .dK (putK gs ky v)) (c := .dct (putD C.tg y d kvs)) S hk (fun w' st e => ⟨_, e, KR.put nd ek (r3.mono S st) (q1.mono S st)⟩)
        obtain rfl : ov = Value.ref (w.ρ k) := ro
        exact d_setItem hu I (DPut.k e1 (LIM_lt (by rw [q1.length]; exact hh.2))) ri rv fun s' I' => ⟨_, I', P _ st S' rfl⟩
      · exact P.elim
    · exact P.elim
  · exact P.elim
theorem setV_eq (c i : E) (d : D) (env : Env) (s : Store) : storeT G (.sub c i) d env s = (evalE G c env s).bind fun x s1 => (evalE G i env s1).bind fun y s2 => (setV G.tg x y d s2).bind fun _ s3 => .ok env s3 := by
  simp only [storeT]
  congr 1
  funext x s1
  congr 1
  funext y s2
  unfold setV
  cases x with
  | cell k =>
    simp only
    cases s2.f k with
    | lst xs =>
      cases y with
      | int z =>
        simp only
        cases ixN xs.length z <;> rfl
      | _ => rfl
    | dct kvs =>
      simp only
      split <;> rfl
    | _ => rfl
  | _ => rfl
theorem pg_sub' {o i : Expr} {c ci : E} {pos : Pos} (hT : G.tg = C.tg) (nd : C.tg.Nodup) (hu : X.A.units + 1 < cLine) (ho : PE X o (SimE C (evalE G c))) (hi : PE X i (SimE C (evalE G ci))) (hs : notSlice i = true) : PG X (.Subscript o i pos) (SimTg C (storeT G (.sub c ci))) :=
  PG.imp (pg_sub ho hi (pset_ok nd hu) (fun v => by cases i <;> first | rfl | cases hs)) fun v σ H Q h => by
    obtain ⟨w, env, d, rfl, S, ER, r, P⟩ := h
    rw [setV_eq, hT] at P
    refine ⟨w, env, rfl, S, ER, P.bind.mono fun w1 x p1 S1 h1 xv rx => ?_⟩
    have E1 := ER.mono S p1
    refine ⟨w1, env, rfl, S1, E1, h1.bind.mono fun w2 y p2 S2 h2 yv ry => ?_⟩
    exact ⟨w2, x, y, d, rfl, S2, rx.mono S1 p2, ry, (r.mono S p1).mono S1 p2, h2.bind.mono fun w3 _ p3 S3 h3 => h3.here S3 σ ((E1.mono S1 p2).mono S2 p3)⟩
theorem pgs_nil' : PGs X [] (SimTgs C (storeTs G [])) := PGs.imp pgs_nil fun vs σ H Q h => by
  obtain ⟨w, env, ds, rfl, S, ER, r, P⟩ := h
  cases ds with
  | nil => cases r; exact ⟨rfl, P.here S σ ER⟩
  | cons d ds => exact P.elim
theorem pgs_cons' {e : Expr} {es : List Expr} {t : Tg} {ts : List Tg} (h1 : PG X e (SimTg C (storeT G t))) (h2 : PGs X es (SimTgs C (storeTs G ts))) (hs : notStar e = true) : PGs X (e :: es) (SimTgs C (storeTs G (t :: ts))) := by
  have q := pgs_cons h1 h2 (by cases e <;> first | rfl | cases hs)
  refine PGs.imp q fun vs σ H Q h => ?_
  obtain ⟨w, env, ds, rfl, S, ER, r, P⟩ := h
  cases ds with
  | nil => exact P.elim
  | cons d ds =>
    cases r with
    | @cons v _ vs _ a b =>
      have P : Pst C w ((storeT G t d env w.st).bind fun env1 s1 => storeTs G ts ds env1 s1) (fun w' env' => ∀ σ', EnvR C w' env' σ' → Q σ' w'.H) := P
      exact ⟨v, vs, rfl, w, env, d, rfl, S, ER, a, P.bind.mono fun w1 env1 p1 S1 h1 σ1 E1 => ⟨w1, env1, ds, rfl, S1, E1, b.mono S p1, h1⟩⟩
theorem pg_tl {es : List Expr} {k : Nat} {t : TGs} {n : Nat} {pos : Pos} (hc : X.calm = true) (h : PGs X es t) (hn : (assignEach es X.env).length = n) (hst : (assignEach es X.env).findIdx? (·.1) = none) : PG X (.Tuple es k pos) (fun v σ H Q => gTup X.K n t v σ H Q ∨ gLst X.K n t v σ H Q) := by
  refine ⟨fun pins s σ H v u Q I r q => ?_⟩
  rcases q with q | q
  · exact (pg_tup hc h hn hst).run pins s σ H v u Q I r q
  · exact (pg_lst hc h hn hst).run pins s σ H v u Q I r q
theorem assignEach_star : ∀ {es : List Expr} {env : PySem.Env}, es.all notStar = true → (assignEach es env).length = es.length ∧ (assignEach es env).findIdx? (·.1) = none
  | [], _, _ => ⟨rfl, rfl⟩
  | e :: es, env, h => by
    rw [List.all_cons, Bool.and_eq_true] at h
    have q : assignEach (e :: es) env = (false, assign e env) :: assignEach es env := by
      have h1 := h.1
      cases e <;> first | rfl | cases h1
    have ih := assignEach_star (env := env) h.2
    rw [q]
    refine ⟨by simp [ih.1], ?_⟩
    rw [List.findIdx?_cons, ih.2] <;> rfl
/-! ### statements -/
variable {e : Expr} {me : Env → Store → R D} {pos : Pos}
def notTup : Expr → Bool
  | .Tuple _ _ _ => false
  | _ => true
def plainTg : Expr → Bool
  | .Name _ _ => true
  | .Attribute _ _ _ => true
  | .Subscript _ _ _ => true
  | _ => false
theorem stores_of {tg : Expr} (h : notTup e = true ∨ plainTg tg = true) (env : PySem.Env) : swappedStores [tg] e env = pure none := by
  unfold swappedStores
  rcases h with h | h
  · cases e <;> first | rfl | (cases tg <;> rfl) | cases h
  · cases tg <;> first | rfl | cases h
theorem ps_asg' {tg : Expr} {ms : D → Env → Store → R Env} (ht : notStar tg = true) (he : PE X e (SimE C me)) (hg : PG X tg (SimTg C ms)) (hs : swapsWith e (some tg) pos.line X.env = pure false) (hw : swappedStores [tg] e X.env = pure none) :
    PS X (.Assign [tg] e pos) (SimSt C fun env s => (me env s).bind fun d s1 => (ms d env s1).bind fun env1 s2 => .ok (.nx env1) s2) :=
  PS.imp (ps_asg he hg hs hw (by cases tg <;> first | rfl | cases ht)) fun Dd σ H h => by
    obtain ⟨w, env, rfl, S, ER, P⟩ := h
    refine ⟨w, env, rfl, S, ER, P.bind.mono fun w1 d p1 S1 h1 v rv => ?_⟩
    exact ⟨w1, env, d, rfl, S1, ER.mono S p1, rv, h1.bind.mono fun w2 env2 p2 S2 h2 σ2 E2 => h2.here S2 σ2 E2⟩
theorem ps_asgT' {es : List Expr} {ts : List Tg} {k : Nat} {p2 : Pos} (hK : C.K = X.K) (hc : X.calm = true) (he : PE X e (SimE C me)) (hg : PGs X es (SimTgs C (storeTs G ts))) (hl : es.length = ts.length) (hst : es.all notStar = true) (hs : swapsWith e (some (.Tuple es k p2)) pos.line X.env = pure false) (hw : swappedStores [.Tuple es k p2] e X.env = pure none) :
    PS X (.Assign [.Tuple es k p2] e pos) (SimSt C fun env s => (me env s).bind fun d s1 => match deref s1 d with
    | .tup ds => if ds.length = ts.length then (storeTs G ts ds env s1).bind fun env1 s2 => .ok (.nx env1) s2 else .stuck
    | .lst ds => if ds.length = ts.length then (storeTs G ts ds env s1).bind fun env1 s2 => .ok (.nx env1) s2 else .stuck
    | _ => .stuck) :=
  PS.imp (ps_asg he (pg_tl hc hg (assignEach_star hst).1 (assignEach_star hst).2) hs hw) fun Dd σ H h => by
    obtain ⟨w, env, rfl, S, ER, P⟩ := h
    refine ⟨w, env, rfl, S, ER, P.bind.mono fun w1 d p1 S1 h1 v rv => ?_⟩
    have go : ∀ {vs : List V} {ds : List D}, RVs C w1 vs ds → Pst C w1 ((storeTs G ts ds env w1.st).bind fun env1 s2 => R.ok (F.nx env1) s2) (PF C Dd) → SimTgs C (storeTs G ts) vs σ w1.H Dd.nx := fun {vs ds} rs h2 =>
      ⟨w1, env, ds, rfl, S1, ER.mono S p1, rs, h2.bind.mono fun w2 env2 p2 S2 h3 σ2 E2 => h3.here S2 σ2 E2⟩
    split at h1
    · rename_i ds ed
      split at h1
      · rename_i hh
        obtain ⟨a, vs, rfl, ha, rs⟩ := dr_tup rv ed
        rw [hK] at ha
        exact .inl ⟨a, vs, rfl, ha, by rw [rs.length, hh, hl], go rs h1⟩
      · exact h1.elim
    · rename_i ds ed
      split at h1
      · rename_i hh
        obtain ⟨a, vs, rfl, ha, rs⟩ := dr_lst S1 rv ed
        exact .inr ⟨a, vs, rfl, SqL.of ha, by rw [rs.length, hh, hl], go rs h1⟩
      · exact h1.elim
    · exact h1.elim
theorem ps_ex' (he : PE X e (SimE C me)) (hs : notComp e = true) : PS X (.Expr e pos) (SimSt C fun env s => (me env s).bind fun _ s1 => .ok (.nx env) s1) :=
  PS.imp (ps_expr he (swaps_of hs _ _ _)) fun Dd σ H h => by
    obtain ⟨w, env, rfl, S, ER, P⟩ := h
    exact ⟨w, env, rfl, S, ER, P.bind.mono fun w1 d p1 S1 h1 v rv => h1.here S1 σ (ER.mono S p1)⟩
theorem ps_ret' (he : PE X e (SimE C me)) : PS X (.Return (some e) pos) (SimSt C fun env s => (me env s).bind fun d s1 => .ok (.rt d) s1) :=
  PS.imp (ps_ret he) fun Dd σ H h => by
    obtain ⟨w, env, rfl, S, ER, P⟩ := h
    exact ⟨w, env, rfl, S, ER, P.bind.mono fun w1 d p1 S1 h1 v rv => h1.here S1 v rv⟩
theorem ps_retN' : PS X (.Return none pos) (SimSt C fun _ s => .ok (.rt .non) s) :=
  PS.imp ps_retN fun Dd σ H h => by
    obtain ⟨w, env, rfl, S, ER, P⟩ := h
    exact P.here S _ .non
theorem ps_pass' : PS X (.Pass pos) (SimSt C fun env s => .ok (.nx env) s) :=
  PS.imp ps_pass fun Dd σ H h => by
    obtain ⟨w, env, rfl, S, ER, P⟩ := h
    exact P.here S σ ER
theorem ps_never' {st : Stmt} : PS X st (SimSt C fun _ _ => .stuck) :=
  PS.imp ps_never fun Dd σ H h => by
    obtain ⟨w, env, rfl, S, ER, P⟩ := h
    exact P
theorem ps_if' {c : Expr} {a b : List Stmt} {mc : Env → Store → R D} {mA mB : Env → Store → R F} (hc : PT X c (SimT C mc)) (ha : PSs X a (SimSt C mA)) (hb : PSs X b (SimSt C mB)) :
    PS X (.If c a b pos) (SimSt C fun env s => (mc env s).bind fun x s1 => boolK x s1 (fun s => mA env s) (fun s => mB env s)) :=
  PS.imp (ps_if hc ha hb) fun Dd σ H h => by
    obtain ⟨w, env, rfl, S, ER, P⟩ := h
    refine ⟨w, env, rfl, S, ER, P.bind.mono fun w1 x p1 S1 h1 => ?_⟩
    cases x with
    | bl k =>
      refine ⟨k, rfl, ?_⟩
      cases k with
      | true => exact ⟨w1, env, rfl, S1, ER.mono S p1, h1⟩
      | false => exact ⟨w1, env, rfl, S1, ER.mono S p1, h1⟩
    | _ => exact h1.elim
theorem ps_whl' {c : Expr} {b : List Stmt} {mc : Env → Store → R D} {mB : Env → Store → R F} {n : Nat} (hp : PassesOwn (model X.prog X.w) X.A X.env X.xe) (hc : PT X c (SimT C mc)) (hb : PSs X b (SimSt C mB)) :
    PS X (.While c b [] pos) (SimSt C fun env s => whlL mc mB n env s) :=
  PS.imp (ps_while hp hc hb) fun Dd σ H h => sim_whl h
theorem ps_for' {tg it : Expr} {b : List Stmt} {t : CT} {mi : Env → Store → R D} {mB : Env → Store → R F} {W : Nat} (hp : PassesOwn (model X.prog X.w) X.A X.env X.xe) (hc : X.calm = true) (hi : PI X tg it (iSim C mi)) (hg : PG X tg (gCT C.K t)) (hb : PSs X b (SimSt C mB)) (hs : notSet it = true) :
    PS X (.For tg it b [] pos) (SimSt C fun env s => (mi env s).bind fun x s1 => forX W (fun d env => bindC t d env) mB x env s1) :=
  PS.imp (ps_for hp hc hi hg hb (folded_of hs _)) fun Dd σ H h => sim_for h
theorem pss_nil' : PSs X [] (SimSt C fun env s => .ok (.nx env) s) :=
  PSs.imp pss_nil fun Dd σ H h => by
    obtain ⟨w, env, rfl, S, ER, P⟩ := h
    exact P.here S σ ER
theorem pss_cons' {st : Stmt} {rest : List Stmt} {m1 m2 : Env → Store → R F} (h1 : PS X st (SimSt C m1)) (h2 : PSs X rest (SimSt C m2)) : PSs X (st :: rest) (SimSt C fun env s => (m1 env s).bind fun f s1 => match f with
    | .nx env1 => m2 env1 s1
    | .rt d => .ok (.rt d) s1) :=
  PSs.imp (pss_cons h1 h2) fun Dd σ H h => by
    obtain ⟨w, env, rfl, S, ER, P⟩ := h
    refine ⟨w, env, rfl, S, ER, P.bind.mono fun w1 f p1 S1 h1 => ?_⟩
    cases f with
    | nx env1 => exact fun σ1 E1 => ⟨w1, env1, rfl, S1, E1, h1⟩
    | rt d => exact h1.here S1
end
end PI

/-! PL: comprehensions as expressions, dict displays, the translation. -/
namespace PI
open PySem PySem.Spec PyProof.Rows L2
/-! ### dict displays -/
def flatEs : List (E × E) → Es
  | [] => .nil
  | p :: r => .cons p.1 (.cons p.2 (flatEs r))
section
variable {X : Cx} {C : Txs} {G : GE}
inductive PR (C : Txs) (w : Wd) : List (V × V) → List D → Prop
  | nil : PR C w [] []
  | cons {v u : V} {x y : D} {ps : List (V × V)} {ds : List D} : RV C w v x → RV C w u y → PR C w ps ds → PR C w ((v, u) :: ps) (x :: y :: ds)
theorem PR.monoK {w w' : Wd} (k : Kp w w') {ps : List (V × V)} {ds : List D} (h : PR C w ps ds) : PR C w' ps ds := by
  induction h with
  | nil => exact .nil
  | cons a b _ ih => exact .cons (a.monoK k) (b.monoK k) ih
theorem pairs_sim {p : Addr} {w0 : Wd} {σ : L2.St} {env : Env} {sE : Store} : ∀ (cs : List (E × E)) (ds : List D) (w' : Wd) (Kc : List (V × V) → Hp → Prop), SR C w' → Lp p w0 w' → w'.H p = some (.dK []) → EnvR C w' env σ → evalEs G (flatEs cs) env w'.st = .ok ds sE →
    (∀ w2 ps, SR C w2 → Lp p w0 w2 → w2.H p = some (.dK []) → w2.st = sE → Kp w' w2 → PR C w2 ps ds → Kc ps w2.H) → tPairs (cs.map fun q => (SimE C (evalE G q.1), SimE C (evalE G q.2))) σ w'.H Kc
  | [], ds, w', Kc, S, l, hp, ER, e, k => by
    simp only [flatEs, evalEs] at e
    cases e
    exact k w' [] S l hp rfl (.refl _) .nil
  | q :: cs, ds, w', Kc, S, l, hp, ER, e, k => by
    simp only [flatEs, evalEs] at e
    show SimE C (evalE G q.1) σ w'.H fun x H1 => SimE C (evalE G q.2) σ H1 fun y H2 => tPairs (cs.map fun q => (SimE C (evalE G q.1), SimE C (evalE G q.2))) σ H2 fun ps H3 => Kc ((x, y) :: ps) H3
    refine ⟨w', env, rfl, S, ER, ?_⟩
    cases e1 : evalE G q.1 env w'.st with
    | stuck => rw [e1] at e; cases e
    | exc a b => rw [e1] at e; cases e
    | ok x s1 =>
      rw [e1] at e
      simp only [R.bind_ok] at e
      intro w1 p1 S1 es1 v rv
      subst es1
      have E1 := ER.mono S p1
      refine ⟨w1, env, rfl, S1, E1, ?_⟩
      cases e2 : evalE G q.2 env w1.st with
      | stuck => rw [e2] at e; cases e
      | exc a b => rw [e2] at e; cases e
      | ok y s2 =>
        rw [e2] at e
        simp only [R.bind_ok] at e
        intro w2 p2 S2 es2 u ru
        subst es2
        cases e3 : evalEs G (flatEs cs) env w2.st with
        | stuck => rw [e3] at e; cases e
        | exc a b => rw [e3] at e; cases e
        | ok ds' s3 =>
          rw [e3] at e
          simp only [R.bind_ok] at e
          cases e
          have l1 := l.step S p1
          have l2 := l1.step S1 p2
          have hp2 : w2.H p = some (.dK []) := p2.keepZ p _ l1.res (p1.keepZ p _ l.res hp)
          refine pairs_sim (w0 := w0) cs ds' w2 _ S2 l2 hp2 (E1.mono S1 p2) e3 fun w3 ps S3 l3 hp3 e3' k3 r3 => ?_
          exact k w3 ((v, u) :: ps) S3 l3 hp3 e3' (((Kp.of S p1).trans (.of S1 p2)).trans k3) (.cons ((rv.mono S1 p2).monoK k3) (ru.monoK k3) r3)
theorem pairs_keys {w : Wd} : ∀ {ps : List (V × V)} {ds : List D} {kvs : List (D × D)}, PR C w ps ds → pairsOf ds = some kvs → ∃ gs : List (Key × V), ps = gs.map (fun kv => (kV kv.1, kv.2)) ∧ KR C w gs kvs
  | _, _, _, .nil, e => by cases e; exact ⟨[], rfl, .nil⟩
  | _, _, kvs, .cons (v := v) (u := u) (x := x) (y := y) (ps := ps) (ds := ds) a b c, e => by
    unfold pairsOf at e
    split at e
    · rename_i hk
      obtain ⟨kvs', h1, h2⟩ := Option.map_eq_some_iff.mp e
      subst h2
      obtain ⟨gs, e1, r1⟩ := pairs_keys c h1
      obtain ⟨k, ek, rfl⟩ := keyD_of a hk
      exact ⟨(k, u) :: gs, by rw [e1]; rfl, .cons ek b r1⟩
    · cases e
theorem fold_put (nd : C.tg.Nodup) {w : Wd} : ∀ {gs : List (Key × V)} {kvs : List (D × D)}, KR C w gs kvs → ∀ {gs0 : List (Key × V)} {kvs0 : List (D × D)}, KR C w gs0 kvs0 → KR C w (mergeK gs0 gs) (kvs.foldl (fun l p => putD C.tg p.1 p.2 l) kvs0)
  | _, _, .nil, _, _, h => h
  | _, _, .cons a b c, _, _, h => fold_put nd c (KR.put nd a b h)
theorem pe_dct' {keys : List (Option Expr)} {values : List Expr} {pos : Pos} {cs : List (E × E)} {k : Bool} (hT : G.tg = C.tg) (nd : C.tg.Nodup) (h : PPs X pos keys values (cs.map fun q => (SimE C (evalE G q.1), SimE C (evalE G q.2)))) (hall : keys.all (·.isSome) = true) (hl : keys.length = values.length) (h0 : keys ≠ [])
    (h15 : keys.length ≤ 15) : PE X (.Dict keys values pos) (SimE C (evalE G (.dct k (flatEs cs)))) := by
  refine PE.imp (pe_disp h hall hl h0 h15) fun σ H Q hh => ?_
  obtain ⟨w, env, rfl, S, ER, P⟩ := hh
  simp only [evalE] at P
  intro p hp
  cases e : evalEs G (flatEs cs) env w.st with
  | stuck => rw [e] at P; exact P.elim
  | exc a b => rw [e] at P; exact P.elim
  | ok ds sE =>
    rw [e] at P
    simp only [R.bind_ok] at P
    split at P
    · rename_i kvs hkv
      split at P
      · rename_i hlen
        obtain ⟨l0, S0⟩ := Lp.start (o := .dK []) S hp
        refine pairs_sim (w0 := w) cs ds ⟨fun a => w.Z a ∨ a = p, w.ρ, w.st, upd w.H p (.dK [])⟩ _ S0 l0 upd_same (ER.monoK l0.kp) e fun w2 ps S2 l2 hp2 e2 k2 r2 => ⟨hp2, ?_⟩
        obtain ⟨gs, e3, r3⟩ := pairs_keys r2 hkv
        refine ⟨gs, e3, by rw [r3.length]; exact hlen, ?_⟩
        obtain ⟨l3, S3, k3⟩ := l2.upd (o := .dK (mergeK [] gs)) S2 (fun u e => by rw [hp2] at e; cases e; exact .inr ⟨_, rfl⟩)
        have r4 := fold_put nd (r3.monoK k3) (gs0 := []) (kvs0 := []) .nil
        subst e2
        rw [hT] at P
        cases k with
        | false =>
          obtain ⟨st, S4, kp, nl⟩ := l3.fin S S3
          exact P _ st S4 rfl _ (.dct (gs := mergeK [] gs) upd_same nl (r4.monoK kp))
        | true =>
          obtain ⟨st, S4⟩ := l3.cellK (c := .dct (kvs.foldl (fun l p => putD C.tg p.1 p.2 l) [])) S S3 (fun w'' kp e => ⟨mergeK [] gs, by rw [e]; exact upd_same, r4.monoK kp⟩)
          have q := P _ st S4 rfl (.ref p)
          refine q ?_
          have z := RV.cell (C := C) (w := ⟨w.Z, fun k => if k = w2.st.n then p else w2.ρ k, w2.st.new (.dct (kvs.foldl (fun l p => putD C.tg p.1 p.2 l) [])), upd w2.H p (.dK (mergeK [] gs))⟩) (k := w2.st.n) (Nat.lt_succ_self _)
          have e : (if w2.st.n = w2.st.n then p else w2.ρ w2.st.n) = p := if_pos rfl
          have z' : RV C ⟨w.Z, fun k => if k = w2.st.n then p else w2.ρ k, w2.st.new (.dct (kvs.foldl (fun l p => putD C.tg p.1 p.2 l) [])), upd w2.H p (.dK (mergeK [] gs))⟩ (.ref (if w2.st.n = w2.st.n then p else w2.ρ w2.st.n)) (.cell w2.st.n) := z
          rw [e] at z'
          exact z'
      · exact P.elim
    · exact P.elim
/-! ### comprehensions -/
theorem pts_cst : PTs X [] (SimT C (evalE G (.cst (.bl true)))) := ⟨fun pins s σ H Q I h => pts_nil.run pins s σ H Q I (by
  obtain ⟨w, env, rfl, S, ER, P⟩ := h
  simp only [evalE] at P
  obtain ⟨b, e, q⟩ := P.here S
  cases e
  exact q)⟩
theorem pe_comp' {elt tg iter : Expr} {ifs : List Expr} {scope : Scope} {own : List (Str × Nat)} {pos : Pos} {k : Bool} {t : CT} {mi : Env → Store → R D} {ct ce : E} (hc : X.calm = true) (hN : X.N.Nodup) (hi : PI X tg iter (iSim C mi)) (ok : BlkOk X.N X.env.scope scope own)
    (hg : ∀ (s : Shared) (H : Hp) (Ca : Addr) (cl : List (Str × Addr)) (fp : List Addr), PG (X.blk s H scope (compEnvC scope cl Ca X.env) fp) tg (gCT C.K t)) (ht : ∀ (s : Shared) (H : Hp) (Ca : Addr) (cl : List (Str × Addr)) (fp : List Addr), PTs (X.blk s H scope (compEnvC scope cl Ca X.env) fp) ifs (SimT C (evalE G ct)))
    (he : ∀ (s : Shared) (H : Hp) (Ca : Addr) (cl : List (Str × Addr)) (fp : List Addr), PE (X.blk s H scope (compEnvC scope cl Ca X.env) fp) elt (SimE C (evalE G ce))) (hv : ∀ i ∈ ctSlots t, i ∈ own.map (·.2)) (hs : notSet iter = true) :
    PE X (.ListComp elt [⟨tg, iter, ifs, 0⟩] scope pos) (SimE C fun env s => (mi env s).bind fun x s1 => (compX (fun d => bindC t d (wipeD env (own.map (·.2)))) (fun env s => evalE G ct env s) (fun env s => evalE G ce env s) x s1).bind fun ys s2 => newL k ys s2) :=
  PE.imp (pe_lc hc hN hi ok hg ht he (folded_of hs _)) fun σ H Q h => sim_comp hv h
theorem ps_comp' {i : Nat} {y : Str} {py : Pos} {elt tg iter : Expr} {ifs : List Expr} {scope : Scope} {own : List (Str × Nat)} {pos spos : Pos} {k : Bool} {t : CT} {mi : Env → Store → R D} {ct ce : E} (hc : X.calm = true) (hN : X.N.Nodup) (hy : X.N[i]? = some y) (hyl : X.env.scope.names.lookup y = some .local)
    (hsw : swapsWith (.ListComp elt [⟨tg, iter, ifs, 0⟩] scope pos) (some (.Name y py)) spos.line X.env = pure true) (hi : PI X tg iter (iSim C mi)) (ok : BlkOk X.N X.env.scope scope own)
    (hg : ∀ (s : Shared) (H : Hp) (Ca : Addr) (cl : List (Str × Addr)) (fp : List Addr), PG (X.blk s H scope (compEnvC scope cl Ca X.env) fp) tg (gCT C.K t)) (ht : ∀ (s : Shared) (H : Hp) (Ca : Addr) (cl : List (Str × Addr)) (fp : List Addr), PTs (X.blk s H scope (compEnvC scope cl Ca X.env) fp) ifs (SimT C (evalE G ct)))
    (he : ∀ (s : Shared) (H : Hp) (Ca : Addr) (cl : List (Str × Addr)) (fp : List Addr), PE (X.blk s H scope (compEnvC scope cl Ca X.env) fp) elt (SimE C (evalE G ce))) (hv : ∀ i ∈ ctSlots t, i ∈ own.map (·.2)) (hs : notSet iter = true) :
    PS X (.Assign [.Name y py] (.ListComp elt [⟨tg, iter, ifs, 0⟩] scope pos) spos) (SimSt C fun env s => ((mi env s).bind fun x s1 => (compX (fun d => bindC t d (wipeD env (own.map (·.2)))) (fun env s => evalE G ct env s) (fun env s => evalE G ce env s) x s1).bind fun ys s2 => newL k ys s2).bind fun d s1 => (storeT G (.name i) d env s1).bind fun env1 s2 => .ok (.nx env1) s2) :=
  PS.imp (ps_setLc hc hN hy hyl hsw hi ok hg ht he (folded_of hs _)) fun Dd σ H h => by
    show tLc (iSim C mi) (gCT C.K t) (SimT C (evalE G ct)) (SimE C (evalE G ce)) (own.map (·.2)) σ H fun x H1 => gName i x σ H1 Dd.nx
    refine sim_comp (k := k) (mc := evalE G ct) (me := evalE G ce) hv ?_
    obtain ⟨w, env, rfl, S, ER, P⟩ := h
    refine ⟨w, env, rfl, S, ER, P.bind.mono fun w1 d p1 S1 h1 v rv => ?_⟩
    exact (Pst.here S1 (show Pst C w1 (.ok (.nx (env.set i (some d))) w1.st) (PF C Dd) from h1)) _ ((ER.mono S p1).set rv)
end
end PI

/-! PW: sorted(set(xs)), xs a list of pairs of a number and a truth value. -/
namespace PI
open PySem PySem.Spec PyProof.Rows L2
abbrev Pk : Type := Int × Bool
def pkey (k : Pk) : List Leaf := [.num k.1, .num (b2z k.2)]
theorem pkey_inj {a b : Pk} (h : pkey a = pkey b) : a = b := by
  obtain ⟨i, x⟩ := a
  obtain ⟨j, y⟩ := b
  simp only [pkey, List.cons.injEq, Leaf.num.injEq, and_true] at h
  obtain ⟨h1, h2⟩ := h
  subst h1
  cases x <;> cases y <;> first | rfl | cases h2
section
variable {P : Program} {w : World} {A : Around} {E : Value → Shared → Prop} {s : Shared}
def pHash (w : World) (P : Program) (k : Pk) : Int := tupleKeyHash (leafKind P w) (pkey k)
/-- the tuple at a is the pair k -/
def IsP (P : Program) (w : World) (h : Heap) (k : Pk) (a : Addr) : Prop := IsTupleKey (leafKind P w) h (pkey k) a
def numV (v : Value) : Prop := (∃ i t, v = .int i t) ∨ ∃ b, v = .bool b
theorem leaf_num {i : Int} {v : Value} (h : (leafKind P w).is (.num i) v = true) : numV v := by
  cases Leaf.nested (h := default) h with
  | int _ t => exact .inl ⟨_, _, rfl⟩
  | bool _ => exact .inr ⟨_, rfl⟩
theorem IsP.items {h : Heap} {k : Pk} {a : Addr} (x : IsP P w h k a) : ∃ o items n, h.get? a = some o ∧ o.data = .seq items n ∧ (∀ v ∈ items.toList, numV v) ∧ Shared.TypeIs { s with heap := h } (.ref a) "tuple" := by
  obtain ⟨o, items, n, ho, hc, hd, hi⟩ := id x
  refine ⟨o, items, n, ho, hd, ?_, ⟨o, ho, hc⟩⟩
  generalize items.toList = l at hi
  unfold pkey at hi
  cases hi with
  | cons a r => cases r with
    | cons b r => cases r with
      | nil =>
        intro v hv
        simp only [List.mem_cons, List.not_mem_nil, or_false] at hv
        rcases hv with rfl | rfl
        · exact leaf_num a
        · exact leaf_num b
theorem ofC_num (n : Nat) {v : Value} (h : numV v) : ofAClassStatement n v = pure false := by
  rcases h with ⟨i, t, rfl⟩ | ⟨b, rfl⟩ <;> cases n <;> rfl
theorem byV_num (n : Nat) {v : Value} (h : numV v) : hashByValue n v = pure true := by
  rcases h with ⟨i, t, rfl⟩ | ⟨b, rfl⟩ <;> cases n <;> rfl
theorem ofC_pair {k : Pk} {b : Addr} {Q : Bool → Shared → Prop} (x : IsP P w s.heap k b) (h : Q false s) : wpAny (model P w) A (ofAClassStatement 8 (.ref b)) Q E s := by
  obtain ⟨o, items, n, ho, hd, hn, ty⟩ := IsP.items (s := s) x
  unfold ofAClassStatement
  refine wpAny_bind (wpAny_typeOf ty ?_)
  have et : (("tuple" : String) == "tuple") = true := by decide
  simp only [et, if_true, Bool.not_true, Bool.false_eq_true, if_false]
  refine wpAny_bind (wpAny_pure ?_)
  simp only [Bool.not_true, Bool.false_eq_true, if_false]
  show wpAny _ _ (seqItems? (.ref b) >>= _) _ _ s
  refine wpAny_bind (wpAny_seqItems ho hd ?_)
  refine wpAny_bind ?_
  show wpAny _ _ (forIn items _ _) _ _ s
  rw [← Array.forIn_toList]
  refine wpAny_forIn_list _ (fun l r s' => (r.1 = none ∧ s' = s) ∧ ∀ v ∈ l, numV v) _ ?_ ?_ _ _ ⟨⟨rfl, rfl⟩, hn⟩
  · rintro v l r s' ⟨⟨hr, rfl⟩, al⟩
    rw [ofC_num 7 (al v List.mem_cons_self)]
    refine wpAny_bind (wpAny_pure ?_)
    simp only [Bool.false_eq_true, if_false]
    exact wpAny_pure ⟨⟨rfl, rfl⟩, fun u hu => al u (List.mem_cons_of_mem _ hu)⟩
  · rintro ⟨r1, r2⟩ s' ⟨⟨hr, rfl⟩, _⟩
    simp only at hr
    subst hr
    exact wpAny_pure h
theorem byV_pair {k : Pk} {b : Addr} {Q : Bool → Shared → Prop} (x : IsP P w s.heap k b) (h : Q true s) : wpAny (model P w) A (hashByValue 8 (.ref b)) Q E s := by
  obtain ⟨o, items, n, ho, hd, hn, ty⟩ := IsP.items (s := s) x
  unfold hashByValue
  refine wpAny_bind (wpAny_specialOf ty F.slot_tuple_hash.lookup ?_)
  show wpAny _ _ (seqItems? (.ref b) >>= _) _ _ s
  refine wpAny_bind (wpAny_seqItems ho hd ?_)
  refine wpAny_bind ?_
  show wpAny _ _ (forIn items _ _) _ _ s
  rw [← Array.forIn_toList]
  refine wpAny_forIn_list _ (fun l r s' => (r.1 = none ∧ s' = s) ∧ ∀ v ∈ l, numV v) _ ?_ ?_ _ _ ⟨⟨rfl, rfl⟩, hn⟩
  · rintro v l r s' ⟨⟨hr, rfl⟩, al⟩
    rw [byV_num 7 (al v List.mem_cons_self)]
    refine wpAny_bind (wpAny_pure ?_)
    simp only [Bool.not_true, Bool.false_eq_true, if_false]
    exact wpAny_pure ⟨⟨rfl, rfl⟩, fun u hu => al u (List.mem_cons_of_mem _ hu)⟩
  · rintro ⟨r1, r2⟩ s' ⟨⟨hr, rfl⟩, _⟩
    simp only at hr
    subst hr
    exact wpAny_pure h
/-- a search among such pairs shows nothing -/
theorem quiet_pair {k : Pk} {b : Addr} {Q : Bool → Shared → Prop} (x : IsP P w s.heap k b) {ys : List Value} (hy : ∀ y ∈ ys, ∃ k' c, y = Value.ref c ∧ IsP P w s.heap k' c) (h : Q false s) : wpAny (model P w) A (searchCouldBeSeen (.ref b) ys) Q E s := by
  unfold searchCouldBeSeen
  refine wpAny_bind (wpAny_forIn_list _ (fun l r s' => (r.1 = none ∧ s' = s) ∧ ∀ y ∈ l, ∃ k' c, y = Value.ref c ∧ IsP P w s.heap k' c) _ ?_ ?_ _ _ ⟨⟨rfl, rfl⟩, hy⟩)
  · rintro v l r s' ⟨⟨hr, rfl⟩, al⟩
    obtain ⟨k', c, rfl, z⟩ := al v List.mem_cons_self
    have al' : ∀ y ∈ l, ∃ k' c, y = Value.ref c ∧ IsP P w s'.heap k' c := fun u hu => al u (List.mem_cons_of_mem _ hu)
    dsimp only
    by_cases hv : (b == c || (carriedByValue (.ref b) && carriedByValue (.ref c))) = true
    · exact wp_if_pos hv (wpAny_pure ⟨⟨rfl, rfl⟩, al'⟩)
    · refine wp_if_neg hv (wpAny_bind (wpAny_eqIsQuiet_tuple x ?_))
      simp only [Bool.not_true, Bool.false_eq_true, if_false]
      refine wpAny_bind (wpAny_eqIsQuiet_tuple z ?_)
      simp only [Bool.not_true, Bool.false_eq_true, if_false]
      refine wpAny_bind (ofC_pair x ?_)
      simp only [Bool.false_eq_true, if_false]
      refine wpAny_bind (ofC_pair z ?_)
      simp only [Bool.false_eq_true, if_false]
      exact wpAny_pure ⟨⟨rfl, rfl⟩, al'⟩
  · rintro ⟨r1, r2⟩ s' ⟨⟨hr, rfl⟩, _⟩
    simp only at hr
    subst hr
    exact wpAny_pure h
/-! ### the set -/
def pRows (P : Program) (w : World) (L : List (Addr × Pk)) : List (Int × Value) := L.map fun p => (pHash w P p.2, Value.ref p.1)
structure SP (P : Program) (w : World) (h : Heap) (a : Addr) (L : List (Addr × Pk)) (es : Array (Int × Value)) (ep : Nat) (t : SetTable) : Prop where
  obj : ∃ o, h.get? a = some o ∧ o.ExactSet ∧ o.data = .set es ep t
  es : es.toList = pRows P w L
  tab : TabOk t (L.map fun p => pHash w P p.2)
  nd : (L.map (·.2)).Nodup
  mem : ∀ p ∈ L, IsP P w h p.2 p.1
  pln : t.plain = true
  led : w.params.followText "set-order" = true ∨ t.led = true
  wide : L.length * 5 < t.mask * 3
  few : L.length < 64
variable {a : Addr} {L : List (Addr × Pk)} {es : Array (Int × Value)} {ep : Nat} {t : SetTable}
theorem SP.sz (R : SP P w s.heap a L es ep t) : es.size = L.length := by
  have := congrArg List.length R.es
  simpa [pRows] using this
theorem SP.psz (R : SP P w s.heap a L es ep t) : t.place.toList.length = L.length := by
  have := R.tab.sz
  rw [List.length_map] at this
  rw [Array.length_toList]
  exact this
theorem SP.fit (R : SP P w s.heap a L es ep t) : t.fits es.size = true := by
  have h2 := R.sz
  have h1 := R.psz
  have h3 := R.wide
  unfold SetTable.fits SetTable.fill
  rw [R.tab.dm, Bool.and_eq_true, beq_iff_eq, decide_eq_true_eq]
  rw [Array.length_toList] at h1
  refine ⟨by omega, ?_⟩
  show t.place.size + 0 ≤ t.mask
  omega
theorem SP.at (R : SP P w s.heap a L es ep t) {i : Nat} {p : Addr × Pk} (h : L[i]? = some p) : es[i]? = some (pHash w P p.2, Value.ref p.1) := by
  rw [← Array.getElem?_toList, R.es, pRows, List.getElem?_map, h] <;> rfl
theorem SP.stay (R : SP P w s.heap a L es ep t) : ¬ t.gaveWay = true := by
  unfold SetTable.gaveWay
  rw [mask_odd R.tab.mok]
  decide
/-- the c-th stand of the way of the hash h -/
abbrev pb (t : SetTable) (h : Int) (c : Nat) : SetTable.Probe := nth t.mask (runAt t.mask (SetTable.bits h % (t.mask + 1)) (SetTable.bits h)) c
theorem pb_add (t : SetTable) (h : Int) (c q : Nat) : nth t.mask (pb t h c) q = pb t h (c + q) := (nth_add t.mask c _ q).symm
theorem pb_dm (t : SetTable) (h : Int) : ∀ c, (pb t h c).dummy = none := by
  intro c
  induction c with
  | zero => rfl
  | succ c ih =>
    show (nth t.mask _ (c + 1)).dummy = none
    rw [nth_succ]
    have ih : (nth t.mask (runAt t.mask (SetTable.bits h % (t.mask + 1)) (SetTable.bits h)) c).dummy = none := ih
    unfold adv
    split <;> exact ih
theorem opt_fst {v : Int} {r : Value} {o : Option (Int × Value)} (h : o = some (v, r)) : (o.map (·.1)).getD 0 = v := by subst h; rfl
theorem SP.hsh (R : SP P w s.heap a L es ep t) {i : Nat} {p : Addr × Pk} (h : L[i]? = some p) : (es[i]?.map (·.1)).getD 0 = pHash w P p.2 := opt_fst (R.at h)
theorem seek (R : SP P w s.heap a L es ep t) {x : Addr} {k : Pk} (hx : IsP P w s.heap k x) (hu : A.units < cLine) {H : Int} (eH : H = pHash w P k) {K : Nat} (big : K < 10 * SetTable.turns t.mask) (gap : way t.mask H K ∉ t.place.toList) (pre : ∀ c, c < K → way t.mask H c ∈ t.place.toList)
    {Q : SetFound → Shared → Prop} (yes : k ∈ L.map (·.2) → Q (.there none) s) (no : k ∉ L.map (·.2) → Q (.free (way t.mask H K) false) s) :
    ∀ (f c : Nat) (stand : Option SetTable.Probe), stand.getD (t.probeStart H) = pb t H c ∧ c ≤ K ∧ K - c < f ∧ (∀ (i : Nat) p, L[i]? = some p → p.2 = k → ∃ c', (c ≤ c' ∧ c' < K) ∧ t.place.toList[i]? = some (way t.mask H c')) →
      wpAny (model P w) A (setSearchFrom a (.ref x) H true f stand) Q E s := by
  intro f
  induction f with
  | zero => rintro c stand ⟨_, _, z, _⟩; omega
  | succ f ih =>
    rintro c stand ⟨e0, hc, hf, low⟩
    obtain ⟨o, ho, _, hd⟩ := R.obj
    rw [setSearchFrom_succ]
    refine wpAny_bind (wpAny_setState_of ho hd R.fit ?_)
    dsimp only
    refine wp_if_neg R.stay ?_
    (try refine wpAny_bind (wpAny_pure ?_))
    have hash : ∀ (i : Nat) (p : Addr × Pk), L[i]? = some p → (es[i]?.map (·.1)).getD 0 = pHash w P p.2 := fun i p hp => R.hsh hp
    have past : ∀ (n : Nat), (∀ (k' i' : Nat), k' < n → t.place.toList[i']? = some (nth t.mask (pb t H c) k').j → (es[i']?.map (·.1)).getD 0 ≠ H) → ∀ (i : Nat) p, L[i]? = some p → p.2 = k → ∀ c', c ≤ c' → t.place.toList[i]? = some (way t.mask H c') → ¬ c' < c + n := fun n h i p hp hk c' h1 h2 h3 => by
      refine h (c' - c) i (by omega) (by rw [pb_add, show c + (c' - c) = c' by omega]; exact h2) ?_
      rw [hash i p hp, hk, eH]
    rcases go_spec t R.tab.ris R.tab.dm (fun i => (es[i]?.map (·.1)).getD 0) H (10 * SetTable.turns t.mask) (K - c) (pb t H c) (pb_dm t H c) (by omega) (fun q hq => by rw [pb_add]; exact pre (c + q) (by omega)) (by rw [pb_add, show c + (K - c) = K by omega]; exact gap) with ⟨q, i, hq, hi, hh, hno, hpr⟩ | ⟨hno, hpr⟩
    · rw [pb_add] at hi
      have il : i < L.length := by have := (List.getElem?_eq_some_iff.mp hi).1; rw [R.psz] at this; exact this
      obtain ⟨p, hp⟩ : ∃ p, L[i]? = some p := ⟨_, List.getElem?_eq_getElem il⟩
      have pm : p ∈ L := List.mem_of_getElem? hp
      have slot : t.slot (way t.mask H (c + q)) = .live i := slot_live R.tab.ris hi
      have main : wpAny (model P w) A (searchRest a (.ref x) H true f es t (way t.mask H (c + q)) i (pb t H (c + (q + 1)))) Q E s := by
        unfold searchRest
        rw [R.at hp]
        dsimp only
        refine wpAny_bind (wpAny_holding (wpAny_eqBool_tuple hu (R.mem p pm) hx ?_))
        refine wpAny_bind (wpAny_setState_of ho hd R.fit ?_)
        dsimp only
        by_cases same : p.2 = k
        · refine wp_if_pos (by simp [same]) (wpAny_pure (yes (List.mem_map.mpr ⟨p, pm, same⟩)))
        · have ns : ¬ pkey p.2 = pkey k := fun z => same (pkey_inj z)
          refine wp_if_neg (by simp [ns]) ?_
          (try refine wpAny_bind (wpAny_pure ?_))
          rw [sameMem]
          dsimp only
          simp only [if_true, slot, R.at hp]
          refine wpAny_bind (wpAny_isSame_ref_self (wpAny_bind (wpAny_pure ?_)))
          simp only [if_true]
          refine wp_if_neg (by simp [ns]) (ih (c + (q + 1)) _ ⟨rfl, by omega, by omega, fun i0 p0 h0 hk0 => ?_⟩)
          obtain ⟨c', ⟨a1, a2⟩, a3⟩ := low i0 p0 h0 hk0
          have n1 := past q (fun k' i' hk' h2 => hno k' i' hk' h2) i0 p0 h0 hk0 c' a1 a3
          refine ⟨c', ⟨?_, a2⟩, a3⟩
          rcases Nat.lt_or_ge (c + q) c' with z | z
          · omega
          · have ec : c' = c + q := by omega
            subst ec
            have s2 := slot_live R.tab.ris a3
            rw [slot] at s2
            injection s2 with s2
            subst s2
            rw [hp] at h0
            cases h0
            exact absurd hk0 same
      have got : t.probe (fun i => (es[i]?.map (·.1)).getD 0) H (stand.getD (t.probeStart H)) = some (.candidate (way t.mask H (c + q)) i (pb t H (c + (q + 1)))) := by
        rw [e0, ← pb_add, show way t.mask H (c + q) = (nth t.mask (pb t H c) q).j by rw [pb_add]]
        unfold SetTable.probe
        exact hpr
      rw [got]
      dsimp only
      by_cases hl : t.led = true
      · refine wp_if_neg (by simp [hl]) ?_
        (try refine wpAny_bind (wpAny_pure ?_))
        exact main
      · refine wp_if_pos (by simp [hl]) (wpAny_bind (quiet_pair hx (fun y hy => ?_) ?_))
        rotate_left
        · refine wp_if_neg (by decide) ?_
          (try refine wpAny_bind (wpAny_pure ?_))
          exact main
        obtain ⟨e, he, ee⟩ := List.mem_map.mp hy
        have he2 : e ∈ es.toList := by
          have : e ∈ es ∧ e.1 = H := by simpa using he
          simpa using this.1
        rw [R.es] at he2
        obtain ⟨p2, m2, e2⟩ := List.mem_map.mp he2
        exact ⟨p2.2, p2.1, by rw [← ee, ← e2], R.mem p2 m2⟩
    · have got : t.probe (fun i => (es[i]?.map (·.1)).getD 0) H (stand.getD (t.probeStart H)) = some (.empty (way t.mask H K) none) := by
        rw [e0, show way t.mask H K = (nth t.mask (pb t H c) (K - c)).j by rw [pb_add, show c + (K - c) = K by omega]]
        unfold SetTable.probe
        exact hpr
      rw [got]
      dsimp only
      refine wpAny_pure (no fun hm => ?_)
      obtain ⟨p0, m0, hk0⟩ := List.mem_map.mp hm
      obtain ⟨i0, h0⟩ := List.mem_iff_getElem?.mp m0
      obtain ⟨c', ⟨a1, a2⟩, a3⟩ := low i0 p0 h0 hk0
      exact past (K - c) hno i0 p0 h0 hk0 c' a1 a3 (by omega)
theorem seekAt (R : SP P w s.heap a L es ep t) {x : Addr} {k : Pk} (hx : IsP P w s.heap k x) (hu : A.units < cLine) {H : Int} (eH : H = pHash w P k) {Q : SetFound → Shared → Prop} (yes : k ∈ L.map (·.2) → Q (.there none) s)
    (no : ∀ K, k ∉ L.map (·.2) → way t.mask H K ∉ t.place.toList → (∀ c, c < K → way t.mask H c ∈ t.place.toList) → Q (.free (way t.mask H K) false) s) : wpAny (model P w) A (setSearch a (.ref x) H true) Q E s := by
  have hw := R.wide
  obtain ⟨K, big, gap, pre⟩ := R.tab.first (by rw [List.length_map]; omega) H
  have tr : 10 * SetTable.turns t.mask ≤ 1420 := by
    unfold SetTable.turns
    rcases R.tab.mok with e | e | e <;> omega
  unfold setSearch
  refine seek R hx hu eH big gap pre yes (fun hn => no K hn gap pre) 100000 0 none ⟨rfl, Nat.zero_le _, by omega, fun i p hp hk => ?_⟩
  have hi : (L.map fun p => pHash w P p.2)[i]? = some H := by rw [List.getElem?_map, hp, eH, ← hk]; rfl
  have il : i < t.place.toList.length := by rw [R.psz]; exact (List.getElem?_eq_some_iff.mp hp).1
  have hj := List.getElem?_eq_getElem il
  obtain ⟨c, hc, e⟩ := R.tab.before gap hi hj
  exact ⟨c, ⟨Nat.zero_le _, hc⟩, by rw [hj, e]⟩
theorem isP_but {h h' : Heap} {k : Pk} {a b : Addr} {o : Obj} {es : Array (Int × Value)} {ep : Nat} {t : SetTable} (x : IsP P w h k b) (ho : h.get? a = some o) (hd : o.data = .set es ep t) (hs : Heap.SameBut a h h') : IsP P w h' k b := by
  obtain ⟨o2, items, n, h2, r⟩ := x
  have ne : b ≠ a := fun e => by
    subst e
    rw [ho] at h2
    cases h2
    have := r.2.1
    rw [hd] at this
    cases this
  exact ⟨o2, items, n, (hs.2 b ne).trans h2, r⟩
theorem pRows_ins (L : List (Addr × Pk)) (p : Nat) (x : Addr) (k : Pk) : pRows P w (L.take p ++ (x, k) :: L.drop p) = (pRows P w L).take p ++ (pHash w P k, Value.ref x) :: (pRows P w L).drop p := by
  simp only [pRows, List.map_append, List.map_cons, List.map_take, List.map_drop]
/-- the rows in another order -/
theorem pRows_ord {L : List (Addr × Pk)} {es : Array (Int × Value)} {ord : Array Nat} (hr : es.toList = pRows P w L) (hp : ord.toList.Perm (List.range L.length)) :
    ∃ L2, (ord.filterMap (es[·]?)).toList = pRows P w L2 ∧ L2.Perm L ∧ (L2.map fun p => pHash w P p.2) = ord.toList.map fun i => (es.map (·.1)).getD i 0 := by
  have at_ : ∀ (i : Nat) (p : Addr × Pk), L[i]? = some p → es[i]? = some (pHash w P p.2, Value.ref p.1) := fun i p h => by
    rw [← Array.getElem?_toList, hr, pRows, List.getElem?_map, h]; rfl
  have go : ∀ l : List Nat, (∀ i ∈ l, i < L.length) → ∃ L2 : List (Addr × Pk), l.filterMap (fun i => es[i]?) = pRows P w L2 ∧ l.filterMap (fun i => L[i]?) = L2 ∧ (L2.map fun p => pHash w P p.2) = l.map fun i => (es.map (·.1)).getD i 0 := by
    intro l
    induction l with
    | nil => exact fun _ => ⟨[], rfl, rfl, rfl⟩
    | cons i l ih =>
      intro hl
      obtain ⟨L2, e1, e2, e3⟩ := ih fun j hj => hl j (List.mem_cons_of_mem _ hj)
      have hi := List.getElem?_eq_getElem (hl i List.mem_cons_self)
      have ha := at_ i _ hi
      refine ⟨L[i]'(hl i List.mem_cons_self) :: L2, ?_, ?_, ?_⟩
      · rw [List.filterMap_cons_some ha, e1]; rfl
      · rw [List.filterMap_cons_some hi, e2]
      · have e4 : ∀ {v : Int} {r : Value}, es[i]? = some (v, r) → (es.map (·.1)).getD i 0 = v := fun {v r} z => by
          rw [Array.getD_eq_getD_getElem?, Array.getElem?_map, z]; rfl
        rw [List.map_cons, List.map_cons, e3, e4 ha]
  obtain ⟨L2, e1, e2, e3⟩ := go ord.toList fun i hi => List.mem_range.mp (hp.mem_iff.mp hi)
  refine ⟨L2, by rw [Array.toList_filterMap]; exact e1, ?_, e3⟩
  rw [← e2]
  have full : ∀ l : List (Addr × Pk), (List.range l.length).filterMap (fun i => l[i]?) = l := by
    intro l
    induction l with
    | nil => rfl
    | cons x l ih =>
      have h0 : (fun i => (x :: l)[i]?) 0 = some x := rfl
      rw [List.length_cons, List.range_succ_eq_map, List.filterMap_cons_some h0, List.filterMap_map]
      exact congrArg (x :: ·) ih
  have := hp.filterMap fun i => L[i]?
  rwa [full L] at this
/-- the table laid anew -/
theorem relay_ {o : Obj} (ho : s.heap.get? a = some o) (hex : o.ExactSet) (hd : o.data = .set es ep t) (hr : es.toList = pRows P w L) (hps : t.place.size = es.size) (hdm : t.dummies = #[]) (hfl : es.size ≤ t.mask) (nd : (L.map (·.2)).Nodup) (mem : ∀ p ∈ L, IsP P w s.heap p.2 p.1) (pl : t.plain = true)
    (ld : w.params.followText "set-order" = true ∨ t.led = true) (few : L.length < 64) {wanted M : Nat} (hw : SetTable.sizeAbove wanted - 1 = M) (hM : MaskOk M) (hw2 : SetTable.sizeAbove wanted ≤ 128) (hn : L.length * 5 < M * 3) {Q : Unit → Shared → Prop}
    (q : ∀ h' L' es' ep' t', Heap.SameBut a s.heap h' → SP P w h' a L' es' ep' t' → L'.Perm L → Q () { s with heap := h' }) : wpAny (model P w) A (setRelay a wanted) Q E s := by
  have hz : es.size = L.length := by have := congrArg List.length hr; simpa [pRows] using this
  have fit : t.fits es.size = true := by
    unfold SetTable.fits SetTable.fill
    rw [hdm, Bool.and_eq_true, beq_iff_eq, decide_eq_true_eq]
    refine ⟨hps, ?_⟩
    show t.place.size + 0 ≤ t.mask
    omega
  obtain ⟨t2, ord, r0, r1, r2, r3, r4, r5, r6⟩ := relaid_ok t (hs := es.map (·.1)) (wanted := wanted) hw hM (by rw [Array.size_map]; omega)
  rw [Array.size_map, hz] at r1
  obtain ⟨L2, l1, l2, l3⟩ := pRows_ord hr r1
  rw [← l3] at r2
  have hz2 : (ord.filterMap (es[·]?)).size = es.size := by
    have := congrArg List.length l1
    simp only [pRows, List.length_map, Array.length_toList] at this
    rw [this, l2.length_eq, hz]
  rw [setRelay_eq]
  refine wpAny_bind (wpAny_setState_of ho hd fit ?_)
  dsimp only
  refine wp_if_neg (by rw [sizeLine_eq]; omega) ?_
  (try refine wpAny_bind (wpAny_pure ?_))
  rw [r0]
  dsimp only
  refine wpAny_bind (wp_if_neg (by rw [hz2]; simp) ?_)
  (try refine wpAny_bind (wpAny_pure ?_))
  refine wpAny_pure ?_
  dsimp only
  refine wpAny_storeSet_of ho hd ?_ (by rw [hz2, hz, sizeLine_eq]; omega)
  have sb : Heap.SameBut a s.heap (s.heap.update a (Obj.putSet (ord.filterMap (es[·]?)) t2)) := Heap.SameBut.update ..
  refine q _ L2 _ (ep + 1) t2 sb ⟨⟨_, store_at ho hd, ⟨hex.1, hex.2.1, hex.2.2⟩, rfl⟩, l1, r2, (l2.map (·.2)).nodup_iff.mpr nd, fun p hp => isP_but (mem p (l2.mem_iff.mp hp)) ho hd sb, by rw [r5]; exact pl, by rw [r4]; exact ld, by rw [l2.length_eq, r3]; exact hn, by rw [l2.length_eq]; exact few⟩ l2
theorem add_ (R : SP P w s.heap a L es ep t) {x : Addr} {k : Pk} (hx : IsP P w s.heap k x) (hu : A.units < cLine) {H : Int} (eH : H = pHash w P k) (room : k ∉ L.map (·.2) → L.length + 1 < 64) {Q : Bool → Shared → Prop}
    (q : ∀ b h' L' es' ep' t', Heap.SameBut a s.heap h' → SP P w h' a L' es' ep' t' → (k ∈ L.map (·.2) → L' = L) → (k ∉ L.map (·.2) → L'.Perm ((x, k) :: L)) → Q b { s with heap := h' }) : wpAny (model P w) A (setAddHashed a (.ref x) H) Q E s := by
  obtain ⟨o, ho, hex, hd⟩ := R.obj
  have hz := R.sz
  have hwd := R.wide
  unfold setAddHashed
  refine wpAny_holding ?_
  rw [show (100000 : Nat) = 99999 + 1 from rfl, setAddHashedIn_succ]
  refine wpAny_bind (wpAny_setState_of ho hd R.fit ?_)
  dsimp only
  refine wp_if_neg (by simp [byScan, Value.scannable]) ?_
  (try refine wpAny_bind (wpAny_pure ?_))
  refine wpAny_bind (seekAt R hx hu eH (fun hm => wpAny_pure (q false s.heap L es ep t (Heap.SameBut.refl a s.heap) R (fun _ => rfl) fun z => absurd hm z)) fun K hm gap pre => ?_)
  dsimp only
  refine wpAny_bind (wpAny_setState_of ho hd R.fit ?_)
  dsimp only
  have few := room hm
  obtain ⟨p1, p2, p3, p4, p5, p6, p7, p8, p9⟩ := R.tab.put gap pre
  have pl : (t.put (way t.mask H K)).1.plain = true := by rw [p6]; exact R.pln
  generalize t.put (way t.mask H K) = pt at p1 p3 p4 p5 p6 p7 p8 p9 pl ⊢
  obtain ⟨t1, b⟩ := pt
  dsimp only at p1 p3 p4 p5 p6 p7 p8 p9 pl ⊢
  subst p1
  first
    | (refine wpAny_bind ?_; refine wp_if_pos pl ?_; refine byV_pair hx ?_)
    | refine wp_if_pos pl (wpAny_bind (byV_pair hx ?_))
  simp only [if_true]
  generalize SetTable.below t.place (way t.mask H K) = b at p2 p3 ⊢
  rw [List.length_map] at p2
  have perm : (L.take b ++ (x, k) :: L.drop b).Perm ((x, k) :: L) := by
    have := (List.perm_middle (a := (x, k)) (l₁ := L.take b) (l₂ := L.drop b))
    rwa [List.take_append_drop] at this
  have ins : (SetTable.insertAt es b (H, Value.ref x)).toList = pRows P w (L.take b ++ (x, k) :: L.drop b) := by rw [SetTable.toList_insertAt, pRows_ins, R.es, eH]
  have hs1 : (L.take b ++ (x, k) :: L.drop b).map (fun p => pHash w P p.2) = (L.map fun p => pHash w P p.2).take b ++ H :: (L.map fun p => pHash w P p.2).drop b := by
    rw [List.map_append, List.map_cons, List.map_take, List.map_drop, eH]
  rw [← hs1] at p3
  rw [List.length_map] at p9
  generalize L.take b ++ (x, k) :: L.drop b = L1 at perm ins hs1 p3
  have len1 : L1.length = L.length + 1 := perm.length_eq
  have nd1 : (L1.map (·.2)).Nodup := (perm.map (·.2)).nodup_iff.mpr (by rw [List.map_cons]; exact List.nodup_cons.mpr ⟨hm, R.nd⟩)
  have z1 : (SetTable.insertAt es b (H, Value.ref x)).size = L.length + 1 := by
    have := congrArg List.length ins
    simp only [pRows, List.length_map, Array.length_toList] at this
    rw [this, len1]
  generalize SetTable.insertAt es b (H, Value.ref x) = es1 at ins z1 ⊢
  refine wpAny_bind (wpAny_storeSet_of ho hd ?_ (by rw [z1, sizeLine_eq]; omega))
  have sb : Heap.SameBut a s.heap (s.heap.update a (Obj.putSet es1 t1)) := Heap.SameBut.update ..
  have ho1 := store_at (es' := es1) (t' := t1) ho hd
  generalize s.heap.update a (Obj.putSet es1 t1) = h1 at sb ho1 ⊢
  have mem1 : ∀ p ∈ L1, IsP P w h1 p.2 p.1 := fun p hp => by
    rcases List.mem_cons.mp (perm.mem_iff.mp hp) with rfl | hp
    · exact isP_but hx ho hd sb
    · exact isP_but (R.mem p hp) ho hd sb
  have ld1 : w.params.followText "set-order" = true ∨ t1.led = true := by rw [p5]; exact R.led
  by_cases full : t1.tooFull = true
  · first
      | (refine wpAny_bind ?_; refine wp_if_pos (by simp [full]) ?_)
      | (refine wp_if_pos (by simp [full]) ?_; refine wpAny_bind ?_)
    have hf : (L.length + 1) * 5 ≥ t1.mask * 3 := by
      have := full
      unfold SetTable.tooFull at this
      rw [decide_eq_true_eq, p9] at this
      exact this
    rw [hz]
    have ps1 : t1.place.size = es1.size := by
      have := p3.sz
      rw [List.length_map, len1] at this
      rw [this, z1]
    have two : (t.mask = 7 ∧ L.length = 4) ∨ (t.mask = 31 ∧ L.length = 18) := by
      rcases R.tab.mok with e | e | e <;> (rw [p4, e] at hf; rw [e] at hwd)
      · exact .inl ⟨e, by omega⟩
      · exact .inr ⟨e, by omega⟩
      · omega
    have go : ∀ M, SetTable.sizeAbove (SetTable.grown (L.length + 1)) - 1 = M → MaskOk M → SetTable.sizeAbove (SetTable.grown (L.length + 1)) ≤ 128 → (L.length + 1) * 5 < M * 3 → wpAny (model P w) A (setRelay a (SetTable.grown (L.length + 1))) (fun _ s' => wpAny (model P w) A (pure true) Q E s') E { s with heap := h1 } := fun M m1 m2 m3 m4 =>
      relay_ (s := { s with heap := h1 }) ho1 ⟨hex.1, hex.2.1, hex.2.2⟩ rfl ins ps1 p3.dm (by rw [z1, p4]; rcases two with ⟨e, e2⟩ | ⟨e, e2⟩ <;> omega) nd1 mem1 pl ld1 (by rw [len1]; exact few) m1 m2 m3 (by rw [len1]; exact m4)
        fun h2 L2 es2 ep2 t2 sb2 R2 pm2 => wpAny_pure (q true h2 L2 es2 ep2 t2 (sb.trans sb2) R2 (fun z => absurd z hm) fun _ => pm2.trans perm)
    rcases two with ⟨_, e2⟩ | ⟨_, e2⟩
    · exact go 31 (by rw [e2, size_20]) (.inr (.inl rfl)) (by rw [e2, size_20]; decide) (by omega)
    · exact go 127 (by rw [e2, size_76]) (.inr (.inr rfl)) (by rw [e2, size_76]; decide) (by omega)
  · first
      | refine wp_if_neg (by simp [full]) ?_
      | (refine wpAny_bind ?_; refine wp_if_neg (by simp [full]) ?_; refine wpAny_pure ?_)
    refine wpAny_pure (q true h1 L1 es1 (ep + 1) t1 sb ⟨⟨_, ho1, ⟨hex.1, hex.2.1, hex.2.2⟩, rfl⟩, ins, p3, nd1, mem1, pl, ld1, ?_, by rw [len1]; exact few⟩ (fun z => absurd z hm) fun _ => perm)
    have := full
    unfold SetTable.tooFull at this
    rw [decide_eq_true_eq, p9] at this
    rw [len1]
    omega
theorem isP_keep {h h' : Heap} {k : Pk} {b : Addr} (x : IsP P w h k b) (hk : ∀ c o, h.get? c = some o → h'.get? c = some o) : IsP P w h' k b := by
  obtain ⟨o, items, n, ho, r⟩ := x
  exact ⟨o, items, n, hk b o ho, r⟩
theorem SP.keep {h h' : Heap} {a : Addr} {L : List (Addr × Pk)} {es : Array (Int × Value)} {ep : Nat} {t : SetTable} (R : SP P w h a L es ep t) (ha : ∀ o, h.get? a = some o → h'.get? a = some o) (ht : ∀ p ∈ L, IsP P w h' p.2 p.1) : SP P w h' a L es ep t := by
  obtain ⟨o, ho, r⟩ := R.obj
  exact ⟨⟨o, ha o ho, r⟩, R.es, R.tab, R.nd, ht, R.pln, R.led, R.wide, R.few⟩
theorem SP.new {h : Heap} {a : Addr} (ho : h.get? a = some { cls := .type "set", dict := none, data := .set #[] 0 (.fresh 0 0 (!w.params.followText "set-order")) }) : SP P w h a [] #[] 0 (.fresh 0 0 (!w.params.followText "set-order")) where
  obj := ⟨_, ho, ⟨rfl, rfl, rfl⟩, rfl⟩
  es := rfl
  tab := ⟨List.Pairwise.nil, rfl, rfl, .inl rfl, fun x hx => (by cases hx), fun i h j hi => (by simp at hi)⟩
  nd := List.nodup_nil
  mem := fun p hp => (by cases hp)
  pln := rfl
  led := by
    show _ ∨ (!w.params.followText "set-order") = true
    cases w.params.followText "set-order"
    · exact .inr rfl
    · exact .inl rfl
  wide := by show 0 * 5 < 7 * 3; decide
  few := by show 0 < 64; decide
/-- i of ks are in -/
structure In (ks : List (Addr × Pk)) (i : Nat) (L : List (Addr × Pk)) : Prop where
  of : ∀ p ∈ L, p ∈ ks
  all : ∀ p ∈ ks.take i, p.2 ∈ L.map (·.2)
theorem In.next {ks L L' : List (Addr × Pk)} {i : Nat} {p : Addr × Pk} (g : In ks i L) (h : ks[i]? = some p) (c1 : p.2 ∈ L.map (·.2) → L' = L) (c2 : p.2 ∉ L.map (·.2) → L'.Perm (p :: L)) : In ks (i + 1) L' := by
  have tk : ∀ q ∈ ks.take (i + 1), q ∈ ks.take i ∨ q = p := fun q hq => by
    rw [List.take_add_one, h] at hq
    rcases List.mem_append.mp hq with z | z
    · exact .inl z
    · exact .inr (by simpa using z)
  by_cases c : p.2 ∈ L.map (·.2)
  · rw [c1 c]
    exact ⟨g.of, fun q hq => by
      rcases tk q hq with z | rfl
      · exact g.all q z
      · exact c⟩
  · have pm := c2 c
    refine ⟨fun q hq => ?_, fun q hq => ?_⟩
    · rcases List.mem_cons.mp (pm.mem_iff.mp hq) with rfl | z
      · exact List.mem_of_getElem? h
      · exact g.of q z
    · refine (pm.map (·.2)).mem_iff.mpr ?_
      rcases tk q hq with z | rfl
      · exact List.mem_cons_of_mem _ (g.all q z)
      · exact List.mem_cons_self
/-- what bounds a set of ks -/
def FewIn (ks : List (Addr × Pk)) : Prop := ∀ L : List (Addr × Pk), (∀ p ∈ L, p ∈ ks) → (L.map (·.2)).Nodup → L.length < 60
theorem updLoop {I : Addr} {fp wr : List Addr} {G : Array GenState → Array GenState → Prop} {n : Nat} {Pv : Nat → Value → Prop} {St : Nat → Shared → Prop} {Rr : Result → Shared → Prop} (Wk : WalksS P w A.in1 I fp wr G n Pv St) (S : Addr) (out : S ∉ fp) (ks : List (Addr × Pk)) (hn : n = ks.length) (few : FewIn ks)
    (val : ∀ i v, Pv i v → ∃ p, ks[i]? = some p ∧ v = .ref p.1) (h0 : Heap) (hk : ∀ p ∈ ks, IsP P w h0 p.2 p.1) (hS0 : h0.get? S = none) (hw0 : ∀ b ∈ wr, h0.get? b = none) (hu : A.in1.units < cLine) :
    ∀ (k i : Nat) (s : Shared), (n - i = k ∧ i ≤ n) → St i s → (∀ b o, h0.get? b = some o → s.heap.get? b = some o) → (∃ L es ep t, SP P w s.heap S L es ep t ∧ In ks i L) →
      (∀ s' L es ep t, Moved (S :: wr) G s s' → SP P w s'.heap S L es ep t → In ks n L → (∀ b o, h0.get? b = some o → s'.heap.get? b = some o) → Rr (.ok (.ret .none)) s') → codeAny (model P w) A (.builtin "set.update.loop" ⟨[.ref S, .ref I], []⟩) Rr s := by
  have nin : S ∉ wr := fun h => out (Wk.sub _ h)
  have wide : ∀ b ∈ wr, b ∈ S :: wr := fun b hb => List.mem_cons_of_mem _ hb
  have keep : ∀ {s s' : Shared}, Moved wr G s s' → (∀ b o, h0.get? b = some o → s.heap.get? b = some o) → ∀ b o, h0.get? b = some o → s'.heap.get? b = some o := fun mv z b o e => mv.heap b o (fun hb => by rw [hw0 b hb] at e; cases e) (z b o e)
  intro k
  induction k with
  | zero =>
    rintro i s ⟨hi, hi2⟩ hst z ⟨L, es, ep, t, hS, g⟩ fin
    obtain rfl : i = n := by omega
    refine codeAny_builtin F.entry_set_update_loop ?_
    rw [Around.under_plainId F.plain_set_update_loop _]
    show wpAny _ A.in1 (pyNext (.ref I) >>= _) _ _ s
    refine wpAny_bind (Wk.done s _ _ hst fun s' mv => ?_)
    show wpAny _ A.in1 (ret Value.none) _ _ s'
    have z' := keep mv z
    exact wpAny_pure (fin s' L es ep t (mv.mono wide) (hS.keep (fun o e => mv.heap S o nin e) fun p hp => isP_keep (hk p (g.of p hp)) z') g z')
  | succ k ih =>
    rintro i s ⟨hi, hi2⟩ hst z ⟨L, es, ep, t, hS, g⟩ fin
    have lt : i < n := by omega
    refine codeAny_builtin F.entry_set_update_loop ?_
    rw [Around.under_plainId F.plain_set_update_loop _]
    show wpAny _ A.in1 (pyNext (.ref I) >>= _) _ _ s
    refine wpAny_bind (Wk.item i s _ _ lt hst fun v s' hP hst' mv => ?_)
    obtain ⟨p, hp, rfl⟩ := val i v hP
    have z' := keep mv z
    have hS' : SP P w s'.heap S L es ep t := hS.keep (fun o e => mv.heap S o nin e) fun q hq => isP_keep (hk q (g.of q hq)) z'
    have pin : p ∈ ks := List.mem_of_getElem? hp
    have hx : IsP P w s'.heap p.2 p.1 := isP_keep (hk p pin) z'
    show wpAny _ A.in1 (holding [Value.ref p.1] (setAdd S (.ref p.1)) >>= _) _ _ s'
    refine wpAny_bind (wpAny_holding ?_)
    unfold setAdd
    refine wpAny_holding (wpAny_bind (wpAny_pyHash_tuple hu hx ?_))
    have room : p.2 ∉ L.map (·.2) → L.length + 1 < 64 := fun c => by
      have := few (p :: L) (fun q hq => by rcases List.mem_cons.mp hq with rfl | q; exact pin; exact g.of _ q) (by rw [List.map_cons]; exact List.nodup_cons.mpr ⟨c, hS.nd⟩)
      rw [List.length_cons] at this
      omega
    refine add_ (s := { s' with toks := s'.toks + ((pkey p.2).length + 1) }) hS' hx hu rfl room fun b h' L' es' ep' t' sb hS2 c1 c2 => ?_
    have z2 : ∀ b o, h0.get? b = some o → h'.get? b = some o := fun b o e => (sb.2 b (fun q => by rw [q, hS0] at e; cases e)).trans (z' b o e)
    refine wpAny_pure ⟨plainId_quiet F.plain_set_update_loop _, ih (i + 1) _ ⟨by omega, lt⟩ (Wk.frame _ s' _ _ hst' (Nat.le_add_right _ _) fun b hb o e => ?_) z2 ⟨L', es', ep', t', hS2, g.next hp c1 c2⟩ fun s2 L2 es2 ep2 t2 mv2 hS3 g3 z3 => ?_⟩
    · rw [sb.2 b (fun q : b = S => out (by rw [← q]; exact hb))]; exact e
    · refine fin s2 L2 es2 ep2 t2 (Moved.trans Wk.gtrans ((mv.mono wide).then_heap (Nat.le_add_right _ _) fun b o hb e => ?_) mv2) hS3 g3 z3
      rw [sb.2 b (fun q : b = S => hb (by rw [q]; exact List.mem_cons_self))]; exact e
abbrev newSetO (w : World) : Obj := { cls := .type "set", dict := none, data := .set #[] 0 (.fresh 0 0 (!w.params.followText "set-order")) }
theorem beyond {h : Heap} {b : Addr} (hb : h.objs.size ≤ b) : h.get? b = none := by
  cases q : h.get? b with
  | none => rfl
  | some o => exact absurd (Heap.lt_size q) (Nat.not_lt.mpr hb)
theorem setOf {l : Addr} {items : Array Value} (ks : List (Addr × Pk)) {Q : Value → Shared → Prop} (hh : A.handled = none) (hl : s.heap.IsList l items) (hit : items.toList = ks.map fun p => Value.ref p.1) (hk : ∀ p ∈ ks, IsP P w s.heap p.2 p.1) (few : FewIn ks) (hu : A.units + 3 < cLine)
    (q : ∀ (h' : Heap) (tk : Nat) L es ep t, SP P w h' s.heap.objs.size L es ep t → In ks ks.length L → (∀ b o, s.heap.get? b = some o → h'.get? b = some o) → Q (.ref s.heap.objs.size) { s with heap := h', toks := tk }) : wpAny (model P w) A (call (.type "set") [.ref l]) Q E s := by
  have isz : items.size = ks.length := by simpa using congrArg List.length hit
  obtain ⟨c, tl, hmro⟩ := F.called_set.mro
  have hmade := F.called_set.made
  have hsub := F.called_set.sub
  refine wpAny_call (codeAny_of_tree ?_)
  show wpAny _ _ (callAny (.type "set") _) _ _ _
  refine wpAny_pure ⟨Code.quiet_builtin _ (by decide +kernel), codeAny_builtin F.entry_type_call ?_⟩
  rw [Around.under_plain (weight_type_call_type "set" [.ref l] []) rfl]
  have h1 := F.called_set.notType
  have h2 := F.called_set.canCreate
  have hct := F.typeCall_set_1 (.ref l)
  repeat (any_goals (first | assumption | wp_step))
  refine codeAny_mono (code_set_led1 (.ref l) (E := E) (Q₁ := fun obj s₁ => obj = .ref s.heap.objs.size ∧ s₁ = { s with heap := s.heap.push (newSetO w) }) ⟨rfl, rfl⟩) fun r s₁ hr => ?_
  cases r with
  | error e => exact hr
  | ok fl =>
    cases fl with
    | ret ob =>
      obtain ⟨rfl, rfl⟩ := hr
      have hS : (s.heap.push (newSetO w)).get? s.heap.objs.size = some (newSetO w) := Heap.get?_push_size _ rfl
      have hT : Shared.TypeIs { s with heap := s.heap.push (newSetO w) } (.ref s.heap.objs.size) "set" := ⟨_, hS, rfl⟩
      have hli := F.called_set.init.lookup
      have hbi := F.called_set.init.bind (.ref s.heap.objs.size)
      repeat (any_goals (first | assumption | wp_step))
      refine codeAny_mono (codeAny_call_builtin (R := wants (fun r s₂ => r = .none ∧ ∃ h' tk L es ep t, s₂ = { s with heap := h', toks := tk } ∧ SP P w h' s.heap.objs.size L es ep t ∧ In ks ks.length L ∧ (∀ b o, s.heap.get? b = some o → h'.get? b = some o)) E) F.called_set.init.plain F.entry_set_init (check_set_init_1 hT ?_)) fun r2 s2 hr2 => ?_
      · obtain ⟨ol, hol, hcl, nl, hdl⟩ := hl
        obtain ⟨oc, od, dt, osl⟩ := ol
        simp only at hcl hdl
        subst hcl; subst hdl
        have hol' : (s.heap.push (newSetO w)).get? l = some { cls := .type "list", dict := od, data := .seq items nl, slots := osl } := Heap.get?_push_of_some _ hol
        have hsls := F.sub_list_set
        have hslf := F.sub_list_frozenset
        have hne : (Value.type "list" == Value.type "dict") = false := by decide
        have hl1 : (s.heap.push (newSetO w)).IsList l items := ⟨_, hol', rfl, nl, rfl⟩
        unfold Builtin.«set.__init__» noKeywords Builtin.Frozenset.updateFrom
        generalize hPI : pyIter = PI
        wp_walk
        subst hPI
        refine wpAny_pyIter_list hl1 (wpAny_bind (wpAny_runValue ?_))
        have hlS : l < s.heap.objs.size := Heap.lt_size hol
        have hh3 : A.in1.in1.in1.handled = none := by simp [hh]
        have sz : (s.heap.push (newSetO w)).objs.size = s.heap.objs.size + 1 := Heap.size_push ..
        have neI : l ≠ (s.heap.push (newSetO w)).objs.size := by rw [sz]; exact Nat.ne_of_lt (Nat.lt_succ_of_lt hlS)
        have nS : s.heap.objs.size ∉ [(s.heap.push (newSetO w)).objs.size, l] := by
          rw [sz]; simp only [List.mem_cons, List.not_mem_nil, or_false, not_or]; exact ⟨Nat.ne_of_lt (Nat.lt_succ_self _), Nat.ne_of_gt hlS⟩
        have val : ∀ (i : Nat) (v : Value), items[i]? = some v → ∃ p, ks[i]? = some p ∧ v = .ref p.1 := fun i v hv => by
          rw [← Array.getElem?_toList, hit, List.getElem?_map] at hv
          obtain ⟨p, e1, e2⟩ := Option.map_eq_some_iff.mp hv
          exact ⟨p, e1, e2.symm⟩
        refine updLoop ((Walks.list hh3 _ l neI items).toS) s.heap.objs.size nS ks isz few val s.heap hk (beyond (Nat.le_refl _)) (fun b hb => beyond (by rw [List.mem_singleton.mp hb, sz]; omega)) hu (items.size - 0) 0 _ ⟨by omega, Nat.zero_le _⟩
          ⟨⟨_, Heap.get?_push_size _ rfl, rfl, rfl⟩, (hl1.push _)⟩ (fun b o e => Heap.get?_push_of_some _ (Heap.get?_push_of_some _ e)) ⟨[], #[], 0, _, SP.new (Heap.get?_push_of_some _ hS), fun _ h => (by cases h), fun _ h => (by simp at h)⟩ ?_
        rintro ⟨h', g2, d2, tk2, os2⟩ L es ep t mv a1 a2 a3
        obtain rfl : g2 = s.gens := mv.gens
        obtain rfl : d2 = s.drawn := mv.drawn
        obtain rfl : os2 = s.os := mv.os
        refine wpAny_pure ?_
        show wpAny _ _ (ret Value.none) _ _ _
        rw [isz] at a2
        exact wpAny_pure ⟨rfl, h', tk2, L, es, ep, t, rfl, a1, a2, a3⟩
      · cases r2 with
        | error e => exact hr2
        | ok f2 =>
          cases f2 with
          | ret r =>
            obtain ⟨rfl, h', tk, L, es, ep, t, rfl, a1, a2, a3⟩ := hr2
            repeat (any_goals (first | assumption | wp_step))
            exact q _ _ _ _ _ _ a1 a2 a3
          | _ => exact hr2.elim
    | _ => exact hr.elim
end
end PI

/-! PX: sorted of a set of pairs; sorted(set(xs)) as one expression. -/
namespace PI
open PySem PySem.Spec PyProof.Rows L2
def encP (k : Pk) : PyData := .tuple [.int k.1, .bool k.2]
def kz (k : Pk) : Int := 2 * k.1 + b2z k.2
theorem b2z_01 (b : Bool) : 0 ≤ b2z b ∧ b2z b ≤ 1 := by cases b <;> decide
theorem kz_inj {a b : Pk} (h : kz a = kz b) : a = b := by
  obtain ⟨i, x⟩ := a
  obtain ⟨j, y⟩ := b
  unfold kz at h
  simp only at h
  cases x <;> cases y <;> simp [b2z] at h ⊢ <;> omega
theorem le_encP {β : Type} (f : β → Pk) : PySem.W.dataLe false (fun p => encP (f p)) = fun p q => decide (kz (f p) ≤ kz (f q)) := by
  funext p q
  show (!PySem.W.dataLt (.tuple [.int (f q).1, .bool (f q).2]) (.tuple [.int (f p).1, .bool (f p).2])) = _
  rw [PySem.W.dataLt_pair (by simp [PySem.W.alike]) (by simp [PySem.W.alike]), PySem.W.dataLt_int, PySem.W.dataLt_bool]
  simp only [PyData.eqv]
  obtain ⟨i, x⟩ := f p
  obtain ⟨j, y⟩ := f q
  unfold kz
  simp only
  by_cases h : j = i
  · subst h
    cases x <;> cases y <;> simp [b2z, PyProof.Rows.b2i] <;> omega
  · by_cases h2 : j < i
    · have h3 : ¬ (2 * i + b2z x ≤ 2 * j + b2z y) := by have := b2z_01 x; have := b2z_01 y; omega
      simp [h, h2, h3]
    · have h3 : 2 * i + b2z x ≤ 2 * j + b2z y := by have := b2z_01 x; have := b2z_01 y; omega
      simp [h, h2, h3]
section
variable {P : Program} {w : World} {A : Around} {E : Value → Shared → Prop} {s : Shared}
variable {a : Addr} {L : List (Addr × Pk)} {es : Array (Int × Value)} {ep : Nat} {t : SetTable}
theorem each_refs : ∀ (L : List (Addr × Pk)), PySem.W.EachIs (fun (v : Value) (p : Addr × Pk) => v = Value.ref p.1) (L.map fun p => Value.ref p.1) L
  | [] => .nil
  | p :: L => .cons rfl (each_refs L)
theorem refs_each : ∀ {vs : List Value} {L : List (Addr × Pk)}, PySem.W.EachIs (fun (v : Value) (p : Addr × Pk) => v = Value.ref p.1) vs L → vs = L.map fun p => Value.ref p.1
  | _, _, .nil => rfl
  | _, _, .cons h r => by rw [h, refs_each r]; rfl
theorem sortedOf {Q : Value → Shared → Prop} (R : SP P w s.heap a L es ep t) (hh : A.handled = none) (hu : A.units + 10 < cLine) (rd : ∀ p ∈ L, Reads s.heap (.ref p.1) (encP p.2) [])
    (hQ : ∀ s' p (out : Array Value) (c : Nat) (L' : List (Addr × Pk)), (∀ b o, s.heap.get? b = some o → s'.heap.get? b = some o) → s'.gens = s.gens → s'.os = s.os → s.heap.objs.size ≤ p →
      s'.heap.get? p = some (seqObj "list" out c) → out.toList = L'.map (fun q => Value.ref q.1) → L'.Perm L → L'.Pairwise (fun q r => kz q.2 ≤ kz r.2) → Q (.ref p) s') :
    wpAny (model P w) A (call (.builtin "sorted") [.ref a]) Q E s := by
  obtain ⟨o, ho, hex, hd⟩ := R.obj
  have hsz := R.sz
  have hfew := R.few
  refine Calls.call_function_entry kind_sorted plain_sorted entry_sorted (args_sorted1 _) ?_
  unfold Builtin.«sorted»
  refine wpAny_bind (m := checkCount "sorted" 1 1 _) (wpAny_pure ?_)
  refine wpAny_bind (collect_set (A := A.in1) hh ⟨o, ho, hex.1, hd⟩ R.fit (by unfold scanBound; omega) R.tab.ris R.led fun s1 vs k1 hz g1 o1 pm => ?_)
  have hes : es.toList.map (·.2) = L.map fun q => Value.ref q.1 := by
    rw [R.es]
    unfold pRows
    rw [List.map_map] <;> rfl
  rw [hes] at pm
  have one : ∀ q ∈ L, ∀ r ∈ L, q.1 = r.1 → q = r := fun q hq r hr e => by
    have a1 := R.mem q hq
    have a2 := R.mem r hr
    rw [e] at a1
    exact Prod.ext e (pkey_inj (a1.inj a2))
  obtain ⟨L1, e1, p1⟩ : ∃ L1 : List (Addr × Pk), vs = L1.map (fun q => Value.ref q.1) ∧ L1.Perm L := by
    have nL : L.Nodup := nodup_of_map R.nd
    have ord : ∀ vs : List Value, (∀ v ∈ vs, ∃ q ∈ L, v = Value.ref q.1) → ∃ L1 : List (Addr × Pk), vs = L1.map (fun q => Value.ref q.1) ∧ ∀ q ∈ L1, q ∈ L := by
      intro vs
      induction vs with
      | nil => intro _; exact ⟨[], rfl, fun q hq => (by cases hq)⟩
      | cons v vs ih =>
        intro hv
        obtain ⟨q, hq, e⟩ := hv v List.mem_cons_self
        obtain ⟨L1, e1, hs⟩ := ih fun u hu => hv u (List.mem_cons_of_mem _ hu)
        refine ⟨q :: L1, by rw [List.map_cons, e, e1], fun r hr => ?_⟩
        rcases List.mem_cons.mp hr with z | z
        · rw [z]; exact hq
        · exact hs r z
    obtain ⟨L1, e1, hs⟩ := ord vs fun v hv => by
      obtain ⟨q, hq, e⟩ := List.mem_map.mp (pm.mem_iff.mp hv)
      exact ⟨q, hq, e.symm⟩
    refine ⟨L1, e1, ?_⟩
    rw [e1] at pm
    have nref : (L.map fun q => Value.ref q.1).Nodup := by
      refine List.pairwise_map.mpr (List.Pairwise.imp_of_mem (fun {q r} hq hr hne e => ?_) nL)
      injection e with e
      exact hne (one q hq r hr e)
    have n1 : L1.Nodup := nodup_of_map (pm.nodup_iff.mpr nref)
    refine (List.perm_ext_iff_of_nodup n1 nL).mpr fun q => ⟨hs q, fun hq => ?_⟩
    have hm : Value.ref q.1 ∈ L1.map (fun q => Value.ref q.1) := pm.mem_iff.mpr (List.mem_map.mpr ⟨q, hq, rfl⟩)
    obtain ⟨r, hr, e⟩ := List.mem_map.mp hm
    injection e with e
    rw [← one r (hs r hr) q hq e]
    exact hr
  have hvl : vs.length < 64 := by rw [e1, List.length_map, p1.length_eq]; exact hfew
  refine wpAny_bind (wpAny_newList ?_ (by rw [sizeLine_eq]; omega))
  have hoL : (s1.heap.push (seqObj "list" vs.toArray 0)).get? s1.heap.objs.size = some (seqObj "list" vs.toArray 0) := Heap.get?_push_size _ rfl
  have kk : ∀ b o, s.heap.get? b = some o → (s1.heap.push (seqObj "list" vs.toArray 0)).get? b = some o := fun b u e => Heap.get?_push_of_some _ (k1 b u e)
  have eR : PySem.W.EachIs (fun (v : Value) (p : Addr × Pk) => v = Value.ref p.1) vs L1 := by rw [e1]; exact each_refs L1
  have eRd : PySem.W.EachIs (fun (v : Value) (p : Addr × Pk) => ∃ as, Reads (s1.heap.push (seqObj "list" vs.toArray 0)) v (encP p.2) as ∧ s1.heap.objs.size ∉ as) vs L1 := by
    have go : ∀ M : List (Addr × Pk), (∀ p ∈ M, p ∈ L) → PySem.W.EachIs (fun (v : Value) (p : Addr × Pk) => ∃ as, Reads (s1.heap.push (seqObj "list" vs.toArray 0)) v (encP p.2) as ∧ s1.heap.objs.size ∉ as) (M.map fun p => Value.ref p.1) M := by
      intro M
      induction M with
      | nil => exact fun _ => .nil
      | cons p M ih => exact fun h => .cons ⟨[], PyProof.Rows.Reads.keeps kk (rd p (h p List.mem_cons_self)), by simp⟩ (ih fun q hq => h q (List.mem_cons_of_mem _ hq))
    rw [e1] at go ⊢
    exact go L1 fun p hp => p1.mem_iff.mp hp
  have al : PySem.W.AllAlike (L1.map fun p => encP p.2) := PySem.W.AllAlike.of fun b b' => by simp [encP, PySem.W.alike, PySem.W.alikeAll]
  have so : PySem.W.Sortable (L1.map fun p => encP p.2) := PySem.W.Sortable.tuples fun b => ⟨_, _, rfl⟩
  refine wpAny_bind (wpAny_holding (PySem.W.list_sort_data (s := { s1 with heap := s1.heap.push (seqObj "list" vs.toArray 0) }) hoL eR eRd al so (by rw [p1.length_eq, sizeLine_eq]; omega) (fun b _ => ?_) fun out a1 a2 => ?_))
  · have : (encP b.2).depth = 1 := by simp [encP, PyData.depth, PyData.depthAll]
    rw [this]
    show A.in1.units + 1 + 1 < cLine
    simp only [Around.in1_units]
    omega
  have ed : PySem.W.dataLe false (fun p : Addr × Pk => encP p.2) = fun p q => decide (kz p.2 ≤ kz q.2) := le_encP fun p : Addr × Pk => p.2
  rw [ed] at a2
  obtain ⟨c, hc⟩ := sortedHeap_at (vs := vs) (out := out.toArray) hoL
  have pL : (L1.mergeSort fun p q => decide (kz p.2 ≤ kz q.2)).Perm L := (List.mergeSort_perm _ _).trans p1
  have pw : (L1.mergeSort fun p q => decide (kz p.2 ≤ kz q.2)).Pairwise (fun q r => kz q.2 ≤ kz r.2) := by
    refine (List.pairwise_mergeSort (le := fun p q : Addr × Pk => decide (kz p.2 ≤ kz q.2)) (fun x y z h1 h2 => ?_) (fun x y => ?_) L1).imp fun {x y} h => of_decide_eq_true h
    · have h1 := of_decide_eq_true h1
      have h2 := of_decide_eq_true h2
      exact decide_eq_true (by omega)
    · rcases Int.le_total (kz x.2) (kz y.2) with q | q <;> simp [q]
  refine wpAny_pure ⟨_, rfl, hQ _ s1.heap.objs.size out.toArray c _ (fun b u e => ?_) g1 o1 hz hc (refs_each a2) pL pw⟩
  have q := k1 b u e
  have hlt := Heap.lt_size q
  show (sortedHeap (s1.heap.push (seqObj "list" vs.toArray 0)) s1.heap.objs.size vs out.toArray).get? b = some u
  rw [sortedHeap_old (Nat.ne_of_lt hlt) (by rw [size_push']; exact Nat.lt_succ_of_lt hlt)]
  exact Heap.get?_push_of_some _ q
end
/-! ### as rules -/
structure SP0 (P : Program) (w : World) (h : Heap) (a : Addr) (L : List (Addr × Pk)) : Prop where
  ex : ∃ (es : Array (Int × Value)) (ep : Nat) (t : SetTable), (∃ o, h.get? a = some o ∧ o.ExactSet ∧ o.data = .set es ep t) ∧ es.toList = pRows P w L ∧ TabOk t (L.map fun p => pHash w P p.2) ∧ (L.map (·.2)).Nodup ∧ t.plain = true ∧
    (w.params.followText "set-order" = true ∨ t.led = true) ∧ L.length * 5 < t.mask * 3 ∧ L.length < 64
def SPO (P : Program) (w : World) (a : Addr) (L : List (Addr × Pk)) : HO := .ext fun h => SP0 P w h a L
section
variable {P : Program} {w : World} {h : Heap} {a : Addr} {L : List (Addr × Pk)} {es : Array (Int × Value)} {ep : Nat} {t : SetTable}
theorem SP.t0 (R : SP P w h a L es ep t) : SP0 P w h a L := ⟨es, ep, t, R.obj, R.es, R.tab, R.nd, R.pln, R.led, R.wide, R.few⟩
theorem SP0.full (R : SP0 P w h a L) (ht : ∀ p ∈ L, IsP P w h p.2 p.1) : ∃ es ep t, SP P w h a L es ep t := by
  obtain ⟨es, ep, t, h1, h2, h3, h4, h5, h6, h7, h8⟩ := R.ex
  exact ⟨es, ep, t, h1, h2, h3, h4, ht, h5, h6, h7, h8⟩
theorem spo_new {H : Hp} (R : SP0 P w h a L) : ObjOk P w H h a (SPO P w a L) := by
  have ⟨es, ep, t, ⟨o, ho, r⟩, q⟩ := R.ex
  refine ⟨R, ⟨o, ho⟩, fun h1 h2 p k => ?_⟩
  have ⟨es', ep', t', ⟨o', ho', r'⟩, q'⟩ := SP0.ex p
  exact ⟨es', ep', t', ⟨o', k o' ho', r'⟩, q'⟩
theorem refs_vals : ∀ {ks : List (Addr × Pk)} {us : List Value}, Vals (ks.map fun p => V.ref p.1) us → us = ks.map fun p => Value.ref p.1
  | [], _, .nil => rfl
  | p :: ks, _, .cons r t => by
    cases r
    rw [refs_vals t] <;> rfl
theorem vals_refs : ∀ (ks : List (Addr × Pk)), Vals (ks.map fun p => V.ref p.1) (ks.map fun p => Value.ref p.1)
  | [] => .nil
  | p :: ks => .cons rfl (vals_refs ks)
end
def pV (k : Pk) : List V := [.int k.1, .bl k.2]
section
variable {X : Cx}
theorem Inv.isP {pins : List (Addr × Obj)} {σ : L2.St} {H : Hp} {s : Shared} {b : Addr} {k : Pk} (I : Inv X pins σ H s) (h : SqT X.K H b (pV k)) : IsP X.prog X.w s.heap k b ∧ Reads s.heap (.ref b) (encP k) [] := by
  obtain ⟨its, r, ⟨o, ho, hc, n, hd⟩, _⟩ := I.tuple h
  unfold pV at r
  cases r with
  | cons r1 r => cases r with
    | cons r2 r =>
      cases r
      obtain ⟨tk, rfl⟩ := r1
      have r2 : _ = Value.bool k.2 := r2
      subst r2
      refine ⟨⟨o, _, n, ho, hc, hd, ?_⟩, .tuple ho hc hd (.cons (as := []) (bs := []) (.int _ _) (.cons (as := []) (bs := []) (.bool _) .nil))⟩
      refine .cons (decide_eq_true rfl) (.cons ?_ .nil)
      show decide ((if k.2 = true then 1 else 0) = b2z k.2) = true
      cases k.2 <;> rfl
def rSetP (K : PySem.W.Frag) (P : Program) (w : World) : List V → Hp → VK → Prop := fun xs H Q => ∃ (l : Addr) (ks : List (Addr × Pk)), xs = [V.ref l] ∧ SqL K H l (ks.map fun p => V.ref p.1) ∧ (∀ p ∈ ks, SqT K H p.1 (pV p.2)) ∧ FewIn ks ∧
  ∀ a L, H a = none → (∀ p ∈ L, p ∈ ks) → (∀ p ∈ ks, p.2 ∈ L.map (·.2)) → (L.map (·.2)).Nodup → Q (.ref a) (upd H a (SPO P w a L))
theorem cr_setP (hc : X.calm = true) (hu : X.A.units + 64 < cLine) : CallR X (.type "set") (rSetP X.K X.prog X.w) := by
  intro pins s σ H xs us Q I r h
  obtain ⟨l, ks, rfl, hl, hk, hf, q⟩ := h
  rw [Vals.ref1 r]
  obtain ⟨its, rv, pl, hz⟩ := I.list hl
  have hn : H s.heap.objs.size = none := I.hok.fresh (Nat.le_refl _)
  refine setOf (P := X.prog) (w := X.w) ks (I.ok.hd hc) pl.isList (by simpa using refs_vals rv) (fun p hp => (Inv.isP I (hk p hp)).1) hf (by omega) fun h' tk L es ep t R g k => ?_
  refine ⟨.ref s.heap.objs.size, upd H s.heap.objs.size (SPO X.prog X.w s.heap.objs.size L), I.laid (t' := tk) k (Nat.le_refl _) (spo_new R.t0), rfl, q _ L hn (fun p hp => g.of p hp) (fun p hp => ?_) R.nd⟩
  exact g.all p (by rw [List.take_length]; exact hp)
def rSortP (K : PySem.W.Frag) (P : Program) (w : World) : List V → Hp → VK → Prop := fun vs H Q => ∃ (a : Addr) (L : List (Addr × Pk)), vs = [V.ref a] ∧ H a = some (SPO P w a L) ∧ (∀ p ∈ L, SqT K H p.1 (pV p.2)) ∧
  ∀ (L' : List (Addr × Pk)) (p : Addr), L'.Perm L → L'.Pairwise (fun q r => kz q.2 ≤ kz r.2) → H p = none → Q (.ref p) (upd H p (.lst (L'.map fun q => V.ref q.1)))
theorem cr_sortP (hc : X.calm = true) (hu : X.A.units + 64 < cLine) : CallR X (.builtin "sorted") (rSortP X.K X.prog X.w) := by
  intro pins s σ H vs us Q I r h
  obtain ⟨a, L, rfl, ha, hk, q⟩ := h
  have R0 : SP0 X.prog X.w s.heap a L := (I.hok a _ ha).1
  obtain ⟨es, ep, t, R⟩ := R0.full fun p hp => (Inv.isP I (hk p hp)).1
  rw [Vals.ref1 r]
  refine sortedOf R (I.ok.hd hc) (by omega) (fun p hp => (Inv.isP I (hk p hp)).2) fun s' p out c L' k g o hp hg hout pm pw => ?_
  have hfew : L'.length < 64 := by rw [pm.length_eq]; exact R.few
  have hlen : (L'.map fun q => V.ref q.1).length ≤ sizeLine := by rw [List.length_map, sizeLine_eq]; omega
  have hn : H p = none := I.hok.fresh hp
  have hv : Vals (L'.map fun q => V.ref q.1) out.toList := by rw [hout]; exact vals_refs L'
  have J : Inv X pins σ (upd H p (.lst (L'.map fun q => V.ref q.1))) { s with heap := s'.heap, gens := s'.gens, drawn := s'.drawn, toks := s'.toks } :=
    I.call (ch := []) (Un.laid k hp hn) (I.hok.laid k hp ⟨hlen, out.toList, c, hv, hg⟩) (by rw [g]; exact I.bare) (fun _ z => nomatch z)
  have e : s' = { s with heap := s'.heap, gens := s'.gens, drawn := s'.drawn, toks := s'.toks } := by
    cases s'
    cases s
    cases o
    rfl
  rw [e]
  exact ⟨.ref p, _, J, rfl, q L' p pm pw hn⟩
end
/-! ### sorted(set(xs)) -/
theorem prLt_kz (a b : Pk) : prLt a b = decide (kz a < kz b) := by
  obtain ⟨i, x⟩ := a
  obtain ⟨j, y⟩ := b
  unfold prLt kz
  simp only
  by_cases h : i < j
  · have : 2 * i + b2z x < 2 * j + b2z y := by have := b2z_01 x; have := b2z_01 y; omega
    simp [h, this]
  · by_cases h2 : i = j
    · subst h2
      cases x <;> cases y <;> simp [b2z] <;> omega
    · have : ¬ 2 * i + b2z x < 2 * j + b2z y := by have := b2z_01 x; have := b2z_01 y; omega
      simp [h, h2, this]
theorem prIns_mem (a : Pk) : ∀ (l : List Pk) (x : Pk), x ∈ prIns a l ↔ x = a ∨ x ∈ l
  | [], x => by simp [prIns]
  | b :: r, x => by
    unfold prIns
    split
    · simp
    · split
      · rename_i e; subst e; simp
      · simp only [List.mem_cons, prIns_mem a r x]
        constructor
        · rintro (h | h | h)
          · exact .inr (.inl h)
          · exact .inl h
          · exact .inr (.inr h)
        · rintro (h | h | h)
          · exact .inr (.inl h)
          · exact .inl h
          · exact .inr (.inr h)
theorem prIns_srt (a : Pk) : ∀ (l : List Pk), l.Pairwise (fun x y => kz x < kz y) → (prIns a l).Pairwise (fun x y => kz x < kz y)
  | [], _ => by simp [prIns]
  | b :: r, h => by
    obtain ⟨h1, h2⟩ := List.pairwise_cons.mp h
    unfold prIns
    rw [prLt_kz]
    split
    · rename_i e
      have e := of_decide_eq_true e
      refine List.pairwise_cons.mpr ⟨fun x hx => ?_, h⟩
      rcases List.mem_cons.mp hx with rfl | hx
      · exact e
      · have := h1 x hx; omega
    · rename_i e
      split
      · exact h
      · rename_i e2
        refine List.pairwise_cons.mpr ⟨fun x hx => ?_, prIns_srt a r h2⟩
        rcases (prIns_mem a r x).mp hx with rfl | hx
        · have : ¬ kz x = kz b := fun q => e2 (kz_inj q)
          have e : ¬ kz x < kz b := fun q => e (decide_eq_true q)
          omega
        · exact h1 x hx
theorem prSort_mem (l : List Pk) (x : Pk) : x ∈ prSort l ↔ x ∈ l := by
  induction l with
  | nil => simp [prSort]
  | cons a l ih =>
    show x ∈ prIns a (prSort l) ↔ _
    rw [prIns_mem, ih, List.mem_cons]
theorem prSort_srt (l : List Pk) : (prSort l).Pairwise (fun x y => kz x < kz y) := by
  induction l with
  | nil => exact .nil
  | cons a l ih => exact prIns_srt a _ ih
theorem srt_uniq : ∀ {l m : List Pk}, l.Pairwise (fun x y => kz x < kz y) → m.Pairwise (fun x y => kz x < kz y) → (∀ x, x ∈ l ↔ x ∈ m) → l = m
  | [], [], _, _, _ => rfl
  | [], b :: m, _, _, h => absurd ((h b).mpr List.mem_cons_self) (by simp)
  | a :: l, [], _, _, h => absurd ((h a).mp List.mem_cons_self) (by simp)
  | a :: l, b :: m, hl, hm, h => by
    obtain ⟨l1, l2⟩ := List.pairwise_cons.mp hl
    obtain ⟨m1, m2⟩ := List.pairwise_cons.mp hm
    have e : a = b := by
      rcases List.mem_cons.mp ((h a).mp List.mem_cons_self) with q | q
      · exact q
      · rcases List.mem_cons.mp ((h b).mpr List.mem_cons_self) with q2 | q2
        · exact q2.symm
        · have := m1 a q
          have := l1 b q2
          omega
    subst e
    rw [srt_uniq l2 m2 fun x => ?_]
    constructor
    · intro hx
      rcases List.mem_cons.mp ((h x).mp (List.mem_cons_of_mem _ hx)) with q | q
      · subst q; have := l1 x hx; omega
      · exact q
    · intro hx
      rcases List.mem_cons.mp ((h x).mpr (List.mem_cons_of_mem _ hx)) with q | q
      · subst q; have := m1 x hx; omega
      · exact q
theorem nodup_le : ∀ (l D : List Pk), l.Nodup → (∀ x ∈ l, x ∈ D) → l.length ≤ D.length
  | [], _, _, _ => Nat.zero_le _
  | a :: l, D, h, hs => by
    obtain ⟨h1, h2⟩ := List.nodup_cons.mp h
    have hm := hs a List.mem_cons_self
    have q := nodup_le l (D.erase a) h2 fun x hx => (List.mem_erase_of_ne fun e => h1 (by rw [← e]; exact hx)).mpr (hs x (List.mem_cons_of_mem _ hx))
    rw [List.length_erase_of_mem hm] at q
    have : 0 < D.length := List.length_pos_of_mem hm
    simp only [List.length_cons]
    omega
section
variable {X : Cx} {C : Txs} {G : GE} {n : Nat}
theorem pairs_V {w : Wd} : ∀ {vs : List V} {ds : List D} {l : List Pk}, RVs C w vs ds → prsOf ds = some l → ∃ ks : List (Addr × Pk), vs = ks.map (fun p => V.ref p.1) ∧ l = ks.map (·.2) ∧ ∀ p ∈ ks, SqT C.K w.H p.1 (pV p.2)
  | _, _, _, .nil, e => by
    cases e
    exact ⟨[], rfl, rfl, fun p hp => by cases hp⟩
  | _, _, _, .cons (v := v) (d := d) r rs, e => by
    unfold prsOf at e
    split at e
    · rename_i i b
      obtain ⟨l', e1, e2⟩ := Option.map_eq_some_iff.mp e
      subst e2
      obtain ⟨ks, k1, k2, k3⟩ := pairs_V rs e1
      cases r with
      | tup h q =>
        cases q with
        | cons q1 q => cases q with
          | cons q2 q =>
            cases q
            cases q1
            cases q2
            exact ⟨(_, (i, b)) :: ks, by rw [k1]; rfl, by rw [k2]; rfl, fun p hp => by
              rcases List.mem_cons.mp hp with rfl | hp
              · exact h
              · exact k3 p hp⟩
    · cases e
theorem pairs_RV {w : Wd} : ∀ {ks : List (Addr × Pk)}, (∀ p ∈ ks, SqT C.K w.H p.1 (pV p.2)) → RVs C w (ks.map fun p => V.ref p.1) ((ks.map (·.2)).map prD)
  | [], _ => .nil
  | p :: ks, h => .cons (.tup (h p List.mem_cons_self) (.cons (.int _) (.cons (.bl _) .nil))) (pairs_RV fun q hq => h q (List.mem_cons_of_mem _ hq))
theorem pe_sset' {a : Expr} {p p2 pos pos2 : Pos} {mas : Env → Store → R D} {k : Bool} (hc : X.calm = true) (hu : X.A.units + 64 < cLine) (hK : C.K = X.K) (hg : Gl X "sorted") (hm : X.mg "sorted" = none) (hg2 : Gl X "set") (hm2 : X.mg "set" = none) (ha : PE X a (SimE C mas)) (hs : notStar a = true) :
    PE X (.Call (.Name "sorted" p) [.Call (.Name "set" p2) [a] [] pos2] [] pos) (SimE C fun env s => (mas env s).bind fun d s1 => bltV C.tg .sset k [d] s1) := by
  have q1 : PE X (.Call (.Name "set" p2) [a] [] pos2) (tCB (rSetP X.K X.prog X.w) (SimA C fun env s => (mas env s).bind fun d s1 => (R.ok ([] : List D) s1).bind fun ds s2 => .ok (d :: ds) s2)) :=
    pe_callTy (cr_setP hc hu) hg2 hm2 (by decide +kernel) (pa_cons' ha pa_nil' hs) (by decide) (by decide) (starEach_cons hs [] X.env) (star_any (es := []) rfl pos2 X.env)
  have q2 := pe_callB (pos := pos) (p := p) (cr_sortP (X := X) hc hu) hg hm (by decide +kernel) (pa_cons q1 pa_nil) (by decide) (by decide) (starEach_cons rfl [] X.env) (star_any (es := []) rfl pos X.env)
  refine PE.imp q2 fun σ H Q h => ?_
  have e : (fun env s => (mas env s).bind fun d s1 => bltV C.tg .sset k [d] s1) = fun env s => ((mas env s).bind fun d s1 => (R.ok ([] : List D) s1).bind fun ds s2 => R.ok (d :: ds) s2).bind fun ds s1 => bltV C.tg .sset k ds s1 := by
    funext env s
    cases mas env s <;> rfl
  rw [e] at h
  obtain ⟨w0, env, rfl, S0, ER, P0⟩ := simA_then h
  refine ⟨w0, env, rfl, S0, ER, P0.mono fun w1 ds _ S1 hq vs hv => ?_⟩
  obtain ⟨w, ds, e1, S, rs, P⟩ := hq vs hv
  rw [← e1]
  simp only [bltV] at P
  split at P
  · rename_i x
    obtain ⟨v, rfl, r⟩ := RVs.one_inv rs
    split at P
    · rename_i xs e2
      split at P
      · rename_i l e3
        split at P
        · rename_i h60
          obtain ⟨b, us, rfl, hb, ru⟩ := dr_lst S r e2
          obtain ⟨ks, rfl, rfl, hks⟩ := pairs_V ru e3
          have few : FewIn ks := fun L hL hn => by
            have := nodup_le (L.map (·.2)) (prSort (ks.map (·.2))) hn fun x hx => by
              obtain ⟨p, hp, rfl⟩ := List.mem_map.mp hx
              exact (prSort_mem _ _).mpr (List.mem_map.mpr ⟨p, hL p hp, rfl⟩)
            rw [List.length_map] at this
            omega
          refine ⟨b, ks, rfl, SqL.of hb, fun p hp => by rw [← hK]; exact hks p hp, few, fun a' L hn sub all nd => ?_⟩
          obtain ⟨st, S'⟩ := step_new (o := SPO X.prog X.w a' L) S hn
          have kp : ∀ p ∈ ks, SqT C.K (upd w.H a' (SPO X.prog X.w a' L)) p.1 (pV p.2) := fun p hp => (Kp.of S st).sqT (hks p hp)
          refine ⟨a', L, rfl, upd_same, fun p hp => by rw [← hK]; exact kp p (sub p hp), fun L' p pm pw hp => ?_⟩
          have eL : L'.map (·.2) = prSort (ks.map (·.2)) := by
            refine srt_uniq ?_ (prSort_srt _) fun x => ?_
            · have n2 : (L'.map (·.2)).Nodup := (pm.map (·.2)).nodup_iff.mpr nd
              have n2 : (L'.map (·.2)).Pairwise (fun x y => x ≠ y) := n2
              have p2 : (L'.map (·.2)).Pairwise (fun x y => kz x ≤ kz y) := List.pairwise_map.mpr pw
              exact (p2.and n2).imp fun {x y} h => by
                have : kz x ≠ kz y := fun q => h.2 (kz_inj q)
                have := h.1
                omega
            · rw [prSort_mem, (pm.map (·.2)).mem_iff]
              constructor
              · intro hx
                obtain ⟨p, hp, rfl⟩ := List.mem_map.mp hx
                exact List.mem_map.mpr ⟨p, sub p hp, rfl⟩
              · intro hx
                obtain ⟨p, hp, rfl⟩ := List.mem_map.mp hx
                exact all p hp
          have hv2 : RVs C { w with H := upd w.H a' (SPO X.prog X.w a' L) } (L'.map fun q => V.ref q.1) ((prSort (ks.map (·.2))).map prD) := by
            rw [← eL]
            exact pairs_RV fun q hq => kp q (sub q (pm.mem_iff.mp hq))
          exact new_lst S' hv2 (P.later st) p hp
        · exact P.elim
      · exact P.elim
    · exact P.elim
  · exact P.elim
end
end PI

/-! PY: sorted of a list of pairs; list(range(n)). -/
namespace PI
open PySem PySem.Spec PyProof.Rows L2
section
variable {X : Cx} {C : Txs}
def rSrtP (K : PySem.W.Frag) : List V → Hp → VK → Prop := fun vs H Q => ∃ (l : Addr) (ks : List (Addr × Pk)), vs = [V.ref l] ∧ SqL K H l (ks.map fun p => V.ref p.1) ∧ (∀ p ∈ ks, SqT K H p.1 (pV p.2)) ∧ ks.length < 64 ∧
  ∀ (L' : List (Addr × Pk)) (p : Addr), L'.Perm ks → L'.Pairwise (fun q r => kz q.2 ≤ kz r.2) → H p = none → Q (.ref p) (upd H p (.lst (L'.map fun q => V.ref q.1)))
theorem cr_srtP (hu : X.A.units + 64 < cLine) : CallR X (.builtin "sorted") (rSrtP X.K) := by
  intro pins s σ H vs us Q I r h
  obtain ⟨l, ks, rfl, hs, hk, h64, q⟩ := h
  obtain ⟨its, rv, hl, hz⟩ := I.list hs
  rw [Vals.ref1 r]
  have ei : its = ks.map fun p => Value.ref p.1 := by simpa using refs_vals rv
  have eR : PySem.W.EachIs (fun (v : Value) (p : Addr × Pk) => v = Value.ref p.1) its ks := by rw [ei]; exact each_refs ks
  have eRd : PySem.W.EachIs (fun (v : Value) (p : Addr × Pk) => ∃ as, Reads s.heap v (encP p.2) as) its ks := by
    have go : ∀ M : List (Addr × Pk), (∀ p ∈ M, p ∈ ks) → PySem.W.EachIs (fun (v : Value) (p : Addr × Pk) => ∃ as, Reads s.heap v (encP p.2) as) (M.map fun p => Value.ref p.1) M := by
      intro M
      induction M with
      | nil => exact fun _ => .nil
      | cons p M ih => exact fun h => .cons ⟨[], (Inv.isP I (hk p (h p List.mem_cons_self))).2⟩ (ih fun q hq => h q (List.mem_cons_of_mem _ hq))
    rw [ei]
    exact go ks fun p hp => hp
  have al : PySem.W.AllAlike (ks.map fun p => encP p.2) := PySem.W.AllAlike.of fun b b' => by simp [encP, PySem.W.alike, PySem.W.alikeAll]
  have so : PySem.W.Sortable (ks.map fun p => encP p.2) := PySem.W.Sortable.tuples fun b => ⟨_, _, rfl⟩
  refine PySem.W.sorted_data hl.isList eR eRd al so (by rw [sizeLine_eq]; omega) (fun b _ => ?_) fun out a1 a2 => ?_
  · have : (encP b.2).depth = 1 := by simp [encP, PyData.depth, PyData.depthAll]
    rw [this]
    omega
  have ed : PySem.W.dataLe false (fun p : Addr × Pk => encP p.2) = fun p q => decide (kz p.2 ≤ kz q.2) := le_encP fun p : Addr × Pk => p.2
  rw [ed] at a2
  obtain ⟨ep, he'⟩ := PyProof.Rows.sortedAll_at s.heap its out.toArray
  have pL : (ks.mergeSort fun p q => decide (kz p.2 ≤ kz q.2)).Perm ks := List.mergeSort_perm _ _
  have pw : (ks.mergeSort fun p q => decide (kz p.2 ≤ kz q.2)).Pairwise (fun q r => kz q.2 ≤ kz r.2) := by
    refine (List.pairwise_mergeSort (le := fun p q : Addr × Pk => decide (kz p.2 ≤ kz q.2)) (fun x y z h1 h2 => ?_) (fun x y => ?_) ks).imp fun {x y} h => of_decide_eq_true h
    · have h1 := of_decide_eq_true h1
      have h2 := of_decide_eq_true h2
      exact decide_eq_true (by omega)
    · rcases Int.le_total (kz x.2) (kz y.2) with q | q <;> simp [q]
  have eo := refs_each a2
  have hlen : ((ks.mergeSort fun p q => decide (kz p.2 ≤ kz q.2)).map fun q => V.ref q.1).length ≤ sizeLine := by rw [List.length_map, pL.length_eq, sizeLine_eq]; omega
  exact ⟨.ref _, upd H (s.heap.objs.size + 1) (.lst ((ks.mergeSort fun p q => decide (kz p.2 ≤ kz q.2)).map fun q => V.ref q.1)), I.laid (t' := s.toks) (fun _ _ => PyProof.Rows.sortedAll_old) (Nat.le_succ _) ⟨hlen, out, ep, by rw [eo]; exact vals_refs _, he'⟩, rfl, q _ _ pL pw (I.hok.fresh (Nat.le_succ _))⟩
theorem pe_srt' {a : Expr} {p pos : Pos} {mas : Env → Store → R D} {k : Bool} (hu : X.A.units + 64 < cLine) (hK : C.K = X.K) (hg : Gl X "sorted") (hm : X.mg "sorted" = none) (ha : PE X a (SimE C mas)) (hs : notStar a = true) :
    PE X (.Call (.Name "sorted" p) [a] [] pos) (SimE C fun env s => (mas env s).bind fun d s1 => bltV C.tg .srt k [d] s1) := by
  have q2 := pe_callB (pos := pos) (p := p) (cr_srtP (X := X) hu) hg hm (by decide +kernel) (pa_cons' ha pa_nil' hs) (by decide) (by decide) (starEach_cons hs [] X.env) (star_any (es := []) rfl pos X.env)
  refine PE.imp q2 fun σ H Q h => ?_
  have e : (fun env s => (mas env s).bind fun d s1 => bltV C.tg .srt k [d] s1) = fun env s => ((mas env s).bind fun d s1 => (R.ok ([] : List D) s1).bind fun ds s2 => R.ok (d :: ds) s2).bind fun ds s1 => bltV C.tg .srt k ds s1 := by
    funext env s
    cases mas env s <;> rfl
  rw [e] at h
  obtain ⟨w0, env, rfl, S0, ER, P0⟩ := simA_then h
  refine ⟨w0, env, rfl, S0, ER, P0.mono fun w1 ds _ S1 hq vs hv => ?_⟩
  obtain ⟨w, ds, e1, S, rs, P⟩ := hq vs hv
  rw [← e1]
  simp only [bltV] at P
  split at P
  · rename_i x
    obtain ⟨v, rfl, r⟩ := RVs.one_inv rs
    split at P
    · rename_i xs e2
      split at P
      · rename_i l e3
        split at P
        · rename_i h60
          obtain ⟨b, us, rfl, hb, ru⟩ := dr_lst S r e2
          obtain ⟨ks, rfl, rfl, hks⟩ := pairs_V ru e3
          have nd : (ks.map (·.2)).Nodup := h60.2
          have hkl : ks.length < 64 := by
            have := nodup_le (ks.map (·.2)) (prSort (ks.map (·.2))) nd fun x hx => (prSort_mem _ _).mpr hx
            rw [List.length_map] at this
            have := h60.1
            omega
          refine ⟨b, ks, rfl, SqL.of hb, fun p hp => by rw [← hK]; exact hks p hp, hkl, fun L' p pm pw hp => ?_⟩
          have eL : L'.map (·.2) = prSort (ks.map (·.2)) := by
            refine srt_uniq ?_ (prSort_srt _) fun x => ?_
            · have n2 : (L'.map (·.2)).Nodup := (pm.map (·.2)).nodup_iff.mpr nd
              have n2 : (L'.map (·.2)).Pairwise (fun x y => x ≠ y) := n2
              have p2 : (L'.map (·.2)).Pairwise (fun x y => kz x ≤ kz y) := List.pairwise_map.mpr pw
              exact (p2.and n2).imp fun {x y} h => by
                have : kz x ≠ kz y := fun q => h.2 (kz_inj q)
                have := h.1
                omega
            · rw [prSort_mem, (pm.map (·.2)).mem_iff]
          have hv2 : RVs C w (L'.map fun q => V.ref q.1) ((prSort (ks.map (·.2))).map prD) := by
            rw [← eL]
            exact pairs_RV fun q hq => hks q (pm.mem_iff.mp hq)
          exact new_lst S hv2 P p hp
        · exact P.elim
      · exact P.elim
    · exact P.elim
  · exact P.elim
theorem rgV_RV {w : Wd} (j : Int) : RVs C w (rgV 0 j) ((List.range j.toNat).map fun (i : Nat) => D.int (i : Int)) := by
  unfold rgV
  have e : (j - 0).toNat = j.toNat := by omega
  rw [e]
  have go : ∀ l : List Nat, RVs C w (l.map fun (i : Nat) => V.int (0 + (i : Nat))) (l.map fun (i : Nat) => D.int (i : Int)) := by
    intro l
    induction l with
    | nil => exact .nil
    | cons a l ih =>
      refine .cons ?_ ih
      show RV C w (.int (0 + (a : Nat))) (.int (a : Nat))
      rw [Int.zero_add]
      exact .int _
  exact go _
theorem pe_lrng' {a : Expr} {p p2 pos pos2 : Pos} {mas : Env → Store → R D} {k : Bool} (hc : X.calm = true) (hg : Gl X "list") (hm : X.mg "list" = none) (hg2 : Gl X "range") (hm2 : X.mg "range" = none) (ha : PE X a (SimE C mas)) (hs : notStar a = true) :
    PE X (.Call (.Name "list" p) [.Call (.Name "range" p2) [a] [] pos2] [] pos) (SimE C fun env s => (mas env s).bind fun d s1 => (rngV d s1).bind fun x s2 => bltV C.tg .list_ k [x] s2) := by
  refine PE.imp (pe_listRg hc hg hm (prg_1 hg2 hm2 ha (starEach_cons hs [] X.env)) (starEach_cons rfl [] X.env)) fun σ H Q h => ?_
  obtain ⟨w, env, rfl, S, ER, P⟩ := h
  refine ⟨w, env, rfl, S, ER, P.bind.mono fun w1 d p1 S1 h1 v rv => ?_⟩
  unfold rngV at h1
  split at h1
  · rename_i j
    split at h1
    · rename_i hj
      refine ⟨j, rv.int_inv, ?_, fun q hq => ?_⟩
      · unfold LIM at hj
        exact ⟨by omega, by omega, by omega, by omega, by omega⟩
      · exact new_lst S1 (rgV_RV j) h1 q hq
    · exact h1.elim
  · exact h1.elim
end
end PI

/-! PM: the translation of expressions and its soundness. -/
namespace PI
open PySem PySem.Spec PyProof.Rows L2
structure Tb where
  tg : List Str
  fl : List Str
  gln : List (Str × Nat)
  fnn : List (Str × Nat)
  cln : List (Str × Nat)
  mtn : List (Str × Nat)
  cl : List Pos
  fz : List Pos
structure Gm where
  N : List Str
  sc : Scope
  fn : Str → Bool
def okName (x : Str) : Bool := !(x == "__debug__") && (!(x == "__classdict__") && !(x == "__name__"))
def visB (sc : Scope) (x : Str) : Bool := match sc.names.lookup x with
  | some .local => true
  | some .cell => true
  | some .free => true
  | _ => false
def glB (sc : Scope) (x : Str) : Bool := match sc.names.lookup x with
  | some .globalImplicit => true
  | _ => false
def gd {α : Type} (b : Bool) (o : Option α) : Option α := match b with
  | true => o
  | false => none
theorem gd_some {α : Type} {b : Bool} {o : Option α} {x : α} (h : gd b o = some x) : b = true ∧ o = some x := by
  cases b with
  | true => exact ⟨rfl, h⟩
  | false => cases h
def ixOf : List Str → Str → Option Nat
  | [], _ => none
  | y :: r, x => if y = x then some 0 else (ixOf r x).map (· + 1)
theorem ixOf_ok : ∀ {N : List Str} {x : Str} {i : Nat}, ixOf N x = some i → N[i]? = some x
  | [], _, _, h => by cases h
  | y :: r, x, i, h => by
    unfold ixOf at h
    by_cases e : y = x
    · rw [if_pos e] at h; cases h; simp [e]
    · rw [if_neg e] at h
      obtain ⟨j, h1, h2⟩ := Option.map_eq_some_iff.mp h
      subst h2
      simpa using ixOf_ok h1
def notIf : Expr → Bool
  | .IfExp _ _ _ _ => false
  | _ => true
def bopOf : Operator → Option Bop
  | .Add => some .add | .Sub => some .sub | .Mult => some .mul | .FloorDiv => some .fdiv | .Mod => some .mod | .Pow => some .pow | _ => none
abbrev bopO : Bop → Operator
  | .add => .Add | .sub => .Sub | .mul => .Mult | .fdiv => .FloorDiv | .mod => .Mod | .pow => .Pow
theorem bopOf_ok {op : Operator} {o : Bop} (h : bopOf op = some o) : op = bopO o := by cases op <;> cases h <;> rfl
def copOf : CmpOp → Cop
  | .Eq => .eq | .NotEq => .ne | .Lt => .lt | .LtE => .le | .Gt => .gt | .GtE => .ge | .Is => .is_ | .IsNot => .isnot | .In => .in_ | .NotIn => .notin
theorem copOf_ok (op : CmpOp) : copO (copOf op) = op := by cases op <;> rfl
def bltOf (x : Str) (n : Nat) : Option Blt :=
  if x = "len" then gd (n == 1) (some .len) else if x = "int" then gd (n == 1) (some .int_) else if x = "list" then gd (n == 1) (some .list_) else if x = "tuple" then gd (n == 1) (some .tuple_)
  else if x = "max" then (if n = 1 then some .max1 else gd (n == 2) (some .max2)) else if x = "min" then gd (n == 2) (some .min2) else if x = "sum" then gd (n == 1) (some .sum) else if x = "str" then gd (n == 1) (some .str_) else none
def bltNames : List Str := ["len", "int", "list", "tuple", "max", "min", "sum", "isinstance", "range", "bool", "str", "sorted", "set"]
def tyOf (x : Str) : Option Nat := if x = "int" then some 0 else if x = "bool" then some 1 else if x = "str" then some 2 else if x = "list" then some 3 else if x = "tuple" then some 4 else none
def bmtOf (m : Str) (n : Nat) : Option Bmt :=
  if m = "append" then gd (n == 1) (some .append) else if m = "extend" then gd (n == 1) (some .extend) else if m = "pop" then (if n = 0 then some .pop0 else gd (n == 1) (some .popAt))
  else if m = "reverse" then gd (n == 0) (some .reverse) else if m = "get" then (if n = 1 then some .get1 else gd (n == 2) (some .get2)) else if m = "join" then gd (n == 1) (some .join) else if m = "split" then gd (n == 1) (some .split) else if m = "index" then gd (n == 1) (some .index) else none
/-- a display that begins with a word -/
def wordB : List Expr → Bool
  | .Name x _ :: _ => x == "word"
  | _ => false
def rngA : Str → List Expr → Option Expr
  | x, [.Call (.Name y _) [a] [] _] => if x = "list" ∧ y = "range" then some a else none
  | _, _ => none
def ownOf (N : List Str) : List (Str × NameKind) → List (Str × Nat)
  | [] => []
  | (x, k) :: r => match k, ixOf N x with
    | .local, some i => (x, i) :: ownOf N r
    | .cell, some i => (x, i) :: ownOf N r
    | _, _ => ownOf N r
def tgOk (Γ : Gm) (x : Str) : Bool := match Γ.sc.names.lookup x with
  | some .local => true
  | some .cell => Γ.fn x
  | _ => false
def slotT (Γ : Gm) (x : Str) : Option Nat := gd (tgOk Γ x) (ixOf Γ.N x)
def slotsT (Γ : Gm) : List Expr → Option (List Nat)
  | [] => some []
  | .Name x _ :: r => (slotT Γ x).bind fun i => (slotsT Γ r).map (i :: ·)
  | _ :: _ => none
def trCT (Γ : Gm) : Expr → Option CT
  | .Name x _ => (slotT Γ x).map .name
  | .Tuple es _ _ => (slotsT Γ es).map .tup
  | _ => none
def blkG (Γ : Gm) (scope : Scope) : Gm := ⟨Γ.N, relS scope Γ.sc, fun x => scope.names.lookup x == some .cell⟩
mutual
def tr (T : Tb) : Nat → Gm → Expr → Option E
  | 0, _, _ => none
  | n + 1, Γ, .Name x pos => match visB Γ.sc x with
    | true => gd (okName x) ((ixOf Γ.N x).map fun i => if T.fz.contains pos = true then .frz i else .var i)
    | false => gd (glB Γ.sc x && okName x) ((T.gln.lookup x).map .glob)
  | n + 1, Γ, .Constant c _ _ => match c with
    | .int i => some (.cst (.int i))
    | .bool b => some (.cst (.bl b))
    | .none => some (.cst .non)
    | .str x => (ixOf T.tg x).map fun i => .cst (.tag i)
    | _ => none
  | n + 1, Γ, .BinOp a op b pos => (bopOf op).bind fun o => (tr T n Γ a).bind fun x => (tr T n Γ b).map fun y => .bin o (T.cl.contains pos) x y
  | n + 1, Γ, .UnaryOp op a pos => match op with
    | .Not => gd (notIf a) ((tr T n Γ a).map .not)
    | .USub => (match a with
      | .Constant (.int i) _ _ => some (.cst (.int (-i)))
      | _ => none)
    | _ => none
  | n + 1, Γ, .BoolOp op vs pos => trB T n Γ op vs
  | n + 1, Γ, .IfExp c a b pos => gd (notIf c) ((tr T n Γ c).bind fun x => (tr T n Γ a).bind fun y => (tr T n Γ b).map fun z => .ite x y z)
  | n + 1, Γ, .Compare a ops cs pos => match ops, cs with
    | [op], [b] => gd (notSet b) ((tr T n Γ a).bind fun x => (tr T n Γ b).map fun y => .cmp (copOf op) x y)
    | [op, op'], [b, c] => gd (notSet c) ((tr T n Γ a).bind fun x => (tr T n Γ b).bind fun y => (tr T n Γ c).map fun z => .chain (copOf op) (copOf op') x y z)
    | _, _ => none
  | n + 1, Γ, .Call f args kws pos => match f, kws with
    | .Name x _, [] => gd (glB Γ.sc x && (okName x && (args.all notStar && !args.isEmpty))) (
      if x = "isinstance" then (match args with
        | [a, .Name t _] => (tyOf t).bind fun i => gd (glB Γ.sc t) ((tr T n Γ a).map fun y => .isi y [i])
        | [a, .Tuple [.Name t _, .Name t2 _] _ _] => (tyOf t).bind fun i => (tyOf t2).bind fun j => gd (glB Γ.sc t && glB Γ.sc t2) ((tr T n Γ a).map fun y => .isi y [i, j])
        | _ => none)
      else if x = "sorted" then (match args with
        | [.Call (.Name t _) [a] [] _] => if t = "set" then gd (glB Γ.sc "set" && notStar a) ((tr T n Γ a).map fun y => .blt .sset (T.cl.contains pos) (.cons y .nil)) else none
        | [.ListComp elt gens sc q] => (tr T n Γ (.ListComp elt gens sc q)).map fun y => .blt .srt (T.cl.contains pos) (.cons y .nil)
        | _ => none)
      else match rngA x args with
      | some a => gd (glB Γ.sc "range" && notStar a) ((tr T n Γ a).map fun y => .blt .list_ (T.cl.contains pos) (.cons (.rng y) .nil))
      | none => match bltOf x args.length with
        | some o => (trs T n Γ args).map fun as => .blt o (T.cl.contains pos) as
        | none => match T.fnn.lookup x with
          | some i => (trs T n Γ args).map fun as => .call i as
          | none => match T.cln.lookup x with
            | some c => (trs T n Γ args).map fun as => .mk c as
            | none => none)
    | .Attribute o m apos, [] => gd (noSup o && (args.all notStar && (decide (args.length < 29) && apos.endLine == pos.line))) ((tr T n Γ o).bind fun ce => (trs T n Γ args).bind fun as => match bmtOf m args.length with
      | some op => some (.bmt op ce as)
      | none => (T.mtn.lookup m).map fun k => .mth k ce as)
    | _, _ => none
  | n + 1, Γ, .Attribute a x pos => gd (noSup a) ((tr T n Γ a).bind fun ce => (ixOf T.fl x).map fun f => if T.fz.contains pos = true then .frzE (.fld ce f) else .fld ce f)
  | n + 1, Γ, .Subscript a b pos => match b with
    | .Slice lo hi none _ => (tr T n Γ a).bind fun ca => (trO T n Γ lo).bind fun l => (trO T n Γ hi).map fun h => .slc (T.cl.contains pos) l.1 h.1 ca l.2 h.2
    | b => gd (notSlice b) ((tr T n Γ a).bind fun x => (tr T n Γ b).map fun y => .idx x y)
  | n + 1, Γ, .Tuple es _ pos => gd (decide (es.length ≤ 1000) && es.all notStar) ((trs T n Γ es).map fun as => match wordB es with
    | true => .tupW as
    | false => .tup as)
  | n + 1, Γ, .List es pos => gd (decide (es.length ≤ 1000) && es.all notStar) ((trs T n Γ es).map fun as => .lst (T.cl.contains pos) as)
  | n + 1, Γ, .Dict ks vs pos => gd (decide (ks.length = vs.length) && (!ks.isEmpty && decide (ks.length ≤ 15))) ((trD T n Γ ks vs).map fun cs => .dct (T.cl.contains pos) (flatEs cs))
  | n + 1, Γ, .ListComp elt gens scope pos => match gens with
    | [⟨tg, it, ifs, 0⟩] => (trCT (blkG Γ scope) tg).bind fun t => gd (blkC Γ.N Γ.sc scope (ownOf Γ.N scope.names) && ((ctSlots t).all fun i => ((ownOf Γ.N scope.names).map (·.2)).contains i)) ((trI T n Γ it).bind fun ci =>
      (trF T n (blkG Γ scope) ifs).bind fun c => (tr T n (blkG Γ scope) elt).map fun ce => .comp (T.cl.contains pos) ((ownOf Γ.N scope.names).map (·.2)) t ci c ce)
    | _ => none
  | _, _, _ => none
def trs (T : Tb) : Nat → Gm → List Expr → Option Es
  | 0, _, _ => none
  | n + 1, _, [] => some .nil
  | n + 1, Γ, e :: es => (tr T n Γ e).bind fun x => (trs T n Γ es).map fun y => .cons x y
def trB (T : Tb) : Nat → Gm → PySem.BoolOp → List Expr → Option E
  | 0, _, _, _ => none
  | n + 1, _, _, [] => none
  | n + 1, Γ, _, [e] => gd (notIf e) (tr T n Γ e)
  | n + 1, Γ, op, e :: e2 :: es => gd (notIf e) ((tr T n Γ e).bind fun x => (trB T n Γ op (e2 :: es)).map fun y => match op with
    | .And => .and x y
    | .Or => .or x y)
def trO (T : Tb) : Nat → Gm → Option Expr → Option (Bool × E)
  | 0, _, _ => none
  | n + 1, _, none => some (false, .nop)
  | n + 1, Γ, some e => (tr T n Γ e).map fun x => (true, x)
def trD (T : Tb) : Nat → Gm → List (Option Expr) → List Expr → Option (List (E × E))
  | 0, _, _, _ => none
  | n + 1, _, [], [] => some []
  | n + 1, Γ, some k :: ks, v :: vs => (tr T n Γ k).bind fun x => (tr T n Γ v).bind fun y => (trD T n Γ ks vs).map fun r => (x, y) :: r
  | n + 1, _, _, _ => none
def trI (T : Tb) : Nat → Gm → Expr → Option E
  | 0, _, _ => none
  | n + 1, Γ, e => gd (notSet e) (match e with
    | .Call (.Name x _) [a] [] _ => if x = "range" then gd (glB Γ.sc "range" && notStar a) ((tr T n Γ a).map .rng) else tr T n Γ e
    | .Call (.Name x _) [a, b, c] [] _ => if x = "range" then gd (glB Γ.sc "range" && (notStar a && (notStar b && notStar c))) ((tr T n Γ a).bind fun ca => (tr T n Γ b).bind fun cb => (tr T n Γ c).map fun cc => .rng3 ca cb cc) else tr T n Γ e
    | _ => tr T n Γ e)
def trF (T : Tb) : Nat → Gm → List Expr → Option E
  | 0, _, _ => none
  | n + 1, _, [] => some (.cst (.bl true))
  | n + 1, Γ, [e] => gd (notIf e) (tr T n Γ e)
  | n + 1, _, _ => none
end
end PI

/-! PN: the translation of expressions is sound. -/
namespace PI
open PySem PySem.Spec PyProof.Rows L2
/-- what does not depend on the frame -/
structure Sta (X : Cx) (C : Txs) (G : GE) (n : Nat) (T : Tb) : Prop where
  calm : X.calm = true
  K : C.K = X.K
  w : C.wd = X.w
  tgC : C.tg = T.tg
  flC : C.fl = T.fl
  tgG : G.tg = C.tg
  nd : C.tg.Nodup
  cl : ClsOk C X.K
  room : Room n X.A
  sok : ∀ x ∈ C.tg, PyData.strOk x = true
  blt : ∀ x ∈ bltNames, X.mg x = none
  gl : ∀ x g, T.gln.lookup x = some g → ∃ v u d, X.mg x = some u ∧ RelV v u ∧ G.gl g = some d ∧ ∀ w, RV C w v d
  fn : ∀ x f, T.fnn.lookup x = some f → ∃ fa fd ps, X.mg x = some (.ref fa) ∧ PySem.W.keepIn X.K (.ref fa) = true ∧ FnOk X.prog X.w X.K X.mg X.base CX0 n fa fd ps (spOf C (G.fn f)) ∧ Binds X.K fd ps []
  mt : ∀ m k, T.mtn.lookup m = some k → MthOk X C G n k m ∧ C.fl ≠ [] ∧ ∀ (i : Nat) (y : Str), C.fl[i]? = some y → y ≠ m
  mkr : ∀ x c, T.cln.lookup x = some c → (∀ f, G.ini c = some f → ∀ ds s, G.mkf f ds s = .stuck) ∨ ∃ fi fd ps f k, n = k + 1 ∧ Mk X.K (C.ca c) fi ∧ FnOk X.prog X.w X.K X.mg X.base CX0 k fi fd ps (spOf C (G.mkf f)) ∧ X.mg x = some (.ref (C.ca c)) ∧ Binds X.K fd ps [] ∧ G.ini c = some f
structure Fit (Γ : Gm) (X : Cx) : Prop where
  N : X.N = Γ.N
  nd : Γ.N.Nodup
  sc : X.env.scope = Γ.sc
  fn : ∀ x, Γ.fn x = true → X.fn x = true
theorem Sta.blk {X : Cx} {C : Txs} {G : GE} {n : Nat} {T : Tb} (S : Sta X C G n T) (s : Shared) (H : Hp) (sc : Scope) (env : PySem.Env) (fp : List Addr) : Sta (X.blk s H sc env fp) C G n T :=
  ⟨S.calm, S.K, S.w, S.tgC, S.flC, S.tgG, S.nd, S.cl, S.room, S.sok, S.blt, S.gl, S.fn, S.mt, S.mkr⟩
theorem Fit.blk {Γ : Gm} {X : Cx} (F : Fit Γ X) (s : Shared) (H : Hp) (sc : Scope) (Ca : Addr) (cl : List (Str × Addr)) (fp : List Addr) : Fit (blkG Γ sc) (X.blk s H sc (compEnvC sc cl Ca X.env) fp) := by
  refine ⟨F.N, F.nd, ?_, fun x h => h⟩
  show relabel sc X.env = relS sc Γ.sc
  rw [← F.sc]
  rfl
theorem okName_ok {x : Str} (h : okName x = true) : (x == ("__debug__" : Str)) = false ∧ (x == ("__classdict__" : Str)) = false ∧ x ≠ "__name__" := by
  unfold okName at h
  simp only [Bool.and_eq_true, Bool.not_eq_true'] at h
  exact ⟨h.1, h.2.1, fun e => by subst e; simp at h⟩
section
variable {X : Cx} {C : Txs} {G : GE} {n : Nat} {T : Tb} {Γ : Gm}
theorem vis_ok (F : Fit Γ X) {x : Str} (h : visB Γ.sc x = true) : Vis X.env.scope x := by
  rw [F.sc]
  unfold visB at h
  unfold Vis
  split at h
  · rename_i e; exact .inl e
  · rename_i e; exact .inr (.inl e)
  · rename_i e; exact .inr (.inr e)
  · cases h
theorem gl_ok (F : Fit Γ X) {x : Str} (h : glB Γ.sc x = true) : Gl X x := by
  unfold glB at h
  unfold Gl
  show X.env.scope.names.lookup x = _
  rw [F.sc]
  split at h
  · assumption
  · cases h
theorem tgOk_ok (F : Fit Γ X) {x : Str} (h : tgOk Γ x = true) : L2.Loc X.env.scope x ∧ (X.fn x = true ∨ X.env.scope.names.lookup x = some .local) := by
  unfold tgOk at h
  unfold L2.Loc
  rw [F.sc]
  split at h
  · rename_i e; exact ⟨.inl e, .inr e⟩
  · rename_i e; exact ⟨.inr e, .inl (F.fn x h)⟩
  · cases h
theorem slotT_ok (F : Fit Γ X) {x : Str} {i : Nat} (h : slotT Γ x = some i) : X.N[i]? = some x ∧ L2.Loc X.env.scope x ∧ (X.fn x = true ∨ X.env.scope.names.lookup x = some .local) := by
  obtain ⟨h1, h2⟩ := gd_some h
  exact ⟨by rw [F.N]; exact ixOf_ok h2, tgOk_ok F h1⟩
theorem slotsT_ok (F : Fit Γ X) : ∀ {es : List Expr} {is : List Nat}, slotsT Γ es = some is → PGs X es (gNames is) ∧ es.length = is.length ∧ es.all notStar = true
  | [], is, h => by cases h; exact ⟨pgs_nil, rfl, rfl⟩
  | e :: es, is, h => by
    cases e with
    | Name x p =>
      unfold slotsT at h
      obtain ⟨i, h1, h2⟩ := Option.bind_eq_some_iff.mp h
      obtain ⟨js, h3, h4⟩ := Option.map_eq_some_iff.mp h2
      subst h4
      obtain ⟨q1, q2, q3⟩ := slotsT_ok F h3
      obtain ⟨r1, r2, r3⟩ := slotT_ok F h1
      exact ⟨pgs_cons (pg_name (by rw [F.N]; exact F.nd) r1 r2 r3) q1, by simp [q2], by rw [List.all_cons, q3] <;> rfl⟩
    | _ => simp [slotsT] at h
theorem trCT_ok (S : Sta X C G n T) (F : Fit Γ X) {tg : Expr} {t : CT} (h : trCT Γ tg = some t) : PG X tg (gCT C.K t) := by
  cases tg with
  | Name x p =>
    obtain ⟨i, h1, h2⟩ := Option.map_eq_some_iff.mp h
    subst h2
    obtain ⟨r1, r2, r3⟩ := slotT_ok F h1
    exact pg_name (by rw [F.N]; exact F.nd) r1 r2 r3
  | Tuple es k p =>
    obtain ⟨is, h1, h2⟩ := Option.map_eq_some_iff.mp h
    subst h2
    obtain ⟨q1, q2, q3⟩ := slotsT_ok F h1
    have z := assignEach_star (env := X.env) q3
    show PG X (.Tuple es k p) (gTup C.K is.length (gNames is))
    rw [S.K]
    exact pg_tup S.calm q1 (z.1.trans q2) z.2
  | _ => cases h
/-- what is shown of an expression's code -/
def OkE (X : Cx) (C : Txs) (G : GE) (e : Expr) (c : E) : Prop := PE X e (SimE C (evalE G c)) ∧ (notIf e = true → PT X e (SimT C (evalE G c)))
theorem SimE.congr {C : Txs} {m m' : Env → Store → R D} (h : m = m') {X : Cx} {e : Expr} (q : PE X e (SimE C m)) : PE X e (SimE C m') := h ▸ q
theorem PE.never {e : Expr} {t : TE} (h : ∀ σ H Q, ¬ t σ H Q) : PE X e t := ⟨fun pins s σ H Q I q => (h σ H Q q).elim⟩
theorem OkE.plain {e : Expr} {c : E} (h : PE X e (SimE C (evalE G c))) (hp : plainT e = true) : OkE X C G e c := ⟨h, fun _ => pt_plain h hp⟩
theorem ok_cst {e : Expr} {d : D} {v : V} (h : PE X e (tC v)) (r : ∀ w, RV C w v d) (hp : plainT e = true) : OkE X C G e (.cst d) := by
  refine .plain (PE.imp h fun σ H Q q => ?_) hp
  obtain ⟨w, env, rfl, S, ER, P⟩ := q
  simp only [evalE] at P
  exact val_ok S (r w) P
theorem ok_name (S : Sta X C G n T) (F : Fit Γ X) {x : Str} {p : Pos} {f : Nat} {c : E} (h : tr T (f + 1) Γ (.Name x p) = some c) : OkE X C G (.Name x p) c := by
  simp only [tr] at h
  split at h
  · rename_i hv
    obtain ⟨h1, h2⟩ := gd_some h
    obtain ⟨i, h3, h4⟩ := Option.map_eq_some_iff.mp h2
    obtain ⟨o1, o2, o3⟩ := okName_ok h1
    have hN : X.N[i]? = some x := by rw [F.N]; exact ixOf_ok h3
    split at h4
    · subst h4
      exact .plain (pe_frz' hN (vis_ok F hv) o1 o2) rfl
    · subst h4
      exact .plain (pe_var' hN (vis_ok F hv) o1 o2) rfl
  · obtain ⟨h1, h2⟩ := gd_some h
    rw [Bool.and_eq_true] at h1
    obtain ⟨g, h3, h4⟩ := Option.map_eq_some_iff.mp h2
    subst h4
    obtain ⟨o1, o2, o3⟩ := okName_ok h1.2
    obtain ⟨v, u, d, m1, m2, m3, m4⟩ := S.gl x g h3
    refine .plain (PE.imp (pe_glob (gl_ok F h1.1) m1 m2 o1) fun σ H Q q => ?_) rfl
    obtain ⟨w, env, rfl, SS, ER, P⟩ := q
    simp only [evalE, m3] at P
    exact val_ok SS (m4 w) P
theorem ok_const (S : Sta X C G n T) {c : Const} {k : Nat} {p : Pos} {f : Nat} {ce : E} (h : tr T (f + 1) Γ (.Constant c k p) = some ce) : OkE X C G (.Constant c k p) ce := by
  simp only [tr] at h
  cases c with
  | int i => cases h; exact ok_cst pe_int (fun w => .int i) rfl
  | bool b => cases h; exact ok_cst pe_bl (fun w => .bl b) rfl
  | none => cases h; exact ok_cst pe_non (fun w => .non) rfl
  | str x =>
    obtain ⟨i, h1, h2⟩ := Option.map_eq_some_iff.mp h
    subst h2
    have hi := ixOf_ok h1
    rw [← S.tgC] at hi
    exact ok_cst pe_str (fun w => .tag hi (S.sok x (List.mem_of_getElem? hi))) rfl
  | _ => cases h
theorem ok_bin (S : Sta X C G n T) {a b : Expr} {op : Operator} {o : Bop} {ca cb : E} {k : Bool} {p : Pos} (ho : bopOf op = some o) (ha : OkE X C G a ca) (hb : OkE X C G b cb) : OkE X C G (.BinOp a op b p) (.bin o k ca cb) := by
  have e := bopOf_ok ho
  subst e
  have q : OpR X (binaryOp (bopO o)) (SimR2 C (bopV C.tg o k)) := by
    have z := or_bop (X := X) (C := C) o k S.K
    cases o <;> exact z
  refine .plain (SimE.congr ?_ (pe_bin' (pos := p) q ha.1 hb.1)) rfl
  funext env s
  simp only [evalE, S.tgG]
theorem ok_cmp (S : Sta X C G n T) {a b : Expr} {op : CmpOp} {ca cb : E} {p : Pos} (hn : notSet b = true) (ha : OkE X C G a ca) (hb : OkE X C G b cb) : OkE X C G (.Compare a [op] [b] p) (.cmp (copOf op) ca cb) := by
  have q : OpR X (compareOp op) (SimR2 C (copV C.tg (copOf op))) := by
    have z := or_cop (X := X) (C := C) (copOf op) S.nd S.K S.w (by have := S.room.un; omega)
    rw [copOf_ok] at z
    exact z
  have e : (fun env s => (evalE G ca env s).bind fun x s1 => (evalE G cb env s1).bind fun y s2 => copV C.tg (copOf op) x y s2) = evalE G (.cmp (copOf op) ca cb) := by
    funext env s
    simp only [evalE, S.tgG]
  refine ⟨?_, fun _ => ?_⟩
  · rw [← e]; exact pe_cmp' q ha.1 hb.1 (marks_of hn _)
  · rw [← e]; exact pt_cmp' q ha.1 hb.1 (marks_of hn _)
theorem ok_chain (S : Sta X C G n T) {a b c : Expr} {op op' : CmpOp} {ca cb cc : E} {p : Pos} (hn : notSet c = true) (ha : OkE X C G a ca) (hb : OkE X C G b cb) (hc : OkE X C G c cc) : OkE X C G (.Compare a [op, op'] [b, c] p) (.chain (copOf op) (copOf op') ca cb cc) := by
  have q : ∀ op, OpR X (compareOp op) (SimR2 C (copV C.tg (copOf op))) := fun op => by
    have z := or_cop (X := X) (C := C) (copOf op) S.nd S.K S.w (by have := S.room.un; omega)
    rw [copOf_ok] at z
    exact z
  have e : (fun env s => (evalE G ca env s).bind fun x s1 => (evalE G cb env s1).bind fun y s2 => (copV C.tg (copOf op) x y s2).bind fun z s3 => boolK z s3 (fun s3 => (evalE G cc env s3).bind fun w s4 => copV C.tg (copOf op') y w s4) (fun s3 => .ok (.bl false) s3)) = evalE G (.chain (copOf op) (copOf op') ca cb cc) := by
    funext env s
    simp only [evalE, S.tgG]
  refine ⟨?_, fun _ => ?_⟩
  · rw [← e]; exact pe_chain' (q op) (q op') ha.1 hb.1 hc.1 hn
  · rw [← e]; exact pt_chain' (q op) (q op') ha.1 hb.1 hc.1 hn
theorem ok_not {a : Expr} {ca : E} {p : Pos} (hn : notIf a = true) (ha : OkE X C G a ca) : OkE X C G (.UnaryOp .Not a p) (.not ca) := by
  have e : (fun env s => (evalE G ca env s).bind fun x s1 => boolK x s1 (fun s => .ok (.bl false) s) (fun s => .ok (.bl true) s)) = evalE G (.not ca) := by
    funext env s
    simp only [evalE]
  refine ⟨?_, fun _ => ?_⟩
  · rw [← e]; exact pe_not' ha.1
  · rw [← e]; exact pt_not' (ha.2 hn)
theorem ok_neg {i : Int} {k : Nat} {p p' : Pos} : OkE X C G (.UnaryOp .USub (.Constant (.int i) k p) p') (.cst (.int (-i))) := by
  refine .plain (PE.imp (pe_un un_neg pe_int) fun σ H Q q => ?_) rfl
  obtain ⟨w, env, rfl, S, ER, P⟩ := q
  simp only [evalE] at P
  exact ⟨i, rfl, val_ok S (.int _) P⟩
theorem ok_ite {a b c : Expr} {ca cb cc : E} {p : Pos} (hn : notIf c = true) (hc : OkE X C G c cc) (ha : OkE X C G a ca) (hb : OkE X C G b cb) : OkE X C G (.IfExp c a b p) (.ite cc ca cb) := by
  refine ⟨SimE.congr ?_ (pe_ite' (hc.2 hn) ha.1 hb.1), fun h => by cases h⟩
  funext env s
  simp only [evalE]
/-! ### arguments -/
def esLen : Es → Nat
  | .nil => 0
  | .cons _ r => esLen r + 1
theorem evalEs_len : ∀ (as : Es) (env : Env) (s : Store) (ds : List D) (s' : Store), evalEs G as env s = .ok ds s' → ds.length = esLen as
  | .nil, env, s, ds, s', h => by simp only [evalEs] at h; cases h; rfl
  | .cons a r, env, s, ds, s', h => by
    simp only [evalEs] at h
    cases e : evalE G a env s with
    | stuck => rw [e] at h; cases h
    | exc x y => rw [e] at h; cases h
    | ok d s1 =>
      rw [e] at h
      simp only [R.bind_ok] at h
      cases e2 : evalEs G r env s1 with
      | stuck => rw [e2] at h; cases h
      | exc x y => rw [e2] at h; cases h
      | ok ds' s2 =>
        rw [e2] at h
        simp only [R.bind_ok] at h
        cases h
        simp [esLen, evalEs_len r env s1 ds' _ e2]
def OkA (X : Cx) (C : Txs) (G : GE) (es : List Expr) (cs : Es) : Prop := PA X es (SimA C (evalEs G cs)) ∧ esLen cs = es.length
theorem oka_nil : OkA X C G [] .nil := by
  refine ⟨?_, rfl⟩
  have e : (fun (_ : Env) s => R.ok ([] : List D) s) = evalEs G .nil := by funext env s; simp only [evalEs]
  rw [← e]
  exact pa_nil'
theorem oka_cons {e : Expr} {es : List Expr} {c : E} {cs : Es} (h : OkE X C G e c) (hs : OkA X C G es cs) (hn : notStar e = true) : OkA X C G (e :: es) (.cons c cs) := by
  refine ⟨?_, by simp [esLen, hs.2]⟩
  have q : (fun env s => (evalE G c env s).bind fun d s1 => (evalEs G cs env s1).bind fun ds s2 => R.ok (d :: ds) s2) = evalEs G (.cons c cs) := by funext env s; simp only [evalEs]
  rw [← q]
  exact pa_cons' h.1 hs.1 hn
theorem ok_tup {es : List Expr} {cs : Es} {k : Nat} {p : Pos} (h : OkA X C G es cs) (hl : es.length ≤ 1000) : OkE X C G (.Tuple es k p) (.tup cs) := by
  refine .plain (SimE.congr ?_ (pe_tup' h.1 hl fun env s ds s' e => by rw [evalEs_len cs env s ds s' e, h.2])) rfl
  funext env s
  simp only [evalE]
theorem ok_tupW (S : Sta X C G n T) {es : List Expr} {cs : Es} {k : Nat} {p : Pos} (h : OkA X C G es cs) (hl : es.length ≤ 1000) : OkE X C G (.Tuple es k p) (.tupW cs) := by
  refine .plain (SimE.congr ?_ (pe_tupW' h.1 hl fun env s ds s' e => by rw [evalEs_len cs env s ds s' e, h.2])) rfl
  funext env s
  simp only [evalE, S.tgG]
theorem ok_lst {es : List Expr} {cs : Es} {k : Bool} {p : Pos} (h : OkA X C G es cs) (hl : es.length ≤ 1000) : OkE X C G (.List es p) (.lst k cs) := by
  refine .plain (SimE.congr ?_ (pe_lst' (k := k) h.1 hl fun env s ds s' e => by rw [evalEs_len cs env s ds s' e, h.2])) rfl
  funext env s
  simp only [evalE]
/-! ### calls -/
theorem bltOf_ok {x : Str} {m : Nat} {o : Blt} (h : bltOf x m = some o) : bootBuiltins x = some (bltF o) ∧ x ∈ bltNames ∧ o ≠ .srt ∧ o ≠ .sset := by
  unfold bltOf at h
  by_cases e : x = "len"
  · subst e
    rw [if_pos rfl] at h
    obtain ⟨_, h⟩ := gd_some h
    cases h
    exact ⟨by decide +kernel, by decide +kernel, by decide, by decide⟩
  rw [if_neg e] at h
  clear e
  by_cases e : x = "int"
  · subst e
    rw [if_pos rfl] at h
    obtain ⟨_, h⟩ := gd_some h
    cases h
    exact ⟨by decide +kernel, by decide +kernel, by decide, by decide⟩
  rw [if_neg e] at h
  clear e
  by_cases e : x = "list"
  · subst e
    rw [if_pos rfl] at h
    obtain ⟨_, h⟩ := gd_some h
    cases h
    exact ⟨by decide +kernel, by decide +kernel, by decide, by decide⟩
  rw [if_neg e] at h
  clear e
  by_cases e : x = "tuple"
  · subst e
    rw [if_pos rfl] at h
    obtain ⟨_, h⟩ := gd_some h
    cases h
    exact ⟨by decide +kernel, by decide +kernel, by decide, by decide⟩
  rw [if_neg e] at h
  clear e
  by_cases e : x = "max"
  · subst e
    rw [if_pos rfl] at h
    by_cases e1 : m = 1
    · rw [if_pos e1] at h; cases h; exact ⟨by decide +kernel, by decide +kernel, by decide, by decide⟩
    · rw [if_neg e1] at h; obtain ⟨_, h⟩ := gd_some h; cases h; exact ⟨by decide +kernel, by decide +kernel, by decide, by decide⟩
  rw [if_neg e] at h
  clear e
  by_cases e : x = "min"
  · subst e
    rw [if_pos rfl] at h
    obtain ⟨_, h⟩ := gd_some h
    cases h
    exact ⟨by decide +kernel, by decide +kernel, by decide, by decide⟩
  rw [if_neg e] at h
  clear e
  by_cases e : x = "sum"
  · subst e
    rw [if_pos rfl] at h
    obtain ⟨_, h⟩ := gd_some h
    cases h
    exact ⟨by decide +kernel, by decide +kernel, by decide, by decide⟩
  rw [if_neg e] at h
  clear e
  by_cases e : x = "str"
  · subst e
    rw [if_pos rfl] at h
    obtain ⟨_, h⟩ := gd_some h
    cases h
    exact ⟨by decide +kernel, by decide +kernel, by decide, by decide⟩
  rw [if_neg e] at h
  clear e
  cases h
end
end PI

/-! PO1: the translation of expressions is sound, further. -/
namespace PI
open PySem PySem.Spec PyProof.Rows L2
section
variable {X : Cx} {C : Txs} {G : GE} {n : Nat} {T : Tb} {Γ : Gm}
theorem mg_blt (S : Sta X C G n T) {x : Str} (h : x ∈ bltNames) : X.mg x = none := S.blt x h
theorem ok_blt (S : Sta X C G n T) (F : Fit Γ X) {x : Str} {p pos : Pos} {args : List Expr} {as : Es} {o : Blt} {k : Bool} (hg : glB Γ.sc x = true) (hn : okName x = true) (hs : args.all notStar = true) (he : args ≠ []) (ho : bltOf x args.length = some o) (ha : OkA X C G args as) :
    OkE X C G (.Call (.Name x p) args [] pos) (.blt o k as) := by
  obtain ⟨b1, b2, b3, b4⟩ := bltOf_ok ho
  obtain ⟨o1, o2, o3⟩ := okName_ok hn
  have cr := cr_blt (X := X) (C := C) o k S.K S.calm b3 b4
  cases args with
  | nil => exact absurd rfl he
  | cons e es =>
    have eq : (fun env s => (evalEs G as env s).bind fun ds s1 => bltV C.tg o k ds s1) = evalE G (.blt o k as) := by
      funext env s
      simp only [evalE, S.tgG]
    refine .plain ?_ rfl
    rw [← eq]
    have any : ∀ {f : Value}, bltF o = f → bootBuiltins x = some f → CallR X f (SimC C (bltV C.tg o k)) := fun {f} e _ => e ▸ cr
    cases o with
    | srt => exact absurd rfl b3
    | sset => exact absurd rfl b4
    | str_ => exact pe_bltTy' cr (gl_ok F hg) (mg_blt S b2) b1 ha.1 o3 o1 hs
    | int_ => exact pe_bltTy' cr (gl_ok F hg) (mg_blt S b2) b1 ha.1 o3 o1 hs
    | list_ => exact pe_bltTy' cr (gl_ok F hg) (mg_blt S b2) b1 ha.1 o3 o1 hs
    | tuple_ => exact pe_bltTy' cr (gl_ok F hg) (mg_blt S b2) b1 ha.1 o3 o1 hs
    | _ => exact pe_blt' cr (gl_ok F hg) (mg_blt S b2) b1 ha.1 o3 o1 hs
theorem ok_call (S : Sta X C G n T) (F : Fit Γ X) {x : Str} {p pos : Pos} {args : List Expr} {as : Es} {f : Nat} (hg : glB Γ.sc x = true) (hn : okName x = true) (hs : args.all notStar = true) (he : args ≠ []) (hf : T.fnn.lookup x = some f) (ha : OkA X C G args as) :
    OkE X C G (.Call (.Name x p) args [] pos) (.call f as) := by
  obtain ⟨fa, fd, ps, m1, m2, m3, m4⟩ := S.fn x f hf
  obtain ⟨o1, o2, o3⟩ := okName_ok hn
  cases args with
  | nil => exact absurd rfl he
  | cons e es =>
    refine .plain (SimE.congr ?_ (pe_call' m3 S.room (gl_ok F hg) m1 m2 m4 ha.1 o1 hs)) rfl
    funext env s
    simp only [evalE]
theorem ok_mk (S : Sta X C G n T) (F : Fit Γ X) {x : Str} {p pos : Pos} {args : List Expr} {as : Es} {c : Nat} (hg : glB Γ.sc x = true) (hn : okName x = true) (hs : args.all notStar = true) (he : args ≠ []) (hf : T.cln.lookup x = some c) (ha : OkA X C G args as) :
    OkE X C G (.Call (.Name x p) args [] pos) (.mk c as) := by
  obtain ⟨o1, o2, o3⟩ := okName_ok hn
  rcases S.mkr x c hf with hst | ⟨fi, fd, ps, f, k, rfl, m1, m2, m3, m4, m5⟩
  · refine .plain (PE.never fun σ H Q q => ?_) rfl
    obtain ⟨w, env, rfl, SS, ER, P⟩ := q
    simp only [evalE] at P
    cases e : evalEs G as env w.st with
    | stuck => rw [e] at P; exact P
    | exc a b => rw [e] at P; exact P
    | ok ds s1 =>
      rw [e] at P
      simp only [R.bind_ok] at P
      cases ei : G.ini c with
      | none => rw [ei] at P; exact P
      | some f =>
        rw [ei] at P
        simp only [hst f ei] at P
        exact P
  · cases args with
    | nil => exact absurd rfl he
    | cons e es =>
      refine .plain (SimE.congr ?_ (pe_mk' m1 m2 S.room (gl_ok F hg) m3 m4 m5 ha.1 o1 hs)) rfl
      funext env s
      simp only [evalE] <;> rfl
theorem tyOf_ok {x : Str} {t : Nat} (h : tyOf x = some t) : t < 5 ∧ bootBuiltins x = some (.type (tyN t)) ∧ x ∈ bltNames ∧ x ≠ "__name__" ∧ (x == ("__debug__" : Str)) = false := by
  unfold tyOf at h
  by_cases e : x = "int"
  · subst e; rw [if_pos rfl] at h; cases h; exact ⟨by decide, by decide +kernel, by decide +kernel, by decide +kernel, by decide +kernel⟩
  rw [if_neg e] at h
  by_cases e : x = "bool"
  · subst e; rw [if_pos rfl] at h; cases h; exact ⟨by decide, by decide +kernel, by decide +kernel, by decide +kernel, by decide +kernel⟩
  rw [if_neg e] at h
  by_cases e : x = "str"
  · subst e; rw [if_pos rfl] at h; cases h; exact ⟨by decide, by decide +kernel, by decide +kernel, by decide +kernel, by decide +kernel⟩
  rw [if_neg e] at h
  by_cases e : x = "list"
  · subst e; rw [if_pos rfl] at h; cases h; exact ⟨by decide, by decide +kernel, by decide +kernel, by decide +kernel, by decide +kernel⟩
  rw [if_neg e] at h
  by_cases e : x = "tuple"
  · subst e; rw [if_pos rfl] at h; cases h; exact ⟨by decide, by decide +kernel, by decide +kernel, by decide +kernel, by decide +kernel⟩
  rw [if_neg e] at h
  cases h
theorem isi_mem : ("isinstance" : Str) ∈ bltNames := by decide +kernel
theorem rng_mem : ("range" : Str) ∈ bltNames := by decide +kernel
theorem ok_isi (S : Sta X C G n T) (F : Fit Γ X) {p p2 pos : Pos} {a : Expr} {ca : E} {t : Str} {i : Nat} (hg : glB Γ.sc "isinstance" = true) (hs : notStar a = true) (ht : tyOf t = some i) (hgt : glB Γ.sc t = true) (ha : OkE X C G a ca) :
    OkE X C G (.Call (.Name "isinstance" p) [a, .Name t p2] [] pos) (.isi ca [i]) := by
  obtain ⟨t1, t2, t3, t4, t5⟩ := tyOf_ok ht
  refine .plain (SimE.congr ?_ (pe_isi' S.K t1 ha.1 hs (gl_ok F hg) (mg_blt S isi_mem) (gl_ok F hgt) (mg_blt S t3) t2 t4 t5)) rfl
  funext env s
  simp only [evalE]
theorem ok_isi2 (S : Sta X C G n T) (F : Fit Γ X) {p p2 p3 p4 pos : Pos} {a : Expr} {ca : E} {t u : Str} {i j k2 : Nat} (hg : glB Γ.sc "isinstance" = true) (hs : notStar a = true) (ht : tyOf t = some i) (hgt : glB Γ.sc t = true) (hu : tyOf u = some j) (hgu : glB Γ.sc u = true) (ha : OkE X C G a ca) :
    OkE X C G (.Call (.Name "isinstance" p) [a, .Tuple [.Name t p2, .Name u p3] k2 p4] [] pos) (.isi ca [i, j]) := by
  obtain ⟨t1, t2, t3, t4, t5⟩ := tyOf_ok ht
  obtain ⟨u1, u2, u3, u4, u5⟩ := tyOf_ok hu
  refine .plain (SimE.congr ?_ (pe_isi2' S.K t1 u1 ha.1 hs (gl_ok F hg) (mg_blt S isi_mem) (gl_ok F hgt) (mg_blt S t3) t2 t4 t5 (gl_ok F hgu) (mg_blt S u3) u2 u4 u5)) rfl
  funext env s
  simp only [evalE]
theorem set_mem : ("set" : Str) ∈ bltNames := by decide +kernel
theorem srt_mem : ("sorted" : Str) ∈ bltNames := by decide +kernel
theorem ok_sset (S : Sta X C G n T) (F : Fit Γ X) {p p2 pos pos2 : Pos} {a : Expr} {ca : E} {k : Bool} (hg : glB Γ.sc "sorted" = true) (hg2 : glB Γ.sc "set" = true) (hs : notStar a = true) (ha : OkE X C G a ca) :
    OkE X C G (.Call (.Name "sorted" p) [.Call (.Name "set" p2) [a] [] pos2] [] pos) (.blt .sset k (.cons ca .nil)) := by
  refine .plain (SimE.congr ?_ (pe_sset' (k := k) S.calm (by have := S.room.un; omega) S.K (gl_ok F hg) (mg_blt S srt_mem) (gl_ok F hg2) (mg_blt S set_mem) ha.1 hs)) rfl
  funext env s
  simp only [evalE, evalEs, S.tgG]
  cases evalE G ca env s <;> rfl
theorem ok_srt (S : Sta X C G n T) (F : Fit Γ X) {p pos : Pos} {a : Expr} {ca : E} {k : Bool} (hg : glB Γ.sc "sorted" = true) (hs : notStar a = true) (ha : OkE X C G a ca) :
    OkE X C G (.Call (.Name "sorted" p) [a] [] pos) (.blt .srt k (.cons ca .nil)) := by
  refine .plain (SimE.congr ?_ (pe_srt' (k := k) (by have := S.room.un; omega) S.K (gl_ok F hg) (mg_blt S srt_mem) ha.1 hs)) rfl
  funext env s
  simp only [evalE, evalEs, S.tgG]
  cases evalE G ca env s <;> rfl
theorem list_mem : ("list" : Str) ∈ bltNames := by decide +kernel
theorem rngA_ok {x : Str} {args : List Expr} {a : Expr} (h : rngA x args = some a) : x = "list" ∧ ∃ p pos, args = [.Call (.Name "range" p) [a] [] pos] := by
  unfold rngA at h
  split at h
  · rename_i x y p b pos
    split at h
    · rename_i q
      obtain ⟨q1, q2⟩ := q
      cases h
      subst q2
      exact ⟨q1, _, _, rfl⟩
    · cases h
  · cases h
theorem ok_lrng (S : Sta X C G n T) (F : Fit Γ X) {p p2 pos pos2 : Pos} {a : Expr} {ca : E} {k : Bool} (hg : glB Γ.sc "list" = true) (hg2 : glB Γ.sc "range" = true) (hs : notStar a = true) (ha : OkE X C G a ca) :
    OkE X C G (.Call (.Name "list" p) [.Call (.Name "range" p2) [a] [] pos2] [] pos) (.blt .list_ k (.cons (.rng ca) .nil)) := by
  refine .plain (SimE.congr ?_ (pe_lrng' (k := k) S.calm (gl_ok F hg) (mg_blt S list_mem) (gl_ok F hg2) (mg_blt S rng_mem) ha.1 hs)) rfl
  funext env s
  simp only [evalE, evalEs, S.tgG]
  cases evalE G ca env s with
  | ok d s1 =>
    simp only [R.bind_ok]
    cases rngV d s1 <;> rfl
  | _ => rfl
/-! ### methods -/
theorem bmtOf_ok {m : Str} {k : Nat} {op : Bmt} (h : bmtOf m k = some op) : bmtDone op = true ∧ PlainAttrs (bmtT op) ∧ Slot (bmtT op) m (bmtN op) ∧ typeOf (.builtin (bmtN op)) = pure (.type "method_descriptor") := by
  unfold bmtOf at h
  by_cases e : m = "append"
  · subst e; rw [if_pos rfl] at h; obtain ⟨_, h⟩ := gd_some h; cases h; exact ⟨rfl, PySem.F.plainAttrs_list, PySem.F.slot_list_append, PySem.F.type_list_append⟩
  rw [if_neg e] at h
  by_cases e : m = "extend"
  · subst e; rw [if_pos rfl] at h; obtain ⟨_, h⟩ := gd_some h; cases h; exact ⟨rfl, PySem.F.plainAttrs_list, PySem.F.slot_list_extend, PySem.F.type_list_extend⟩
  rw [if_neg e] at h
  by_cases e : m = "pop"
  · subst e
    rw [if_pos rfl] at h
    by_cases e0 : k = 0
    · rw [if_pos e0] at h; cases h; exact ⟨rfl, PySem.F.plainAttrs_list, PySem.F.slot_list_pop, PySem.F.type_list_pop⟩
    · rw [if_neg e0] at h; obtain ⟨_, h⟩ := gd_some h; cases h; exact ⟨rfl, PySem.F.plainAttrs_list, PySem.F.slot_list_pop, PySem.F.type_list_pop⟩
  rw [if_neg e] at h
  by_cases e : m = "reverse"
  · subst e; rw [if_pos rfl] at h; obtain ⟨_, h⟩ := gd_some h; cases h; exact ⟨rfl, PySem.F.plainAttrs_list, PySem.F.slot_list_reverse, PySem.F.type_list_reverse⟩
  rw [if_neg e] at h
  by_cases e : m = "get"
  · subst e
    rw [if_pos rfl] at h
    by_cases e0 : k = 1
    · rw [if_pos e0] at h; cases h; exact ⟨rfl, PySem.F.plainAttrs_dict, PySem.F.slot_dict_get, PySem.F.type_dict_get⟩
    · rw [if_neg e0] at h; obtain ⟨_, h⟩ := gd_some h; cases h; exact ⟨rfl, PySem.F.plainAttrs_dict, PySem.F.slot_dict_get, PySem.F.type_dict_get⟩
  rw [if_neg e] at h
  by_cases e : m = "join"
  · subst e; rw [if_pos rfl] at h; obtain ⟨_, h⟩ := gd_some h; cases h; exact ⟨rfl, PySem.F.plainAttrs_str, PySem.F.slot_str_join, PySem.F.type_str_join⟩
  rw [if_neg e] at h
  by_cases e : m = "split"
  · subst e; rw [if_pos rfl] at h; obtain ⟨_, h⟩ := gd_some h; cases h; exact ⟨rfl, PySem.F.plainAttrs_str, PySem.F.slot_str_split, PySem.F.type_str_split⟩
  rw [if_neg e] at h
  by_cases e : m = "index"
  · subst e; rw [if_pos rfl] at h; obtain ⟨_, h⟩ := gd_some h; cases h; exact ⟨rfl, PySem.F.plainAttrs_list, PySem.F.slot_list_index, PySem.F.type_list_index⟩
  rw [if_neg e] at h
  cases h
theorem ok_bmt (S : Sta X C G n T) {o : Expr} {m : Str} {apos pos : Pos} {args : List Expr} {ce : E} {as : Es} {op : Bmt} (ho : OkE X C G o ce) (ha : OkA X C G args as) (hm : bmtOf m args.length = some op) (hb : noSup o = true) (hs : args.all notStar = true) (hn : args.length < 29) (hl : (apos.endLine == pos.line) = true) :
    OkE X C G (.Call (.Attribute o m apos) args [] pos) (.bmt op ce as) := by
  obtain ⟨b1, b2, b3, b4⟩ := bmtOf_ok hm
  have hu : X.A.units + 1 < cLine := by have := S.room.un; omega
  cases args with
  | nil =>
    cases as with
    | nil =>
      refine .plain (SimE.congr ?_ (pe_bmt0' S.nd S.K hu b1 b2 b3 b4 ho.1 hb hl)) rfl
      funext env s
      simp only [evalE, evalEs, S.tgG] <;> rfl
    | cons a b => exact absurd ha.2 (by simp [esLen])
  | cons e es =>
    refine .plain (SimE.congr ?_ (pe_bmt' S.nd S.K hu b1 b2 b3 b4 ho.1 ha.1 hb hs hn hl)) rfl
    funext env s
    simp only [evalE, S.tgG] <;> rfl
theorem ok_mth (S : Sta X C G n T) {o : Expr} {m : Str} {apos pos : Pos} {args : List Expr} {ce : E} {as : Es} {k : Nat} (ho : OkE X C G o ce) (ha : OkA X C G args as) (hm : T.mtn.lookup m = some k) (hb : noSup o = true) (hs : args.all notStar = true) (hn : args.length < 29) (hl : (apos.endLine == pos.line) = true) :
    OkE X C G (.Call (.Attribute o m apos) args [] pos) (.mth k ce as) := by
  obtain ⟨m1, m2⟩ := S.mt m k hm
  cases args with
  | nil =>
    cases as with
    | nil =>
      refine .plain (SimE.congr ?_ (pe_mth0' S.K S.cl m1 m2 S.room ho.1 hb hl)) rfl
      funext env s
      simp only [evalE, evalEs] <;> rfl
    | cons a b => exact absurd ha.2 (by simp [esLen])
  | cons e es =>
    refine .plain (SimE.congr ?_ (pe_mth' S.K S.cl m1 m2 S.room ho.1 ha.1 hb hs hn hl)) rfl
    funext env s
    simp only [evalE] <;> rfl
theorem ok_fld (S : Sta X C G n T) {a : Expr} {x : Str} {p : Pos} {ca : E} {f : Nat} (ha : OkE X C G a ca) (hx : ixOf T.fl x = some f) (hb : noSup a = true) : OkE X C G (.Attribute a x p) (.fld ca f) := by
  have hf := ixOf_ok hx
  rw [← S.flC] at hf
  refine .plain (SimE.congr ?_ (pe_fld' S.K S.cl hf ha.1 hb)) rfl
  funext env s
  simp only [evalE]
theorem pe_frzX {a : Expr} {ma : Env → Store → R D} (h : PE X a (SimE C ma)) : PE X a (SimE C fun env s => (ma env s).bind fun x s1 => frzV x s1) := by
  refine PE.imp h fun σ H Q q => ?_
  obtain ⟨w, env, rfl, S, ER, P⟩ := q
  refine ⟨w, env, rfl, S, ER, P.bind.mono fun w1 x p1 S1 h1 v rv => ?_⟩
  unfold frzV at h1
  split at h1
  · rename_i k
    split at h1
    · rename_i xs e
      have z := S1.cell k
      rw [e] at z
      obtain ⟨vs, hH, rs⟩ := z
      have hk : w1.st.f k ≠ .dead := by rw [e]; exact fun q => nomatch q
      obtain ⟨st, S2, nl⟩ := step_dead S1 hk
      cases rv
      exact h1 _ st S2 rfl _ (.lst hH nl (rs.mono S1 st))
    · exact h1.elim
  · exact h1.elim
theorem ok_frzE {a : Expr} {ca : E} (h : OkE X C G a ca) (hp : plainT a = true) : OkE X C G a (.frzE ca) := by
  refine .plain (SimE.congr ?_ (pe_frzX h.1)) hp
  funext env s
  simp only [evalE]
theorem ok_idx (S : Sta X C G n T) {a b : Expr} {p : Pos} {ca cb : E} (ha : OkE X C G a ca) (hb : OkE X C G b cb) (hs : notSlice b = true) : OkE X C G (.Subscript a b p) (.idx ca cb) := by
  refine .plain (SimE.congr ?_ (pe_idx' (xr_idx S.nd S.K S.w (by have := S.room.un; omega)) ha.1 hb.1 hs)) rfl
  funext env s
  simp only [evalE, S.tgG]
def OkO (X : Cx) (C : Txs) (G : GE) (e : Option Expr) (b : Bool) (c : E) : Prop := PO X e (SimO C fun env s => prt b (evalE G c env s))
theorem oko_none : OkO X C G none false .nop := by
  have e : (fun (env : Env) s => prt false (.ok .non s)) = fun env s => prt false (evalE G .nop env s) := by funext env s; simp only [evalE]
  unfold OkO
  rw [← e]
  exact po_none'
theorem oko_some {a : Expr} {ca : E} (ha : OkE X C G a ca) : OkO X C G (some a) true ca := po_some' ha.1
theorem ok_slc (S : Sta X C G n T) {a : Expr} {lo hi : Option Expr} {p p2 : Pos} {ca cl ch : E} {k l h : Bool} (ha : OkE X C G a ca) (hl : OkO X C G lo l cl) (hh : OkO X C G hi h ch) : OkE X C G (.Subscript a (.Slice lo hi none p2) p) (.slc k l h ca cl ch) := by
  refine .plain (SimE.congr ?_ (pe_slc' (k := k) S.K ha.1 hl hh)) rfl
  funext env s
  simp only [evalE, S.tgG]
/-! ### comprehensions -/
theorem ok_comp (S : Sta X C G n T) (F : Fit Γ X) {elt tg it : Expr} {ifs : List Expr} {scope : Scope} {pos : Pos} {t : CT} {ci c ce : E} {k : Bool} (ht : trCT (blkG Γ scope) tg = some t) (hb : blkC Γ.N Γ.sc scope (ownOf Γ.N scope.names) = true) (hv : ((ctSlots t).all fun i => ((ownOf Γ.N scope.names).map (·.2)).contains i) = true)
    (hi : PI X tg it (iSim C (evalE G ci))) (hs : notSet it = true)
    (hc : ∀ (s : Shared) (H : Hp) (Ca : Addr) (cl : List (Str × Addr)) (fp : List Addr), PTs (X.blk s H scope (compEnvC scope cl Ca X.env) fp) ifs (SimT C (evalE G c)))
    (he : ∀ (s : Shared) (H : Hp) (Ca : Addr) (cl : List (Str × Addr)) (fp : List Addr), PE (X.blk s H scope (compEnvC scope cl Ca X.env) fp) elt (SimE C (evalE G ce))) :
    OkE X C G (.ListComp elt [⟨tg, it, ifs, 0⟩] scope pos) (.comp k ((ownOf Γ.N scope.names).map (·.2)) t ci c ce) := by
  have ok : BlkOk X.N X.env.scope scope (ownOf Γ.N scope.names) := by
    rw [F.N, F.sc]
    exact blkOk_by hb
  refine .plain (SimE.congr ?_ (pe_comp' (k := k) (own := ownOf Γ.N scope.names) (ct := c) (ce := ce) S.calm (by rw [F.N]; exact F.nd) hi ok (fun s H Ca cl fp => trCT_ok (S.blk s H scope _ fp) (F.blk s H scope Ca cl fp) ht) hc he (fun i h => by
    have := List.all_eq_true.mp hv i h
    simpa using this) hs)) rfl
  funext env s
  simp only [evalE] <;> rfl
end
end PI

/-! PP: the translation of expressions: the induction. -/
namespace PI
open PySem PySem.Spec PyProof.Rows L2
theorem band {a b : Bool} (h : (a && b) = true) : a = true ∧ b = true := Bool.and_eq_true_iff.mp h
structure All (T : Tb) (f : Nat) : Prop where
  e : ∀ {X : Cx} {C : Txs} {G : GE} {n : Nat} {Γ : Gm} {a : Expr} {c : E}, Sta X C G n T → Fit Γ X → tr T f Γ a = some c → OkE X C G a c
  s : ∀ {X : Cx} {C : Txs} {G : GE} {n : Nat} {Γ : Gm} {as : List Expr} {cs : Es}, Sta X C G n T → Fit Γ X → as.all notStar = true → trs T f Γ as = some cs → OkA X C G as cs
  b : ∀ {X : Cx} {C : Txs} {G : GE} {n : Nat} {Γ : Gm} {op : PySem.BoolOp} {as : List Expr} {c : E} {p : Pos}, Sta X C G n T → Fit Γ X → trB T f Γ op as = some c → PE X (.BoolOp op as p) (SimE C (evalE G c)) ∧ PW X (.BoolOp op as p) (SimT C (evalE G c))
  o : ∀ {X : Cx} {C : Txs} {G : GE} {n : Nat} {Γ : Gm} {a : Option Expr} {c : Bool × E}, Sta X C G n T → Fit Γ X → trO T f Γ a = some c → OkO X C G a c.1 c.2
  d : ∀ {X : Cx} {C : Txs} {G : GE} {n : Nat} {Γ : Gm} {ks : List (Option Expr)} {vs : List Expr} {cs : List (E × E)} {p : Pos}, Sta X C G n T → Fit Γ X → trD T f Γ ks vs = some cs →
    PPs X p ks vs (cs.map fun q => (SimE C (evalE G q.1), SimE C (evalE G q.2))) ∧ ks.all (·.isSome) = true
  i : ∀ {X : Cx} {C : Txs} {G : GE} {n : Nat} {Γ : Gm} {tg a : Expr} {c : E}, Sta X C G n T → Fit Γ X → trI T f Γ a = some c → PI X tg a (iSim C (evalE G c)) ∧ notSet a = true
  f : ∀ {X : Cx} {C : Txs} {G : GE} {n : Nat} {Γ : Gm} {as : List Expr} {c : E}, Sta X C G n T → Fit Γ X → trF T f Γ as = some c → PTs X as (SimT C (evalE G c))
section
variable {X : Cx} {C : Txs} {G : GE} {n : Nat} {T : Tb} {Γ : Gm} {f : Nat}
theorem all_zero : All T 0 :=
  ⟨fun _ _ h => by simp [tr] at h, fun _ _ _ h => by simp [trs] at h, fun _ _ h => by simp [trB] at h, fun _ _ h => by simp [trO] at h, fun _ _ h => by simp [trD] at h, fun _ _ h => by simp [trI] at h, fun _ _ h => by simp [trF] at h⟩
theorem step_s (A : All T f) {as : List Expr} {cs : Es} (S : Sta X C G n T) (F : Fit Γ X) (hs : as.all notStar = true) (h : trs T (f + 1) Γ as = some cs) : OkA X C G as cs := by
  cases as with
  | nil => simp only [trs] at h; cases h; exact oka_nil
  | cons a as =>
    simp only [trs] at h
    rw [List.all_cons] at hs
    obtain ⟨x, h1, h2⟩ := Option.bind_eq_some_iff.mp h
    obtain ⟨y, h3, h4⟩ := Option.map_eq_some_iff.mp h2
    subst h4
    exact oka_cons (A.e S F h1) (A.s S F (band hs).2 h3) (band hs).1
theorem step_b (A : All T f) {op : PySem.BoolOp} {as : List Expr} {c : E} {p : Pos} (S : Sta X C G n T) (F : Fit Γ X) (h : trB T (f + 1) Γ op as = some c) : PE X (.BoolOp op as p) (SimE C (evalE G c)) ∧ PW X (.BoolOp op as p) (SimT C (evalE G c)) := by
  match as, h with
  | [], h => simp [trB] at h
  | [a], h =>
    simp only [trB] at h
    obtain ⟨h1, h2⟩ := gd_some h
    have q := A.e S F h2
    cases op with
    | And => exact ⟨pe_one q.1, pw_and1 (q.2 h1)⟩
    | Or => exact ⟨pe_one q.1, pw_or1 (q.2 h1)⟩
  | a :: b :: es, h =>
    simp only [trB] at h
    obtain ⟨h1, h2⟩ := gd_some h
    obtain ⟨x, h3, h4⟩ := Option.bind_eq_some_iff.mp h2
    obtain ⟨y, h5, h6⟩ := Option.map_eq_some_iff.mp h4
    have q := A.e S F h3
    have r := A.b (p := p) S F h5
    cases op with
    | And =>
      subst h6
      have e : (fun env s => (evalE G x env s).bind fun z s1 => boolK z s1 (fun s => evalE G y env s) (fun s => .ok (.bl false) s)) = evalE G (.and x y) := by
        funext env s
        simp only [evalE]
      show PE X (.BoolOp .And (a :: b :: es) p) (SimE C (evalE G (.and x y))) ∧ PW X (.BoolOp .And (a :: b :: es) p) (SimT C (evalE G (.and x y)))
      rw [← e]
      exact ⟨pe_and' q.1 r.1, pw_and' (q.2 h1) r.2⟩
    | Or =>
      subst h6
      have e : (fun env s => (evalE G x env s).bind fun z s1 => boolK z s1 (fun s => .ok (.bl true) s) (fun s => evalE G y env s)) = evalE G (.or x y) := by
        funext env s
        simp only [evalE]
      show PE X (.BoolOp .Or (a :: b :: es) p) (SimE C (evalE G (.or x y))) ∧ PW X (.BoolOp .Or (a :: b :: es) p) (SimT C (evalE G (.or x y)))
      rw [← e]
      exact ⟨pe_or' q.1 r.1, pw_or' (q.2 h1) r.2⟩
theorem step_o (A : All T f) {a : Option Expr} {c : Bool × E} (S : Sta X C G n T) (F : Fit Γ X) (h : trO T (f + 1) Γ a = some c) : OkO X C G a c.1 c.2 := by
  cases a with
  | none => simp only [trO] at h; cases h; exact oko_none
  | some a =>
    simp only [trO] at h
    obtain ⟨x, h1, h2⟩ := Option.map_eq_some_iff.mp h
    subst h2
    exact oko_some (A.e S F h1)
theorem step_d (A : All T f) {ks : List (Option Expr)} {vs : List Expr} {cs : List (E × E)} {p : Pos} (S : Sta X C G n T) (F : Fit Γ X) (h : trD T (f + 1) Γ ks vs = some cs) :
    PPs X p ks vs (cs.map fun q => (SimE C (evalE G q.1), SimE C (evalE G q.2))) ∧ ks.all (·.isSome) = true := by
  match ks, vs, h with
  | [], [], h => simp only [trD] at h; cases h; exact ⟨pps_nil, rfl⟩
  | some k :: ks, v :: vs, h =>
    simp only [trD] at h
    obtain ⟨x, h1, h2⟩ := Option.bind_eq_some_iff.mp h
    obtain ⟨y, h3, h4⟩ := Option.bind_eq_some_iff.mp h2
    obtain ⟨r, h5, h6⟩ := Option.map_eq_some_iff.mp h4
    subst h6
    have q := A.d (p := p) S F h5
    exact ⟨pps_cons (A.e S F h1).1 (A.e S F h3).1 q.1, by rw [List.all_cons, q.2] <;> rfl⟩
  | [], _ :: _, h => simp [trD] at h
  | some _ :: _, [], h => simp [trD] at h
  | none :: _, [], h => simp [trD] at h
  | none :: _, _ :: _, h => simp [trD] at h
theorem iSim_pe {tg a : Expr} {c : E} (S : Sta X C G n T) (h : OkE X C G a c) : PI X tg a (iSim C (evalE G c)) := pi_sim S.K h.1
theorem step_i (A : All T f) {tg a : Expr} {c : E} (S : Sta X C G n T) (F : Fit Γ X) (h : trI T (f + 1) Γ a = some c) : PI X tg a (iSim C (evalE G c)) ∧ notSet a = true := by
  simp only [trI] at h
  obtain ⟨h1, h2⟩ := gd_some h
  refine ⟨?_, h1⟩
  split at h2
  · rename_i x p a' p'
    split at h2
    · rename_i ex
      subst ex
      obtain ⟨h3, h4⟩ := gd_some h2
      obtain ⟨y, h5, h6⟩ := Option.map_eq_some_iff.mp h4
      subst h6
      have e : (fun env s => (evalE G y env s).bind fun x s1 => rngV x s1) = evalE G (.rng y) := by
        funext env s
        simp only [evalE]
      rw [← e]
      exact pi_rng (gl_ok F (band h3).1) (mg_blt S rng_mem) (A.e S F h5).1 (band h3).2
    · exact iSim_pe S (A.e S F h2)
  · rename_i x p a' b' c' p'
    split at h2
    · rename_i ex
      subst ex
      obtain ⟨h3, h4⟩ := gd_some h2
      obtain ⟨g1, g2⟩ := band h3
      obtain ⟨g3, g4⟩ := band g2
      obtain ⟨y, h5, h6⟩ := Option.bind_eq_some_iff.mp h4
      obtain ⟨z, h7, h8⟩ := Option.bind_eq_some_iff.mp h6
      obtain ⟨u, h9, h10⟩ := Option.map_eq_some_iff.mp h8
      subst h10
      have e : (fun env s => (evalE G y env s).bind fun x s1 => (evalE G z env s1).bind fun y s2 => (evalE G u env s2).bind fun z s3 => rng3V x y z s3) = evalE G (.rng3 y z u) := by
        funext env s
        simp only [evalE]
      rw [← e]
      exact pi_rng3' (gl_ok F g1) (mg_blt S rng_mem) (A.e S F h5).1 (A.e S F h7).1 (A.e S F h9).1 g3 (band g4).1 (band g4).2
    · exact iSim_pe S (A.e S F h2)
  · exact iSim_pe S (A.e S F h2)
theorem step_f (A : All T f) {as : List Expr} {c : E} (S : Sta X C G n T) (F : Fit Γ X) (h : trF T (f + 1) Γ as = some c) : PTs X as (SimT C (evalE G c)) := by
  match as, h with
  | [], h => simp only [trF] at h; cases h; exact pts_cst
  | [a], h =>
    simp only [trF] at h
    obtain ⟨h1, h2⟩ := gd_some h
    exact pts_one ((A.e S F h2).2 h1)
  | _ :: _ :: _, h => simp [trF] at h
theorem step_e (A : All T f) {a : Expr} {c : E} (S : Sta X C G n T) (F : Fit Γ X) (h : tr T (f + 1) Γ a = some c) : OkE X C G a c := by
  cases a with
  | Name x p => exact ok_name S F h
  | Constant c k p => exact ok_const S h
  | BinOp a op b p =>
    simp only [tr] at h
    obtain ⟨o, h1, h2⟩ := Option.bind_eq_some_iff.mp h
    obtain ⟨x, h3, h4⟩ := Option.bind_eq_some_iff.mp h2
    obtain ⟨y, h5, h6⟩ := Option.map_eq_some_iff.mp h4
    subst h6
    exact ok_bin S h1 (A.e S F h3) (A.e S F h5)
  | UnaryOp op a p =>
    simp only [tr] at h
    cases op with
    | Not =>
      obtain ⟨h1, h2⟩ := gd_some h
      obtain ⟨x, h3, h4⟩ := Option.map_eq_some_iff.mp h2
      subst h4
      exact ok_not h1 (A.e S F h3)
    | USub =>
      simp only at h
      split at h
      · cases h; exact ok_neg
      · cases h
    | _ => cases h
  | BoolOp op vs p =>
    simp only [tr] at h
    have q := A.b (p := p) S F h
    exact ⟨q.1, fun _ => q.2.pt⟩
  | IfExp c a b p =>
    simp only [tr] at h
    obtain ⟨h0, h⟩ := gd_some h
    obtain ⟨x, h1, h2⟩ := Option.bind_eq_some_iff.mp h
    obtain ⟨y, h3, h4⟩ := Option.bind_eq_some_iff.mp h2
    obtain ⟨z, h5, h6⟩ := Option.map_eq_some_iff.mp h4
    subst h6
    exact ok_ite h0 (A.e S F h1) (A.e S F h3) (A.e S F h5)
  | Compare a ops cs p =>
    simp only [tr] at h
    split at h
    · obtain ⟨h0, h⟩ := gd_some h
      obtain ⟨x, h1, h2⟩ := Option.bind_eq_some_iff.mp h
      obtain ⟨y, h3, h4⟩ := Option.map_eq_some_iff.mp h2
      subst h4
      exact ok_cmp S h0 (A.e S F h1) (A.e S F h3)
    · obtain ⟨h0, h⟩ := gd_some h
      obtain ⟨x, h1, h2⟩ := Option.bind_eq_some_iff.mp h
      obtain ⟨y, h3, h4⟩ := Option.bind_eq_some_iff.mp h2
      obtain ⟨z, h5, h6⟩ := Option.map_eq_some_iff.mp h4
      subst h6
      exact ok_chain S h0 (A.e S F h1) (A.e S F h3) (A.e S F h5)
    · cases h
  | Call fe args kws p =>
    simp only [tr] at h
    split at h
    · rename_i x px
      obtain ⟨h0, hh⟩ := gd_some h
      clear h
      obtain ⟨g1, g2⟩ := band h0
      obtain ⟨g3, g4⟩ := band g2
      obtain ⟨g5, g6⟩ := band g4
      have ne : args ≠ [] := fun e => by subst e; cases g6
      split at hh
      · rename_i ex
        subst ex
        split at hh
        · rename_i a t pt
          obtain ⟨i, h1, h2⟩ := Option.bind_eq_some_iff.mp hh
          obtain ⟨h3, h4⟩ := gd_some h2
          obtain ⟨y, h5, h6⟩ := Option.map_eq_some_iff.mp h4
          subst h6
          exact ok_isi S F g1 (band (show (notStar a && [Expr.Name t pt].all notStar) = true from g5)).1 h1 h3 (A.e S F h5)
        · rename_i a t pt u pu k2 p2
          obtain ⟨i, h1, h2⟩ := Option.bind_eq_some_iff.mp hh
          obtain ⟨j, h1', h2'⟩ := Option.bind_eq_some_iff.mp h2
          obtain ⟨h3, h4⟩ := gd_some h2'
          obtain ⟨y, h5, h6⟩ := Option.map_eq_some_iff.mp h4
          subst h6
          exact ok_isi2 S F g1 (band (show (notStar a && _) = true from g5)).1 h1 (band h3).1 h1' (band h3).2 (A.e S F h5)
        · cases hh
      split at hh
      · rename_i _ ex
        subst ex
        split at hh
        · rename_i t pt a p2
          split at hh
          · rename_i et
            subst et
            obtain ⟨h3, h4⟩ := gd_some hh
            obtain ⟨y, h5, h6⟩ := Option.map_eq_some_iff.mp h4
            subst h6
            exact ok_sset S F g1 (band h3).1 (band h3).2 (A.e S F h5)
          · cases hh
        · rename_i elt gens sc q
          obtain ⟨y, h5, h6⟩ := Option.map_eq_some_iff.mp hh
          subst h6
          exact ok_srt S F g1 rfl (A.e S F h5)
        · cases hh
      · split at hh
        · rename_i a ha
          obtain ⟨rfl, p3, pos3, rfl⟩ := rngA_ok ha
          obtain ⟨h3, h4⟩ := gd_some hh
          obtain ⟨y, h5, h6⟩ := Option.map_eq_some_iff.mp h4
          subst h6
          exact ok_lrng S F g1 (band h3).1 (band h3).2 (A.e S F h5)
        split at hh
        · rename_i o ho
          obtain ⟨as, h1, h2⟩ := Option.map_eq_some_iff.mp hh
          subst h2
          exact ok_blt S F g1 g3 g5 ne ho (A.s S F g5 h1)
        · split at hh
          · rename_i i hi
            obtain ⟨as, h1, h2⟩ := Option.map_eq_some_iff.mp hh
            subst h2
            exact ok_call S F g1 g3 g5 ne hi (A.s S F g5 h1)
          · split at hh
            · rename_i i hi
              obtain ⟨as, h1, h2⟩ := Option.map_eq_some_iff.mp hh
              subst h2
              exact ok_mk S F g1 g3 g5 ne hi (A.s S F g5 h1)
            · cases hh
    · rename_i o m apos
      obtain ⟨h0, h⟩ := gd_some h
      obtain ⟨g1, g2⟩ := band h0
      obtain ⟨g3, g4⟩ := band g2
      obtain ⟨g5, g6⟩ := band g4
      obtain ⟨ce, h1, h2⟩ := Option.bind_eq_some_iff.mp h
      obtain ⟨as, h3, h4⟩ := Option.bind_eq_some_iff.mp h2
      split at h4
      · rename_i op hop
        cases h4
        exact ok_bmt S (A.e S F h1) (A.s S F g3 h3) hop g1 g3 (of_decide_eq_true g5) g6
      · obtain ⟨k, h5, h6⟩ := Option.map_eq_some_iff.mp h4
        subst h6
        exact ok_mth S (A.e S F h1) (A.s S F g3 h3) h5 g1 g3 (of_decide_eq_true g5) g6
    · cases h
  | Attribute a x p =>
    simp only [tr] at h
    obtain ⟨h0, h⟩ := gd_some h
    obtain ⟨ce, h1, h2⟩ := Option.bind_eq_some_iff.mp h
    obtain ⟨k, h3, h4⟩ := Option.map_eq_some_iff.mp h2
    split at h4
    · subst h4
      exact ok_frzE (ok_fld S (A.e S F h1) h3 h0) rfl
    · subst h4
      exact ok_fld S (A.e S F h1) h3 h0
  | Subscript a b p =>
    simp only [tr] at h
    split at h
    · obtain ⟨ca, h1, h2⟩ := Option.bind_eq_some_iff.mp h
      obtain ⟨l, h3, h4⟩ := Option.bind_eq_some_iff.mp h2
      obtain ⟨u, h5, h6⟩ := Option.map_eq_some_iff.mp h4
      subst h6
      exact ok_slc S (A.e S F h1) (A.o S F h3) (A.o S F h5)
    · obtain ⟨h0, h⟩ := gd_some h
      obtain ⟨x, h1, h2⟩ := Option.bind_eq_some_iff.mp h
      obtain ⟨y, h3, h4⟩ := Option.map_eq_some_iff.mp h2
      subst h4
      exact ok_idx S (A.e S F h1) (A.e S F h3) h0
  | Tuple es k p =>
    simp only [tr] at h
    obtain ⟨h0, h⟩ := gd_some h
    obtain ⟨as, h1, h2⟩ := Option.map_eq_some_iff.mp h
    cases hw : wordB es with
    | true =>
      rw [hw] at h2
      subst h2
      exact ok_tupW S (A.s S F (band h0).2 h1) (of_decide_eq_true (band h0).1)
    | false =>
      rw [hw] at h2
      subst h2
      exact ok_tup (A.s S F (band h0).2 h1) (of_decide_eq_true (band h0).1)
  | List es p =>
    simp only [tr] at h
    obtain ⟨h0, h⟩ := gd_some h
    obtain ⟨as, h1, h2⟩ := Option.map_eq_some_iff.mp h
    subst h2
    exact ok_lst (A.s S F (band h0).2 h1) (of_decide_eq_true (band h0).1)
  | Dict ks vs p =>
    simp only [tr] at h
    obtain ⟨h0, h⟩ := gd_some h
    obtain ⟨g1, g2⟩ := band h0
    obtain ⟨g3, g4⟩ := band g2
    obtain ⟨cs, h1, h2⟩ := Option.map_eq_some_iff.mp h
    subst h2
    have q := A.d (p := p) S F h1
    exact .plain (pe_dct' S.tgG S.nd q.1 q.2 (of_decide_eq_true g1) (fun e => by subst e; cases g3) (of_decide_eq_true g4)) rfl
  | ListComp elt gens scope p =>
    simp only [tr] at h
    split at h
    · obtain ⟨t, h1, h2⟩ := Option.bind_eq_some_iff.mp h
      obtain ⟨h3, h4⟩ := gd_some h2
      obtain ⟨ci, h5, h6⟩ := Option.bind_eq_some_iff.mp h4
      obtain ⟨c', h7, h8⟩ := Option.bind_eq_some_iff.mp h6
      obtain ⟨ce, h9, h10⟩ := Option.map_eq_some_iff.mp h8
      subst h10
      have hi := fun tg => A.i (tg := tg) S F h5
      exact ok_comp S F h1 (band h3).1 (band h3).2 (hi _).1 (hi elt).2 (fun s H Ca cl fp => A.f (S.blk s H scope _ fp) (F.blk s H scope Ca cl fp) h7) (fun s H Ca cl fp => (A.e (S.blk s H scope _ fp) (F.blk s H scope Ca cl fp) h9).1)
    · cases h
  | _ => simp [tr] at h
theorem all_ok (T : Tb) : ∀ f, All T f
  | 0 => all_zero
  | f + 1 => have A := all_ok T f; ⟨step_e A, step_s A, step_b A, step_o A, step_d A, step_i A, step_f A⟩
end
end PI

/-! PQ: the translation of statements. -/
namespace PI
open PySem PySem.Spec PyProof.Rows L2
def trTg (T : Tb) (f : Nat) (Γ : Gm) : Expr → Option Tg
  | .Name x _ => (slotT Γ x).map .name
  | .Attribute o x _ => (tr T f Γ o).bind fun c => (ixOf T.fl x).map fun k => .fld c k
  | .Subscript o i _ => gd (notSlice i) ((tr T f Γ o).bind fun c => (tr T f Γ i).map fun d => .sub c d)
  | _ => none
def trTgs (T : Tb) (f : Nat) (Γ : Gm) : List Expr → Option (List Tg)
  | [] => some []
  | e :: es => gd (notStar e) ((trTg T f Γ e).bind fun t => (trTgs T f Γ es).map fun ts => t :: ts)
def isNm : Expr → Bool
  | .Name _ _ => true
  | _ => false
/-- y = [..] through the comprehension's own store -/
def swB (Γ : Gm) : Expr → Expr → Bool
  | .Name y py, .ListComp _ _ scope pos => Γ.sc.kind == .function && (Γ.sc.names.lookup y == some .local && (py.line == pos.line && !(scope.names.any fun (n, k) => n == y && (k == .local || k == .cell))))
  | _, _ => false
/-- a name that inner blocks see: the comprehension does not store it itself -/
def celB (Γ : Gm) : Expr → Bool
  | .Name y _ => Γ.sc.names.lookup y == some .cell
  | _ => false
def trA (T : Tb) (f : Nat) (Γ : Gm) (tg e : Expr) : Option S := match tg with
  | .Tuple es _ _ => gd (notTup e && notComp e) ((trTgs T f Γ es).bind fun ts => (tr T f Γ e).map fun c => .asgT ts c)
  | tg => gd (notStar tg && (plainTg tg && (notComp e || (!isNm tg || (celB Γ tg || swB Γ tg e))))) ((trTg T f Γ tg).bind fun t => (tr T f Γ e).map fun c => .asg t c)
mutual
def trS (T : Tb) : Nat → Gm → Stmt → S
  | 0, _, _ => .never
  | n + 1, Γ, .Assign [tg] e _ => (trA T n Γ tg e).getD .never
  | n + 1, Γ, .Expr e _ => (gd (notComp e) ((tr T n Γ e).map .ex)).getD .never
  | n + 1, Γ, .Return (some e) _ => ((tr T n Γ e).map .ret).getD .never
  | n + 1, Γ, .Return none _ => .retN
  | n + 1, Γ, .Pass _ => .pass
  | n + 1, Γ, .If c a b _ => (gd (notIf c) ((tr T n Γ c).map fun x => .ite x (trSs T n Γ a) (trSs T n Γ b))).getD .never
  | n + 1, Γ, .While c a [] _ => (gd (notIf c) ((tr T n Γ c).map fun x => .whl x (trSs T n Γ a))).getD .never
  | n + 1, Γ, .For tg it a [] _ => ((trCT Γ tg).bind fun t => (trI T n Γ it).map fun x => .for_ t x (trSs T n Γ a)).getD .never
  | _ + 1, _, _ => .never
def trSs (T : Tb) : Nat → Gm → List Stmt → Ss
  | 0, _, _ => .cons .never .nil
  | n + 1, _, [] => .nil
  | n + 1, Γ, a :: as => .cons (trS T n Γ a) (trSs T n Γ as)
end
section
variable {X : Cx} {C : Txs} {G : GE} {n : Nat} {T : Tb} {Γ : Gm} {f : Nat}
abbrev OkS (X : Cx) (C : Txs) (G : GE) (s : Stmt) (c : S) : Prop := PS X s (SimSt C (evalS G c))
abbrev OkSs (X : Cx) (C : Txs) (G : GE) (s : List Stmt) (c : Ss) : Prop := PSs X s (SimSt C (evalSs G c))
theorem PS.cast {X : Cx} {C : Txs} {s : Stmt} {m m' : Env → Store → R F} (h : m = m') (q : PS X s (SimSt C m)) : PS X s (SimSt C m') := h ▸ q
theorem PSs.cast {X : Cx} {C : Txs} {s : List Stmt} {m m' : Env → Store → R F} (h : m = m') (q : PSs X s (SimSt C m)) : PSs X s (SimSt C m') := h ▸ q
theorem oks_never {s : Stmt} : OkS X C G s .never := PS.cast (by funext env s; simp only [evalS]) ps_never'
theorem trTg_ok (S : Sta X C G n T) (F : Fit Γ X) {e : Expr} {t : Tg} (h : trTg T f Γ e = some t) : PG X e (SimTg C (storeT G t)) := by
  have A := all_ok T f
  cases e with
  | Name x p =>
    simp only [trTg] at h
    obtain ⟨i, h1, h2⟩ := Option.map_eq_some_iff.mp h
    subst h2
    obtain ⟨r1, r2, r3⟩ := slotT_ok F h1
    exact pg_name' (by rw [F.N]; exact F.nd) r1 r2 r3
  | Attribute o x p =>
    simp only [trTg] at h
    obtain ⟨c, h1, h2⟩ := Option.bind_eq_some_iff.mp h
    obtain ⟨k, h3, h4⟩ := Option.map_eq_some_iff.mp h2
    subst h4
    have hf := ixOf_ok h3
    rw [← S.flC] at hf
    exact pg_fld' S.K S.cl hf (A.e S F h1).1
  | Subscript o i p =>
    simp only [trTg] at h
    obtain ⟨h0, hh⟩ := gd_some h
    obtain ⟨c, h1, h2⟩ := Option.bind_eq_some_iff.mp hh
    obtain ⟨k, h3, h4⟩ := Option.map_eq_some_iff.mp h2
    subst h4
    exact pg_sub' S.tgG S.nd (by have := S.room.un; omega) (A.e S F h1).1 (A.e S F h3).1 h0
  | _ => simp [trTg] at h
theorem trTgs_ok (S : Sta X C G n T) (F : Fit Γ X) : ∀ {es : List Expr} {ts : List Tg}, trTgs T f Γ es = some ts → PGs X es (SimTgs C (storeTs G ts)) ∧ es.length = ts.length ∧ es.all notStar = true
  | [], ts, h => by cases h; exact ⟨pgs_nil', rfl, rfl⟩
  | e :: es, ts, h => by
    unfold trTgs at h
    obtain ⟨h0, hh⟩ := gd_some h
    obtain ⟨t, h1, h2⟩ := Option.bind_eq_some_iff.mp hh
    obtain ⟨us, h3, h4⟩ := Option.map_eq_some_iff.mp h2
    subst h4
    obtain ⟨q1, q2, q3⟩ := trTgs_ok S F h3
    exact ⟨pgs_cons' (trTg_ok S F h1) q1 h0, by simp [q2], by rw [List.all_cons, h0, q3] <;> rfl⟩
theorem swaps_pl {tg e : Expr} (h1 : plainTg tg = true) (h2 : notComp e = true ∨ isNm tg = false) (l : Nat) (env : PySem.Env) : swapsWith e (some tg) l env = pure false := by
  rcases h2 with h2 | h2
  · exact swaps_of h2 _ _ _
  · cases tg <;> first | (cases e <;> rfl) | cases h2 | cases h1
theorem swaps_cel (F : Fit Γ X) {tg e : Expr} (h : celB Γ tg = true) (l : Nat) : swapsWith e (some tg) l X.env = pure false := by
  cases tg with
  | Name y p =>
    have hk : X.env.kindOf y = some .cell := by
      show X.env.scope.names.lookup y = _
      rw [F.sc]
      exact eq_of_beq h
    have hb : (X.env.kindOf y == some .local) = false := by rw [hk]; rfl
    unfold swapsWith
    cases e <;> first | rfl | simp only [hb, Bool.and_false, Bool.false_and] | (simp only [hb, Bool.and_false, Bool.false_and]; rfl)
  | _ => cases h
theorem trA_zero {e : Expr} {tg : Expr} : trA T 0 Γ tg e = none := by
  unfold trA
  split
  · rename_i es k p
    cases (notTup e && notComp e) with
    | false => rfl
    | true =>
      simp only [gd, tr]
      cases trTgs T 0 Γ es <;> rfl
  · rename_i h
    cases (notStar tg && (plainTg tg && (notComp e || (!isNm tg || (celB Γ tg || swB Γ tg e))))) with
    | false => rfl
    | true =>
      simp only [gd, tr]
      cases trTg T 0 Γ tg <;> rfl
theorem trA_ok (S : Sta X C G n T) (F : Fit Γ X) {tg e : Expr} {p : Pos} {c : PI.S} (h : trA T (f + 1) Γ tg e = some c) : OkS X C G (.Assign [tg] e p) c := by
  have A := all_ok T (f + 1)
  unfold trA at h
  split at h
  · rename_i es k p2
    obtain ⟨h0, hh⟩ := gd_some h
    obtain ⟨ts, h1, h2⟩ := Option.bind_eq_some_iff.mp hh
    obtain ⟨x, h3, h4⟩ := Option.map_eq_some_iff.mp h2
    subst h4
    obtain ⟨q1, q2, q3⟩ := trTgs_ok S F h1
    obtain ⟨g1, g2⟩ := band h0
    exact PS.cast (by funext env s; simp only [evalS] <;> rfl) (ps_asgT' S.K S.calm (A.e S F h3).1 q1 q2 q3 (swaps_of g2 _ _ _) (stores_of (.inl g1) _))
  · obtain ⟨h0, hh⟩ := gd_some h
    clear h
    obtain ⟨t, h1, h2⟩ := Option.bind_eq_some_iff.mp hh
    obtain ⟨x, h3, h4⟩ := Option.map_eq_some_iff.mp h2
    subst h4
    obtain ⟨g1, g2⟩ := band h0
    obtain ⟨g3, g4⟩ := band g2
    have pl : (notComp e = true ∨ isNm tg = false) → OkS X C G (.Assign [tg] e p) (.asg t x) := fun q =>
      PS.cast (by funext env s; simp only [evalS]) (ps_asg' g1 (A.e S F h3).1 (trTg_ok S F h1) (swaps_pl g3 q _ _) (stores_of (.inr g3) _))
    by_cases hcl : celB Γ tg = true
    · exact PS.cast (by funext env s; simp only [evalS]) (ps_asg' g1 (A.e S F h3).1 (trTg_ok S F h1) (swaps_cel F hcl _) (stores_of (.inr g3) _))
    have hcl : celB Γ tg = false := by simpa using hcl
    by_cases hq : notComp e = true ∨ isNm tg = false
    · exact pl hq
    · have q1 : ¬ notComp e = true := fun q => hq (.inl q)
      have q2 : ¬ isNm tg = false := fun q => hq (.inr q)
      have hb : swB Γ tg e = true := by
        cases e1 : notComp e with
        | true => exact absurd e1 q1
        | false => cases e2 : isNm tg with
          | false => exact absurd e2 q2
          | true => rw [e1, e2, hcl] at g4; simpa using g4
      clear hcl
      unfold swB at hb
      split at hb
      · rename_i y py elt gens scope cp _
        obtain ⟨b1, hb⟩ := band hb
        obtain ⟨b2, hb⟩ := band hb
        obtain ⟨b3, b4⟩ := band hb
        have b4 : (scope.names.any fun (n, k) => n == y && (k == .local || k == .cell)) = false := by
          revert b4
          cases (scope.names.any fun (n, k) => n == y && (k == .local || k == .cell)) with
          | true => intro b; cases b
          | false => intro _; rfl
        simp only [trTg] at h1
        obtain ⟨i, i1, i2⟩ := Option.map_eq_some_iff.mp h1
        subst i2
        obtain ⟨r1, r2, r3⟩ := slotT_ok F i1
        have kf : X.env.scope.kind = .function := by rw [F.sc]; exact eq_of_beq b1
        have kl : X.env.scope.names.lookup y = some .local := by rw [F.sc]; exact eq_of_beq b2
        simp only [tr] at h3
        split at h3
        · rename_i tg it ifs
          have A := all_ok T f
          obtain ⟨t, k1, k2⟩ := Option.bind_eq_some_iff.mp h3
          obtain ⟨k3, k4⟩ := gd_some k2
          obtain ⟨ci, k5, k6⟩ := Option.bind_eq_some_iff.mp k4
          obtain ⟨c', k7, k8⟩ := Option.bind_eq_some_iff.mp k6
          obtain ⟨ce, k9, k10⟩ := Option.map_eq_some_iff.mp k8
          subst k10
          have hi := A.i (tg := tg) S F k5
          have ok : BlkOk X.N X.env.scope scope (ownOf Γ.N scope.names) := by
            rw [F.N, F.sc]
            exact blkOk_by (band k3).1
          refine PS.cast ?_ (ps_comp' (k := T.cl.contains cp) (own := ownOf Γ.N scope.names) (ct := c') (ce := ce) (G := G) S.calm (by rw [F.N]; exact F.nd) r1 kl (sw_true kf kl b3 b4) hi.1 ok
            (fun s H Ca cl fp => trCT_ok (S.blk s H scope _ fp) (F.blk s H scope Ca cl fp) k1)
            (fun s H Ca cl fp => A.f (S.blk s H scope _ fp) (F.blk s H scope Ca cl fp) k7) (fun s H Ca cl fp => (A.e (S.blk s H scope _ fp) (F.blk s H scope Ca cl fp) k9).1) (fun i h => by
              have := List.all_eq_true.mp (band k3).2 i h
              simpa using this) hi.2)
          funext env s
          simp only [evalS, evalE] <;> rfl
        · cases h3
      · cases hb
structure AllS (T : Tb) (f : Nat) : Prop where
  s : ∀ {X : Cx} {C : Txs} {G : GE} {n : Nat} {Γ : Gm} {a : Stmt}, Sta X C G n T → Fit Γ X → PassesOwn (model X.prog X.w) X.A X.env X.xe → OkS X C G a (trS T f Γ a)
  ss : ∀ {X : Cx} {C : Txs} {G : GE} {n : Nat} {Γ : Gm} {as : List Stmt}, Sta X C G n T → Fit Γ X → PassesOwn (model X.prog X.w) X.A X.env X.xe → OkSs X C G as (trSs T f Γ as)
theorem getD_ok {st : Stmt} {o : Option PI.S} (h : ∀ c, o = some c → OkS X C G st c) : OkS X C G st (o.getD .never) := by
  cases o with
  | none => exact oks_never
  | some c => exact h c rfl
theorem step_S (A : AllS T f) {a : Stmt} (S : Sta X C G n T) (F : Fit Γ X) (hp : PassesOwn (model X.prog X.w) X.A X.env X.xe) : OkS X C G a (trS T (f + 1) Γ a) := by
  have B := all_ok T f
  unfold trS
  split
  · contradiction
  · rename_i hq
    cases hq
    refine getD_ok fun c h => ?_
    cases f with
    | zero => rw [trA_zero] at h; cases h
    | succ f => exact trA_ok S F h
  · rename_i hq
    cases hq
    refine getD_ok fun c h => ?_
    obtain ⟨h0, hh⟩ := gd_some h
    obtain ⟨x, h1, h2⟩ := Option.map_eq_some_iff.mp hh
    subst h2
    exact PS.cast (by funext env s; simp only [evalS]) (ps_ex' (B.e S F h1).1 h0)
  · rename_i hq
    cases hq
    refine getD_ok fun c h => ?_
    obtain ⟨x, h1, h2⟩ := Option.map_eq_some_iff.mp h
    subst h2
    exact PS.cast (by funext env s; simp only [evalS]) (ps_ret' (B.e S F h1).1)
  · exact PS.cast (by funext env s; simp only [evalS]) ps_retN'
  · exact PS.cast (by funext env s; simp only [evalS]) ps_pass'
  · rename_i hq
    cases hq
    refine getD_ok fun c h => ?_
    obtain ⟨h0, hh⟩ := gd_some h
    obtain ⟨x, h1, h2⟩ := Option.map_eq_some_iff.mp hh
    subst h2
    exact PS.cast (by funext env s; simp only [evalS]) (ps_if' ((B.e S F h1).2 h0) (A.ss S F hp) (A.ss S F hp))
  · rename_i hq
    cases hq
    refine getD_ok fun c h => ?_
    obtain ⟨h0, hh⟩ := gd_some h
    obtain ⟨x, h1, h2⟩ := Option.map_eq_some_iff.mp hh
    subst h2
    exact PS.cast (by funext env s; simp only [evalS]) (ps_whl' (n := G.W) hp ((B.e S F h1).2 h0) (A.ss S F hp))
  · rename_i hq
    cases hq
    refine getD_ok fun c h => ?_
    obtain ⟨t, h1, h2⟩ := Option.bind_eq_some_iff.mp h
    obtain ⟨x, h3, h4⟩ := Option.map_eq_some_iff.mp h2
    subst h4
    have hi := fun tg => B.i (tg := tg) S F h3
    refine PS.cast ?_ (ps_for' (W := G.W) hp S.calm (B.i S F h3).1 (trCT_ok S F h1) (A.ss S F hp) (B.i (tg := .Name "x" ⟨0, 0, 0, 0⟩) S F h3).2)
    funext env s
    simp only [evalS] <;> rfl
  · exact oks_never
theorem step_Ss (A : AllS T f) {as : List Stmt} (S : Sta X C G n T) (F : Fit Γ X) (hp : PassesOwn (model X.prog X.w) X.A X.env X.xe) : OkSs X C G as (trSs T (f + 1) Γ as) := by
  cases as with
  | nil =>
    unfold trSs
    exact PSs.cast (by funext env s; simp only [evalSs]) pss_nil'
  | cons a as =>
    unfold trSs
    refine PSs.cast ?_ (pss_cons' (A.s S F hp) (A.ss S F hp))
    funext env s
    simp only [evalSs] <;> rfl
theorem all_S (T : Tb) : ∀ f, AllS T f
  | 0 => ⟨fun _ _ _ => by unfold trS; exact oks_never, fun S F hp => by
      unfold trSs
      have q : ∀ {X : Cx} {C : Txs} {G : GE} (as : List Stmt), OkSs X C G as (.cons .never .nil) := fun {X C G} as => ⟨fun pins s σ H D I h => by
        obtain ⟨w, env, rfl, S, ER, P⟩ := h
        simp only [evalSs, evalS] at P
        exact P.elim⟩
      exact q _⟩
  | f + 1 => have A := all_S T f; ⟨step_S A, step_Ss A⟩
end
end PI

/-! PR: every def does what its code reckons. -/
namespace PI
open PySem PySem.Spec PyProof.Rows L2
/-- a def: its text, its slots' names, its parameters -/
structure DR where
  nm : Str
  qual : Str
  params : Arguments
  body : List Stmt
  scope : Scope
  N : List Str
  ps : List Str
/-- how deep the translation goes -/
def FU : Nat := 40
def codeR (T : Tb) (r : DR) : Fn := ⟨trSs T FU ⟨r.N, r.scope, fun _ => true⟩ r.body, r.N.length, r.ps.length⟩
structure Hyp (P : Program) (w : World) (K : PySem.W.Frag) (mg : Str → Option Value) (C : Txs) (T : Tb) (tb : Tab) (rs : Nat → Option DR) (fa : Nat → Addr) : Prop where
  hK : C.K = K
  hw : C.wd = w
  tgC : C.tg = T.tg
  flC : C.fl = T.fl
  tgG : tb.tg = C.tg
  nd : C.tg.Nodup
  cl : ClsOk C K
  sok : ∀ x ∈ C.tg, PyData.strOk x = true
  blt : ∀ x ∈ bltNames, mg x = none
  gl : ∀ x g, T.gln.lookup x = some g → ∃ v u d, mg x = some u ∧ RelV v u ∧ tb.gl g = some d ∧ ∀ w, RV C w v d
  fd : ∀ (i : Nat) (r : DR), rs i = some r → ∃ fd, FunD K r.nm r.qual r.params r.body r.scope [] [] (fa i) fd ∧ L2.Binds K fd r.ps []
  sc : ∀ (i : Nat) (r : DR), rs i = some r → FnScope r.N r.ps r.scope
  code : ∀ i : Nat, tb.fns i = (rs i).map (codeR T)
  fn : ∀ x f, T.fnn.lookup x = some f → (∃ r, rs f = some r) ∧ mg x = some (.ref (fa f))
  mt : ∀ m k, T.mtn.lookup m = some k → (∀ c f, tb.mt c k = some f → (∃ r, rs f = some r) ∧ Meth K (C.ca c) m (fa f)) ∧ C.fl ≠ [] ∧ ∀ (i : Nat) (y : Str), C.fl[i]? = some y → y ≠ m
  mkr : ∀ x c, T.cln.lookup x = some c → ∀ f, tb.ini c = some f → (∃ r, rs f = some r) ∧ Mk K (C.ca c) (fa f) ∧ mg x = some (.ref (C.ca c))
/-- the defs keep what fn says, n deep -/
def Keeps (P : Program) (w : World) (K : PySem.W.Frag) (mg : Str → Option Value) (base : Heap) (C : Txs) (rs : Nat → Option DR) (fa : Nat → Addr) (n : Nat) (fn : Nat → List D → Store → R D) : Prop :=
  ∀ (i : Nat) (r : DR), rs i = some r → ∀ fd, FunD K r.nm r.qual r.params r.body r.scope [] [] (fa i) fd → FnOk P w K mg base CX0 n (fa i) fd r.ps (spOf C (fn i))
section
variable {P : Program} {w : World} {K : PySem.W.Frag} {mg : Str → Option Value} {base : Heap} {C : Txs} {T : Tb} {tb : Tab} {rs : Nat → Option DR} {fa : Nat → Addr}
theorem Keeps.stuck {n : Nat} : Keeps P w K mg base C rs fa n fun _ _ _ => .stuck := fun i r hr fd F => by
  have no : ∀ {vs H Q E}, ¬ spOf C (fun _ _ => .stuck) vs H Q E := fun {vs H Q E} h => by
    obtain ⟨w, ds, _, _, _, p⟩ := h
    exact p
  exact ⟨fun vs H Q E h => (no h).elim, fun A outer s H args us vs Q E _ _ _ _ h => (no h).elim⟩
theorem startR {N : List Str} {w : Wd} {vs : List V} {ds : List D} (h : RVs C w vs ds) : EnvR C w (startE N.length ds) (L2.start N vs) := by
  have hl := h.length
  refine ⟨by simp [L2.start, startE, hl], fun i d e => ?_⟩
  unfold startE at e
  rw [List.getElem?_append] at e
  split at e
  · rename_i hi
    have hi' : i < ds.length := by simpa using hi
    rw [List.getElem?_map] at e
    obtain ⟨d', e1, e2⟩ := Option.map_eq_some_iff.mp e
    cases e2
    obtain ⟨v, e3, r⟩ := h.get e1
    refine ⟨v, ?_, r⟩
    unfold L2.start
    rw [List.getElem?_append_left (by simp; omega), List.getElem?_map, e3] <;> rfl
  · rw [List.getElem?_replicate] at e
    split at e <;> cases e
theorem body_ok (Hy : Hyp P w K mg C T tb rs fa) {W n : Nat} {fn mk : Nat → List D → Store → PI.R D} (hf : Keeps P w K mg base C rs fa n fn) (hm : (∀ j ds s, mk j ds s = .stuck) ∨ ∃ k, n = k + 1 ∧ Keeps P w K mg base C rs fa k mk) :
    Keeps P w K mg base C rs fa (n + 1) fun i ds s => runB (tb.ge W fn mk) (tb.fns i) ds s := by
  intro i r hr fd F
  have hc := Hy.code i
  rw [hr] at hc
  have sc := Hy.sc i r hr
  have len : ∀ vs H Q E, spOf C (fun ds s => runB (tb.ge W fn mk) (tb.fns i) ds s) vs H Q E → vs.length = r.ps.length := fun vs H Q E h => by
    obtain ⟨w, ds, rfl, S, rs, p⟩ := h
    rw [hc] at p
    simp only [Option.map_some, runB, codeR] at p
    split at p
    · rename_i hl; rw [rs.length, hl]
    · exact p.elim
  refine F.ok sc len fun cdv A outer s H vs Q E room h => ⟨SimSt C (evalSs (tb.ge W fn mk) (codeR T r).code), PSs.nox ?_, ?_⟩
  · have S : Sta (cxOf CX0 P w K mg base r.N r.qual r.scope (fa i) cdv A outer s H E).nox C (tb.ge W fn mk) n T := {
      calm := rfl, K := Hy.hK, w := Hy.hw, tgC := Hy.tgC, flC := Hy.flC, tgG := Hy.tgG, nd := Hy.nd, cl := Hy.cl, room := room, sok := Hy.sok, blt := Hy.blt
      gl := Hy.gl
      fn := fun x f h => by
        obtain ⟨⟨r', h1⟩, h2⟩ := Hy.fn x f h
        obtain ⟨fd', F', B⟩ := Hy.fd f r' h1
        exact ⟨fa f, fd', r'.ps, h2, F'.kp, hf f r' h1 fd' F', B⟩
      mt := fun m k h => by
        obtain ⟨h1, h2⟩ := Hy.mt m k h
        refine ⟨fun c f hcf => ?_, h2⟩
        obtain ⟨⟨r', h3⟩, h4⟩ := h1 c f hcf
        obtain ⟨fd', F', B⟩ := Hy.fd f r' h3
        exact ⟨fa f, fd', r'.ps, h4, hf f r' h3 fd' F', B⟩
      mkr := fun x c h => by
        cases e : tb.ini c with
        | none => exact .inl fun f hf => by rw [show (tb.ge W fn mk).ini c = tb.ini c from rfl, e] at hf; cases hf
        | some f =>
          obtain ⟨⟨r', h1⟩, h2, h3⟩ := Hy.mkr x c h f e
          rcases hm with hm | ⟨k, rfl, hm⟩
          · exact .inl fun f _ ds s => hm f ds s
          · obtain ⟨fd', F', B⟩ := Hy.fd f r' h1
            exact .inr ⟨fa f, fd', r'.ps, f, k, rfl, h2, hm f r' h1 fd' F', h3, B, e⟩ }
    have Fi : Fit ⟨r.N, r.scope, fun _ => true⟩ (cxOf CX0 P w K mg base r.N r.qual r.scope (fa i) cdv A outer s H E).nox := ⟨rfl, sc.nd, rfl, fun _ _ => rfl⟩
    exact (all_S T FU).ss S Fi PassesOwn.never
  · obtain ⟨w, ds, rfl, S, rv, p⟩ := h
    simp only [hc] at p
    simp only [Option.map_some, runB] at p
    have hl : (codeR T r).slots = r.N.length := rfl
    split at p
    · refine ⟨w, startE r.N.length ds, rfl, S, startR rv, ?_⟩
      refine p.bind.mono fun w1 f p1 S1 h1 => ?_
      cases f with
      | nx env => exact fun σ _ => h1.here S1 _ .non
      | rt d => exact h1.here S1
    · exact p.elim
theorem run_ok (Hy : Hyp P w K mg C T tb rs fa) (W : Nat) : ∀ n, Keeps P w K mg base C rs fa n (Run tb W n) ∧ Keeps P w K mg base C rs fa (n + 1) (Run tb W (n + 1))
  | 0 => by
    have h0 : Keeps P w K mg base C rs fa 0 (Run tb W 0) := by
      have e : Run tb W 0 = fun _ _ _ => .stuck := by funext a b c; simp only [Run]
      rw [e]
      exact Keeps.stuck
    refine ⟨h0, ?_⟩
    have e : Run tb W 1 = fun i ds s => runB (tb.ge W (fun _ _ _ => .stuck) (fun _ _ _ => .stuck)) (tb.fns i) ds s := by funext a b c; simp only [Run]
    rw [e]
    exact body_ok Hy Keeps.stuck (.inl fun _ _ _ => rfl)
  | n + 1 => by
    obtain ⟨h0, h1⟩ := run_ok Hy W n
    refine ⟨h1, ?_⟩
    have e : Run tb W (n + 2) = fun i ds s => runB (tb.ge W (fun f ds s => Run tb W (n + 1) f ds s) (fun f ds s => Run tb W n f ds s)) (tb.fns i) ds s := by funext a b c; simp only [Run]
    show Keeps P w K mg base C rs fa (n + 1 + 1) (Run tb W (n + 2))
    rw [e]
    exact body_ok Hy h1 (.inr ⟨n, rfl, h0⟩)
end
end PI

/-! PT: a law's data, its facts, what follows. -/
namespace PI
open PySem PySem.Spec PyProof.Rows L2
/-- a global: a number, a text, a tuple of texts, a written dict from texts to numbers -/
inductive Gd where
  | int (i : Int) | str (z : Str) | tup (xs : List Nat) | dic (kvs : List (Nat × Int))
  deriving DecidableEq
def Gd.d : Gd → D
  | .int i => .int i
  | .str z => .str z
  | .tup xs => .tup (xs.map .tag)
  | .dic kvs => .kdt (kvs.map fun p => (.tag p.1, .int p.2))
structure LD where
  tg : List Str
  fl : List Str
  rs : List (Option (DR × (Str × Option Str)))
  cls : List (Str × Nat)
  ini : List (Nat × Nat)
  mtn : List (Str × Nat)
  mt : List ((Nat × Nat) × Nat)
  gls : List (Str × (Nat × Gd))
  cl : List Pos
  fz : List Pos
namespace LD
def fnnF : Nat → List (Option (DR × (Str × Option Str))) → List (Str × Nat)
  | _, [] => []
  | i, some (_, (x, none)) :: r => (x, i) :: fnnF (i + 1) r
  | i, _ :: r => fnnF (i + 1) r
def fnn (L : LD) : List (Str × Nat) := fnnF 0 L.rs
def T (L : LD) : Tb := ⟨L.tg, L.fl, L.gls.map fun p => (p.1, p.2.1), L.fnn, L.cls, L.mtn, L.cl, L.fz⟩
def rsF (L : LD) (i : Nat) : Option DR := match L.rs[i]? with
  | some (some p) => some p.1
  | _ => none
def atF (L : LD) (i : Nat) : Option (Str × Option Str) := match L.rs[i]? with
  | some (some p) => some p.2
  | _ => none
def glF (L : LD) (g : Nat) : Option Gd := (L.gls.find? fun p => p.2.1 == g).map fun p => p.2.2
def iniF (L : LD) (c : Nat) : Option Nat := L.ini.lookup c
def mtF (L : LD) (c m : Nat) : Option Nat := L.mt.lookup (c, m)
def tab (L : LD) : Tab := ⟨L.tg, fun g => (L.glF g).map Gd.d, fun i => (L.rsF i).map (codeR L.T), L.mtF, L.iniF⟩
def cname (L : LD) (c : Nat) : Str := match L.cls.find? fun p => p.2 == c with
  | some p => p.1
  | none => (match L.cls with
    | p :: _ => p.1
    | [] => "")
def fa (L : LD) (K : PySem.W.Frag) (i : Nat) : Addr := match L.atF i with
  | some p => He.fAd K p
  | none => 0
def dOf (p : DR × (Str × Option Str)) : He.DefD := ⟨p.2, p.1.nm, p.1.qual, p.1.params, p.1.body, p.1.scope, [], []⟩
def fn (L : LD) : List He.DefD := L.rs.filterMap fun o => o.map dOf
def facts (L : LD) : List He.Fa := L.fnn.map (fun p => .glo p.1) ++ (L.cls.flatMap fun p => [.glo p.1, .cls p.1, .mkr p.1] ++ L.fl.map fun f => .noat p.1 f) ++ (L.mt.filterMap fun q => match L.rs[q.2]? with
    | some (some (_, (c, some m))) => some (.meth c m)
    | _ => none) ++ (L.gls.map fun p => match p.2.2 with
    | .int i => .int p.1 i
    | .str z => .str p.1 z
    | _ => .glo p.1) ++ bltNames.map .free
def dics (L : LD) : List (Str × List (Nat × Int)) := L.gls.filterMap fun p => match p.2.2 with
  | .dic kvs => some (p.1, kvs)
  | _ => none
def ts (L : LD) : List He.Tab := L.dics.map fun p => (fun K => He.ga K p.1, p.2.map fun q => L.tg.getD q.1 "")
def dvB (K : PySem.W.Frag) (a : Addr) (tg : List Str) (kvs : List (Nat × Int)) : Bool := (List.range tg.length).all fun n => match PySem.W.nsIn K a (tg.getD n ""), kvs.lookup n with
  | some none, none => true
  | some (some u), some i => He.relB (.int i) u
  | _, _ => false
def ex (L : LD) (K : PySem.W.Frag) : Bool := L.gls.all fun p => match p.2.2 with
  | .tup xs => He.tupB K p.1 (xs.map fun n => .str (L.tg.getD n ""))
  | .dic kvs => dvB K (He.ga K p.1) L.tg kvs
  | _ => true
def scB (r : DR) : Bool := decide (r.scope.kind = .function) && (!r.scope.isCoroutine && (!r.scope.isGenerator && (decide r.N.Nodup && (decide (r.N.take r.ps.length = r.ps) && (r.ps.all (fun x => decide (r.scope.names.lookup x = some .local ∨ r.scope.names.lookup x = some .cell)) && r.scope.names.all fun y => !decide (y.2 = .free))))))
/-- all that may be looked up -/
def ok (L : LD) : Bool :=
  decide L.tg.Nodup && (decide L.fl.Nodup && (L.tg.all PyData.strOk && ((L.rs.all fun o => match o with
    | some p => scB p.1
    | none => true) && ((L.gls.all fun p => decide (L.glF p.2.1 = some p.2.2) && (match p.2.2 with
    | .tup xs => xs.all fun n => decide (n < L.tg.length)
    | .dic kvs => kvs.all fun q => decide (q.1 < L.tg.length)
    | .str z => PyData.strOk z
    | _ => true)) && ((L.cls.all fun p => decide (L.cname p.2 = p.1)) && ((L.ini.all fun p => match L.atF p.2 with
    | some (x, some m) => decide (x = L.cname p.1) && decide (m = "__init__")
    | _ => false) && ((L.mt.all fun p => L.mtn.all fun q => if q.2 = p.1.2 then (match L.atF p.2 with
    | some (x, some m) => decide (x = L.cname p.1.1) && decide (m = q.1)
    | _ => false) else true) && ((L.mtn.all fun q => L.fl.all fun y => !decide (y = q.1)) && (L.cls.isEmpty == L.fl.isEmpty && (decide (L.mtn = [] ∨ L.fl ≠ [])))))))))))
end LD
theorem lookup_mem' {α β : Type} [BEq α] [LawfulBEq α] {a : α} {b : β} : ∀ {l : List (α × β)}, l.lookup a = some b → (a, b) ∈ l
  | [], h => by cases h
  | (c, u) :: r, h => by
    rw [List.lookup_cons] at h
    cases q : (a == c) with
    | true =>
      rw [q] at h
      have e : u = b := Option.some.inj h
      rw [eq_of_beq q, e]
      exact List.mem_cons_self
    | false =>
      rw [q] at h
      exact List.mem_cons_of_mem _ (lookup_mem' h)
theorem rsF_mem {L : LD} {i : Nat} {r : DR} (h : L.rsF i = some r) : ∃ p, L.rs[i]? = some (some (r, p)) ∧ L.atF i = some p := by
  unfold LD.rsF at h
  split at h
  · rename_i p e
    cases h
    exact ⟨p.2, e, by unfold LD.atF; rw [e]⟩
  · cases h
theorem atF_rsF {L : LD} {i : Nat} {p : Str × Option Str} (h : L.atF i = some p) : ∃ r, L.rs[i]? = some (some (r, p)) ∧ L.rsF i = some r := by
  unfold LD.atF at h
  split at h
  · rename_i q e
    cases h
    exact ⟨q.1, e, by unfold LD.rsF; rw [e]⟩
  · cases h
theorem fnnF_ok : ∀ (l : List (Option (DR × (Str × Option Str)))) (k : Nat) {x : Str} {i : Nat}, (LD.fnnF k l).lookup x = some i → (x, i) ∈ LD.fnnF k l ∧ ∃ r, l[i - k]? = some (some (r, (x, none))) ∧ k ≤ i := by
  intro l k x i h
  have hm : (x, i) ∈ LD.fnnF k l := lookup_mem' h
  refine ⟨hm, ?_⟩
  clear h
  induction l generalizing k with
  | nil => cases hm
  | cons o l ih =>
    have next : (x, i) ∈ LD.fnnF (k + 1) l → ∃ r, (o :: l)[i - k]? = some (some (r, (x, none))) ∧ k ≤ i := fun h => by
      obtain ⟨r, e, hk⟩ := ih (k + 1) h
      have : i - k = (i - (k + 1)) + 1 := by omega
      exact ⟨r, by rw [this]; exact e, by omega⟩
    match o, hm with
    | none, hm => exact next hm
    | some (r, (y, some m)), hm => exact next hm
    | some (r, (y, none)), hm =>
      rcases List.mem_cons.mp (show (x, i) ∈ (y, k) :: LD.fnnF (k + 1) l from hm) with e | e
      · cases e
        exact ⟨r, by simp, Nat.le_refl _⟩
      · exact next e
theorem tag_rv {C : Txs} {w : Wd} {L : LD} (hC : C.tg = L.tg) (hs : L.tg.all PyData.strOk = true) {n : Nat} (h : n < L.tg.length) : RV C w (.str (L.tg.getD n "")) (.tag n) := by
  have e : L.tg[n]? = some (L.tg.getD n "") := by
    rw [List.getD_eq_getElem?_getD, List.getElem?_eq_getElem h] <;> rfl
  exact .tag (by rw [hC]; exact e) (List.all_eq_true.mp hs _ (List.mem_of_getElem? e))
theorem tags_rv {C : Txs} {w : Wd} {L : LD} {K : PySem.W.Frag} (hC : C.tg = L.tg) (hs : L.tg.all PyData.strOk = true) : ∀ {xs : List Nat}, (xs.all fun n => decide (n < L.tg.length)) = true → RVs C w ((xs.map fun n => He.Dv.str (L.tg.getD n "")).map (He.Dv.v K)) (xs.map .tag)
  | [], _ => .nil
  | n :: xs, h => by
    rw [List.all_cons] at h
    obtain ⟨h1, h2⟩ := band h
    exact .cons (tag_rv hC hs (of_decide_eq_true h1)) (tags_rv hC hs h2)
theorem look_kv {T : List Str} {m : Nat} : ∀ (kvs : List (Nat × Int)), lookD T (.tag m) (kvs.map fun p => (D.tag p.1, D.int p.2)) = (kvs.lookup m).map .int
  | [] => rfl
  | (n, i) :: r => by
    simp only [List.map_cons, lookD, List.lookup_cons]
    have e : eqvD T (.tag n) (.tag m) = (n == m) := by simp only [eqvD]
    rw [e]
    by_cases h : n = m
    · subst h; simp
    · have h1 : (n == m) = false := by simp [h]
      have h2 : (m == n) = false := by simpa using fun e : m = n => h e.symm
      rw [h1, h2]
      simpa using look_kv r
theorem hyp_of {P : Program} {w : World} {K : PySem.W.Frag} {h : Heap} {mg : Str → Option Value} (L : LD) (ok : L.ok = true) (X : K.In h) (G : h.Ns mainGlobals mg) {hp : Heap} (c : He.SaysX L.facts L.fn L.ts [] L.ex w hp K)
    (hb : ∀ (i : Nat) (r : DR) (fd : FuncData) (a : Addr), L.rsF i = some r → FunD K r.nm r.qual r.params r.body r.scope [] [] a fd → L2.Binds K fd r.ps []) :
    Hyp P w K mg ⟨K, w, L.tg, L.fl, fun c => He.ga K (L.cname c)⟩ L.T L.tab L.rsF (L.fa K) := by
  unfold LD.ok at ok
  obtain ⟨k1, ok⟩ := band ok
  obtain ⟨k2, ok⟩ := band ok
  obtain ⟨k3, ok⟩ := band ok
  obtain ⟨k4, ok⟩ := band ok
  obtain ⟨k5, ok⟩ := band ok
  obtain ⟨k6, ok⟩ := band ok
  obtain ⟨k7, ok⟩ := band ok
  obtain ⟨k8, ok⟩ := band ok
  obtain ⟨k9, ok⟩ := band ok
  obtain ⟨k10, k11⟩ := band ok
  have d := c.t.d
  have mem1 : ∀ {f : He.Fa}, f ∈ L.fnn.map (fun p => He.Fa.glo p.1) → f ∈ L.facts := fun h => List.mem_append_left _ (List.mem_append_left _ (List.mem_append_left _ (List.mem_append_left _ h)))
  have mem2 : ∀ {f : He.Fa}, f ∈ (L.cls.flatMap fun p => [He.Fa.glo p.1, .cls p.1, .mkr p.1] ++ L.fl.map fun f => .noat p.1 f) → f ∈ L.facts := fun h => List.mem_append_left _ (List.mem_append_left _ (List.mem_append_left _ (List.mem_append_right _ h)))
  have cls_at : ∀ {p : Str × Nat} {f : He.Fa}, p ∈ L.cls → f ∈ ([He.Fa.glo p.1, .cls p.1, .mkr p.1] ++ L.fl.map fun f => He.Fa.noat p.1 f) → f.ok K = true := fun hp hf => d.facts (mem2 (List.mem_flatMap.mpr ⟨_, hp, hf⟩))
  have cn : ∀ c : Nat, L.cls ≠ [] → ∃ p ∈ L.cls, L.cname c = p.1 := fun c hne => by
    unfold LD.cname
    split
    · rename_i p e
      exact ⟨p, List.mem_of_find?_eq_some e, rfl⟩
    · split
      · rename_i p r e; exact ⟨p, by rw [e]; exact List.mem_cons_self, rfl⟩
      · rename_i e; exact absurd e hne
  have fc : L.fl ≠ [] → L.cls ≠ [] := fun h e => by
    rw [e] at k10
    have : L.fl.isEmpty = true := by simpa using k10
    exact h (List.isEmpty_iff.mp this)
  have defs : ∀ {i : Nat} {r : DR}, L.rsF i = some r → ∃ p fd, L.atF i = some p ∧ L.fa K i = He.fAd K p ∧ FunD K r.nm r.qual r.params r.body r.scope [] [] (L.fa K i) fd := fun {i r} hr => by
    obtain ⟨p, h1, h2⟩ := rsF_mem hr
    have hm : LD.dOf (r, p) ∈ L.fn := List.mem_filterMap.mpr ⟨some (r, p), List.mem_of_getElem? h1, rfl⟩
    obtain ⟨fd, F⟩ := d.defs hm
    have e : L.fa K i = He.fAd K p := by unfold LD.fa; rw [h2]
    exact ⟨p, fd, h2, e, by rw [e]; exact F⟩
  refine {
    hK := rfl, hw := rfl, tgC := rfl, flC := rfl, tgG := rfl
    nd := of_decide_eq_true k1
    cl := ⟨fun hf c => ?_, fun c f x hx => ?_, of_decide_eq_true k2⟩
    sok := fun x hx => List.all_eq_true.mp k3 x hx
    blt := fun x hx => He.free_ok X G (d.facts (f := .free x) (List.mem_append_right _ (List.mem_map.mpr ⟨x, hx, rfl⟩)))
    gl := fun x g hg => ?_
    fd := fun i r hr => by
      obtain ⟨p, fd, _, _, F⟩ := defs hr
      exact ⟨fd, F, hb i r fd _ hr F⟩
    sc := fun i r hr => ?_
    code := fun i => rfl
    fn := fun x f hf => ?_
    mt := fun m k hm => ⟨fun c f hf => ?_, ?_, fun i y hy => ?_⟩
    mkr := fun x c hx f hf => ?_ }
  · obtain ⟨p, hp, e⟩ := cn c (fc hf)
    show Cls K (He.ga K (L.cname c))
    rw [e]
    exact He.cls_ok (cls_at hp (by simp))
  · obtain ⟨p, hp, e⟩ := cn c (fc fun e => by have hx' : L.fl[f]? = some x := hx; rw [e] at hx'; cases hx')
    show NoAttr K (He.ga K (L.cname c)) x
    rw [e]
    exact He.noat_ok (cls_at hp (List.mem_append_right _ (List.mem_map.mpr ⟨x, List.mem_of_getElem? hx, rfl⟩)))
  · have hm := lookup_mem' (show (L.gls.map fun p => (p.1, p.2.1)).lookup x = some g from hg)
    obtain ⟨⟨x', g', k⟩, hp, e⟩ := List.mem_map.mp hm
    obtain ⟨e1, e2⟩ := Prod.mk.inj e
    have e1 : x' = x := e1
    have e2 : g' = g := e2
    subst x' g'
    clear e
    obtain ⟨q1, q2⟩ := band (List.all_eq_true.mp k5 _ hp)
    have q1 : L.glF g = some k := of_decide_eq_true q1
    have hf : (match k with
      | .int i => He.Fa.int x i
      | .str z => .str x z
      | _ => .glo x).ok K = true := d.facts (List.mem_append_left _ (List.mem_append_right _ (List.mem_map.mpr ⟨(x, g, k), hp, rfl⟩)))
    have hx := List.all_eq_true.mp c.more _ hp
    have gd : L.tab.gl g = some k.d := by show (L.glF g).map Gd.d = _; rw [q1] <;> rfl
    cases k with
    | int i =>
      obtain ⟨t, e⟩ := He.int_ok X G hf
      exact ⟨.int i, _, _, e, ⟨t, rfl⟩, gd, fun w => .int i⟩
    | str z =>
      obtain ⟨t, e⟩ := He.str_ok X G hf
      exact ⟨.str z, _, _, e, ⟨t, rfl⟩, gd, fun w => .str z q2⟩
    | tup xs =>
      have e := He.glo_ok X G hf
      exact ⟨.ref (He.ga K x), _, _, e, rfl, gd, fun w => .tup (He.tupB_ok hx w.H) (tags_rv rfl k3 q2)⟩
    | dic kvs =>
      have e := He.glo_ok X G hf
      obtain ⟨i, hi⟩ := List.mem_iff_getElem?.mp (show (x, kvs) ∈ L.dics from List.mem_filterMap.mpr ⟨_, hp, rfl⟩)
      obtain ⟨es, n, kd⟩ := c.t.tab i (t := (fun K => He.ga K x, kvs.map fun q => L.tg.getD q.1 "")) (by show (L.dics.map _)[i]? = _; rw [List.getElem?_map, hi] <;> rfl)
      refine ⟨.ref (He.ga K x), _, _, e, rfl, gd, fun w => .dctK kd fun m y hy => ?_⟩
      have hm : m < L.tg.length := by
        have := List.getElem?_eq_some_iff.mp hy
        exact this.1
      have ey : L.tg.getD m "" = y := by rw [List.getD_eq_getElem?_getD, show L.tg[m]? = some y from hy] <;> rfl
      have z := List.all_eq_true.mp (show LD.dvB K (He.ga K x) L.tg kvs = true from hx) m (List.mem_range.mpr hm)
      rw [ey] at z
      rw [look_kv]
      split at z
      · rename_i a b
        exact .inl ⟨a, by rw [b] <;> rfl⟩
      · rename_i u i a b
        exact .inr ⟨u, i, a, He.relB_ok z, by rw [b] <;> rfl⟩
      · cases z
  · obtain ⟨p, h1, h2⟩ := rsF_mem hr
    have z := List.all_eq_true.mp k4 _ (List.mem_of_getElem? h1)
    have z : LD.scB r = true := z
    unfold LD.scB at z
    obtain ⟨s1, z⟩ := band z
    obtain ⟨s2, z⟩ := band z
    obtain ⟨s3, z⟩ := band z
    obtain ⟨s4, z⟩ := band z
    obtain ⟨s5, z⟩ := band z
    obtain ⟨s6, s7⟩ := band z
    refine ⟨of_decide_eq_true s1, by simpa using s2, by simpa using s3, of_decide_eq_true s4, of_decide_eq_true s5, fun x hx => ?_, fun y hy => ?_⟩
    · exact of_decide_eq_true (List.all_eq_true.mp s6 x hx)
    · have := List.all_eq_true.mp s7 y hy
      simpa using this
  · obtain ⟨h1, r, h2, _⟩ := fnnF_ok L.rs 0 hf
    have hr : L.rsF f = some r := by unfold LD.rsF; rw [show L.rs[f]? = some (some (r, (x, none))) from h2]
    refine ⟨⟨r, hr⟩, ?_⟩
    have e : L.fa K f = He.ga K x := by unfold LD.fa LD.atF; rw [show L.rs[f]? = some (some (r, (x, none))) from h2] <;> rfl
    rw [e]
    exact He.glo_ok X G (d.facts (mem1 (List.mem_map.mpr ⟨(x, f), h1, rfl⟩)))
  · have q1 := List.all_eq_true.mp k8 _ (lookup_mem' (show L.mt.lookup (c, k) = some f from hf))
    have q2 := List.all_eq_true.mp q1 _ (lookup_mem' (show L.mtn.lookup m = some k from hm))
    simp only [if_true] at q2
    split at q2
    · rename_i x m' ea
      obtain ⟨z1, z2⟩ := band q2
      have z1 := of_decide_eq_true z1
      have z2 := of_decide_eq_true z2
      subst z1 z2
      obtain ⟨r, h1, h2⟩ := atF_rsF ea
      refine ⟨⟨r, h2⟩, ?_⟩
      have e : L.fa K f = He.ma K (He.ga K (L.cname c)) m' := by unfold LD.fa; rw [ea] <;> rfl
      rw [e]
      refine He.meth_ok (d.facts (f := .meth (L.cname c) m') ?_)
      refine List.mem_append_left _ (List.mem_append_left _ (List.mem_append_right _ (List.mem_filterMap.mpr ⟨_, lookup_mem' (show L.mt.lookup (c, k) = some f from hf), ?_⟩)))
      simp only
      rw [h1]
    · cases q2
  · have := of_decide_eq_true k11
    rcases this with e | e
    · rw [show L.T.mtn = L.mtn from rfl, e] at hm; cases hm
    · exact e
  · have q := List.all_eq_true.mp k9 _ (lookup_mem' (show L.mtn.lookup m = some k from hm))
    have q2 := List.all_eq_true.mp q y (List.mem_of_getElem? hy)
    simpa using q2
  · have hc := lookup_mem' (show L.cls.lookup x = some c from hx)
    have q1 := List.all_eq_true.mp k7 _ (lookup_mem' (show L.ini.lookup c = some f from hf))
    have q0 := of_decide_eq_true (List.all_eq_true.mp k6 _ hc)
    simp only at q0 q1
    split at q1
    · rename_i y m' ea
      obtain ⟨z1, z2⟩ := band q1
      have z1 := of_decide_eq_true z1
      have z2 := of_decide_eq_true z2
      subst z1 z2
      obtain ⟨r, h1, h2⟩ := atF_rsF ea
      refine ⟨⟨r, h2⟩, ?_, ?_⟩
      · have e : L.fa K f = He.ma K (He.ga K (L.cname c)) "__init__" := by unfold LD.fa; rw [ea] <;> rfl
        rw [e]
        show Mk K (He.ga K (L.cname c)) _
        rw [q0]
        exact He.mkr_ok (cls_at hc (by simp))
      · show mg x = some (.ref (He.ga K (L.cname c)))
        rw [q0]
        exact He.glo_ok X G (cls_at hc (by simp))
    · cases q1
end PI

/-! PV: the join with the head. -/
namespace PI
open PySem PySem.Spec PyProof.Rows L2
abbrev RsL : Type := List (Option (DR × (Str × Option Str)))
def AllR (Q : DR → Prop) : RsL → Prop
  | [] => True
  | none :: r => AllR Q r
  | some p :: r => Q p.1 ∧ AllR Q r
theorem AllR.app {Q : DR → Prop} : ∀ {a b : RsL}, AllR Q a → AllR Q b → AllR Q (a ++ b)
  | [], _, _, h => h
  | none :: a, b, h, k => AllR.app (a := a) h k
  | some p :: a, b, h, k => ⟨h.1, AllR.app (a := a) h.2 k⟩
theorem AllR.at {Q : DR → Prop} : ∀ {a : RsL} {i : Nat} {p : DR × (Str × Option Str)}, AllR Q a → a[i]? = some (some p) → Q p.1
  | [], _, _, _, h => by cases h
  | none :: a, 0, _, _, h => by cases h
  | none :: a, i + 1, _, h, k => AllR.at (a := a) (i := i) h k
  | some q :: a, 0, _, h, k => by cases k; exact h.1
  | some q :: a, i + 1, _, h, k => AllR.at (a := a) (i := i) h.2 k
/-- its parameters bind in order -/
def BindR (r : DR) : Prop := ∀ (K : PySem.W.Frag) (fd : FuncData) (a : Addr), FunD K r.nm r.qual r.params r.body r.scope [] [] a fd → L2.Binds K fd r.ps []
def st0 : Store := ⟨0, fun _ => .dead⟩
theorem ints_rv {C : Txs} {w : Wd} : ∀ {ns : List Int}, RVs C w (ns.map V.int) (ns.map D.int)
  | [] => .nil
  | n :: ns => .cons (.int n) ints_rv
theorem sp_start {C : Txs} {f : List D → Store → R D} {H : Hp} {a : Addr} {ns : List Int} {E : XK} {s' : Store} (hS : SqL C.K H a (ns.map V.int)) (e : f [.frz (ns.map .int)] st0 = .ok (.bl true) s') : spOf C f [.ref a] H (fun v _ => v = .bl true) E := by
  have S : SR C ⟨fun _ => False, fun _ => 0, st0, H⟩ := ⟨fun _ _ => rfl, fun _ _ h => (h rfl).elim, fun _ h => h.elim, fun _ h => (h rfl).elim, fun _ => trivial⟩
  have nl : ¬ Wd.live ⟨fun _ => False, fun _ => 0, st0, H⟩ a := by
    rintro (h | ⟨k, h, _⟩)
    · exact h
    · exact h rfl
  refine ⟨⟨fun _ => False, fun _ => 0, st0, H⟩, [.frz (ns.map .int)], rfl, S, .cons ?_ .nil, ?_⟩
  · rcases hS with h | ⟨o, its, n, h⟩
    · exact .frz h nl ints_rv
    · exact .frzK ⟨o, its, n, h⟩ ints_rv
  · show Pst C _ (f [.frz (ns.map .int)] st0) _
    rw [e]
    intro w' _ _ _ v r
    cases r
    rfl
/-- what the head asks, of a law's data -/
theorem law_facts {P : Program} {w : World} {K : PySem.W.Frag} {h hp : Heap} {mg : Str → Option Value} {f : Addr} (L : LD) (i : Nat) (x : Str) (k W : Nat) (ok : L.ok = true) (hb : AllR BindR L.rs) (r : DR) (hr : L.rs[i]? = some (some (r, (("law" : Str), (none : Option Str))))) (hps : r.ps = [x]) (X : K.In h) (G : h.Ns mainGlobals mg)
    (hf : mg ("law" : Str) = some (.ref f)) (c : He.SaysX L.facts L.fn L.ts [] L.ex w hp K)
    (hbA : ∀ (fd : FuncData) (a : Addr), FunD K r.nm r.qual r.params r.body r.scope [] [] a fd → ∀ (s : Shared) (v : Value), BindsTo s fd ⟨[v], []⟩ [(x, v)])
    (hlaw : ∀ ns : List Int, ns.length ≤ 63 → ∃ s', Run L.tab W k i [.frz (ns.map .int)] st0 = .ok (.bl true) s') :
    ∃ (fd : FuncData) (sp : Sp), (∀ (s : Shared) (v : Value), BindsTo s fd ⟨[v], []⟩ [(x, v)]) ∧ (∀ (H : Hp) (a : Addr) (ns : List Int), ns.length ≤ 63 → Only H → SqL K H a (ns.map V.int) → sp [.ref a] H (fun v _ => v = .bl true) fun _ _ _ => False) ∧
      ∀ base : Heap, K.In base → base.Ns mainGlobals mg → FnOk P w K mg base CX0 k f fd [x] sp := by
  have Hy := hyp_of (P := P) (w := w) L ok X G c fun i r fd a hr F => by
    obtain ⟨p, h1, _⟩ := rsF_mem hr
    exact AllR.at hb h1 K fd a F
  have hri : L.rsF i = some r := by unfold LD.rsF; rw [hr]
  obtain ⟨fd, F, B⟩ := Hy.fd i r hri
  have ef : L.fa K i = f := by
    have e1 : L.fa K i = He.ga K "law" := by unfold LD.fa LD.atF; rw [hr] <;> rfl
    have hm : LD.dOf (r, (("law" : Str), (none : Option Str))) ∈ L.fn := List.mem_filterMap.mpr ⟨some (r, ("law", none)), List.mem_of_getElem? hr, rfl⟩
    have e2 : mg ("law" : Str) = some (.ref (He.ga K "law")) := by
      refine He.glo_ok X G (c.t.d.facts (f := .glo "law") (List.mem_append_left _ (List.mem_append_left _ (List.mem_append_left _ (List.mem_append_left _ (List.mem_map.mpr ⟨(("law" : Str), i), ?_, rfl⟩))))))
      have go : ∀ (l : RsL) (k i : Nat), l[i]? = some (some (r, (("law" : Str), (none : Option Str)))) → (("law" : Str), k + i) ∈ LD.fnnF k l := by
        intro l
        induction l with
        | nil => intro k i h; cases h
        | cons o l ih =>
          intro k i h
          cases i with
          | zero =>
            simp only [List.getElem?_cons_zero, Option.some.injEq] at h
            subst h
            exact List.mem_cons_self
          | succ i =>
            have h' := ih (k + 1) i (by simpa using h)
            have e : k + 1 + i = k + (i + 1) := by omega
            rw [e] at h'
            match o with
            | none => exact h'
            | some (q, (y, some m)) => exact h'
            | some (q, (y, none)) => exact List.mem_cons_of_mem _ h'
      have := go L.rs 0 i hr
      rw [Nat.zero_add] at this
      exact this
    rw [e1]
    rw [hf] at e2
    injection e2 with e3
    injection e3 with e4
    exact e4.symm
  refine ⟨fd, spOf ⟨K, w, L.tg, L.fl, fun c => He.ga K (L.cname c)⟩ (Run L.tab W k i), hbA fd _ F, fun H a ns hl _ hS => ?_, fun base hB hN => ?_⟩
  · obtain ⟨s', e⟩ := hlaw ns hl
    exact sp_start hS e
  · have q := (run_ok (base := base) Hy W k).1 i r hri fd F
    rw [ef, hps] at q
    exact q
end PI

/-! SA: reckoning with codes, plain. -/
namespace PI
open PySem L2
def wp {α : Type} (r : R α) (Q : α → Store → Prop) : Prop := match r with
  | .ok a s => Q a s
  | _ => False
theorem wp_ok {α : Type} (a : α) (s : Store) (Q : α → Store → Prop) : wp (.ok a s) Q = Q a s := rfl
theorem wp_bind {α β : Type} (r : R α) (k : α → Store → R β) (Q : β → Store → Prop) : wp (r.bind k) Q = wp r fun a s => wp (k a s) Q := by cases r <;> rfl
theorem wp_mono {α : Type} {r : R α} {Q Q' : α → Store → Prop} (h : wp r Q) (k : ∀ a s, Q a s → Q' a s) : wp r Q' := by
  cases r with
  | ok a s => exact k a s h
  | stuck => exact h
  | exc e s => exact h
theorem wp_noexc {α : Type} (r : R α) (Q : α → Store → Prop) : wp r.noexc Q = wp r Q := by cases r <;> rfl
theorem wp_iff {α : Type} {r : R α} {Q : α → Store → Prop} : wp r Q ↔ ∃ a s, r = .ok a s ∧ Q a s := by
  cases r with
  | ok a s => exact ⟨fun h => ⟨a, s, rfl, h⟩, fun ⟨a', s', e, h⟩ => by cases e; exact h⟩
  | stuck => exact ⟨fun h => h.elim, fun ⟨a', s', e, h⟩ => by cases e⟩
  | exc e s => exact ⟨fun h => h.elim, fun ⟨a', s', e, h⟩ => by cases e⟩
theorem wp_eq {α : Type} {r : R α} {a : α} {s : Store} {Q : α → Store → Prop} (e : r = .ok a s) (h : Q a s) : wp r Q := by rw [e]; exact h
theorem wp_if {α : Type} {c : Prop} [Decidable c] (a : α) (s : Store) (Q : α → Store → Prop) : wp (if c then .ok a s else .stuck) Q ↔ c ∧ Q a s := by
  split
  · rename_i h; exact ⟨fun q => ⟨h, q⟩, fun q => q.2⟩
  · rename_i h; exact ⟨fun q => q.elim, fun q => (h q.1).elim⟩
theorem wp_bool {α : Type} (b : Bool) (s : Store) (t f : Store → R α) (Q : α → Store → Prop) : wp (boolK (.bl b) s t f) Q ↔ (b = true → wp (t s) Q) ∧ (b = false → wp (f s) Q) := by
  cases b
  · exact ⟨fun h => ⟨fun e => by (cases e), fun _ => h⟩, fun h => h.2 rfl⟩
  · exact ⟨fun h => ⟨fun _ => h, fun e => by (cases e)⟩, fun h => h.1 rfl⟩
abbrev GG (tb : Tab) (W m : Nat) : GE := tb.ge W (fun f ds s => Run tb W (m + 1) f ds s) (fun f ds s => Run tb W m f ds s)
theorem run2 (tb : Tab) (W m f : Nat) (ds : List D) (s : Store) : Run tb W (m + 2) f ds s = runB (GG tb W m) (tb.fns f) ds s := by simp only [Run]
section
variable {tb : Tab} {W m : Nat}
theorem gg_fn : (GG tb W m).fn = fun f ds s => Run tb W (m + 1) f ds s := rfl
theorem gg_mkf : (GG tb W m).mkf = fun f ds s => Run tb W m f ds s := rfl
theorem gg_tg : (GG tb W m).tg = tb.tg := rfl
theorem gg_gl : (GG tb W m).gl = tb.gl := rfl
theorem gg_mt : (GG tb W m).mt = tb.mt := rfl
theorem gg_ini : (GG tb W m).ini = tb.ini := rfl
theorem gg_W : (GG tb W m).W = W := rfl
end
section
variable {T : List Str} {s : Store}
theorem qdr_int {i : Int} : deref s (.int i) = .int i := rfl
theorem qdr_tupl {xs : List D} : deref s (.tup xs) = .tup xs := rfl
theorem qdr_list {xs : List D} : deref s (.lst xs) = .lst xs := rfl
theorem qdr_frz {xs : List D} : deref s (.frz xs) = .frz xs := rfl
theorem qdr_tag {n : Nat} : deref s (.tag n) = .tag n := rfl
theorem qdr_str {n : Str} : deref s (.str n) = .str n := rfl
theorem qdr_bl {n : Bool} : deref s (.bl n) = .bl n := rfl
theorem qdr_non : deref s .non = .non := rfl
theorem qdr_kdt {kvs : List (D × D)} : deref s (.kdt kvs) = .kdt kvs := rfl
theorem qdr_dct {kvs : List (D × D)} : deref s (.dct kvs) = .dct kvs := rfl
theorem at_nat {xs : List D} (n : Nat) : atI xs (n : Int) = xs[n]? := by
  unfold atI ixN
  rw [if_pos (by omega)]
  by_cases h : n < xs.length
  · rw [if_pos (by omega)]
    simp
  · rw [if_neg (by omega)]
    simp
    omega
theorem at0 {a : D} {l : List D} : atI (a :: l) 0 = some a := at_nat 0
theorem at1 {a b : D} {l : List D} : atI (a :: b :: l) 1 = some b := at_nat 1
theorem at2 {a b c : D} {l : List D} : atI (a :: b :: c :: l) 2 = some c := at_nat 2
theorem at3 {a b c d : D} {l : List D} : atI (a :: b :: c :: d :: l) 3 = some d := at_nat 3
theorem at_i {xs : List D} {i : Int} (h : 0 ≤ i) : atI xs i = xs[i.toNat]? := by
  have := at_nat (xs := xs) i.toNat
  rwa [Int.toNat_of_nonneg h] at this
theorem atm1_1 {a : D} : atI [a] (-1) = some a := rfl
theorem atm1_3 {a b c : D} : atI [a, b, c] (-1) = some c := rfl
theorem atm1_4 {a b c d : D} : atI [a, b, c, d] (-1) = some d := rfl
/-! equality -/
theorem eq_ii {neg : Bool} {i j : Int} : eqV' T neg (.int i) (.int j) s = .ok (.bl (xor neg (decide (i = j)))) s := by
  simp [eqV', deref, datD, depD, eqvD] <;> rfl
theorem eq_tt {neg : Bool} {i j : Nat} (hi : i < T.length) (hj : j < T.length) : eqV' T neg (.tag i) (.tag j) s = .ok (.bl (xor neg (decide (i = j)))) s := by
  simp [eqV', deref, datD, depD, eqvD, hi, hj] <;> rfl
theorem eq_nil {neg : Bool} : eqV' T neg (.lst []) (.lst []) s = .ok (.bl (xor neg true)) s := by
  simp [eqV', deref, datD, datL, depD, depL, eqvD, eqvL]
end

/-! ### continuations by name: nothing is reckoned ahead of its turn -/
def wpK {α β : Type} (k : α → Store → R β) (Q : β → Store → Prop) (a : α) (s : Store) : Prop := wp (k a s) Q
theorem wpK_app {α β : Type} (k : α → Store → R β) (Q : β → Store → Prop) (a : α) (s : Store) : wpK k Q a s = wp (k a s) Q := rfl
theorem wp_bindK {α β : Type} (r : R α) (k : α → Store → R β) (Q : β → Store → Prop) : wp (r.bind k) Q = wp r (wpK k Q) := wp_bind r k Q
theorem bind_assocR {α β γ : Type} (r : R α) (k : α → Store → R β) (l : β → Store → R γ) : (r.bind k).bind l = r.bind fun a s => (k a s).bind l := by cases r <;> rfl
section
variable {G : GE} {env : Env} {s : Store}
def vK (o : Option (Option D)) (s : Store) : R D := match o with
  | some (some d) => .ok d s
  | _ => .stuck
theorem vK_some {d : D} : vK (some (some d)) s = .ok d s := rfl
def fzK (o : Option (Option D)) (s : Store) : R D := match o with
  | some (some d) => frzV d s
  | _ => .stuck
theorem fzK_some {d : D} : fzK (some (some d)) s = frzV d s := rfl
def glK (o : Option D) (s : Store) : R D := match o with
  | some d => .ok d s
  | none => .stuck
theorem glK_some {d : D} : glK (some d) s = .ok d s := rfl
theorem e_var {i : Nat} : evalE G (.var i) env s = vK env[i]? s := by simp only [evalE] <;> rfl
theorem e_frz {i : Nat} : evalE G (.frz i) env s = fzK env[i]? s := by simp only [evalE] <;> rfl
theorem e_cst {d : D} : evalE G (.cst d) env s = .ok d s := by simp only [evalE]
theorem e_glob {g : Nat} : evalE G (.glob g) env s = glK (G.gl g) s := by simp only [evalE] <;> rfl
def kBin2 (G : GE) (o : Bop) (c : Bool) (x y : D) (s : Store) : R D := bopV G.tg o c x y s
theorem kBin2_app {o : Bop} {c : Bool} {x y : D} : kBin2 G o c x y s = bopV G.tg o c x y s := rfl
def kBin1 (G : GE) (o : Bop) (c : Bool) (b : E) (env : Env) (x : D) (s : Store) : R D := (evalE G b env s).bind (kBin2 G o c x)
theorem kBin1_app {o : Bop} {c : Bool} {b : E} {x : D} : kBin1 G o c b env x s = (evalE G b env s).bind (kBin2 G o c x) := rfl
theorem e_bin {o : Bop} {c : Bool} {a b : E} : evalE G (.bin o c a b) env s = (evalE G a env s).bind (kBin1 G o c b env) := by simp only [evalE] <;> rfl
def kCmp2 (G : GE) (o : Cop) (x y : D) (s : Store) : R D := copV G.tg o x y s
theorem kCmp2_app {o : Cop} {x y : D} : kCmp2 G o x y s = copV G.tg o x y s := rfl
def kCmp1 (G : GE) (o : Cop) (b : E) (env : Env) (x : D) (s : Store) : R D := (evalE G b env s).bind (kCmp2 G o x)
theorem kCmp1_app {o : Cop} {b : E} {x : D} : kCmp1 G o b env x s = (evalE G b env s).bind (kCmp2 G o x) := rfl
theorem e_cmp {o : Cop} {a b : E} : evalE G (.cmp o a b) env s = (evalE G a env s).bind (kCmp1 G o b env) := by simp only [evalE] <;> rfl
def tB (b : Bool) (s : Store) : R D := .ok (.bl b) s
theorem tB_app {b : Bool} : tB b s = .ok (.bl b) s := rfl
def tE (G : GE) (a : E) (env : Env) (s : Store) : R D := evalE G a env s
theorem tE_app {a : E} : tE G a env s = evalE G a env s := rfl
def tCh (G : GE) (p : Cop) (c : E) (env : Env) (y : D) (s : Store) : R D := (evalE G c env s).bind (kCmp2 G p y)
theorem tCh_app {p : Cop} {c : E} {y : D} : tCh G p c env y s = (evalE G c env s).bind (kCmp2 G p y) := rfl
def kCh3 (G : GE) (p : Cop) (c : E) (env : Env) (y z : D) (s : Store) : R D := boolK z s (tCh G p c env y) (tB false)
theorem kCh3_app {p : Cop} {c : E} {y z : D} : kCh3 G p c env y z s = boolK z s (tCh G p c env y) (tB false) := rfl
def kCh2 (G : GE) (o p : Cop) (c : E) (env : Env) (x y : D) (s : Store) : R D := (copV G.tg o x y s).bind (kCh3 G p c env y)
theorem kCh2_app {o p : Cop} {c : E} {x y : D} : kCh2 G o p c env x y s = (copV G.tg o x y s).bind (kCh3 G p c env y) := rfl
def kCh1 (G : GE) (o p : Cop) (b c : E) (env : Env) (x : D) (s : Store) : R D := (evalE G b env s).bind (kCh2 G o p c env x)
theorem kCh1_app {o p : Cop} {b c : E} {x : D} : kCh1 G o p b c env x s = (evalE G b env s).bind (kCh2 G o p c env x) := rfl
theorem e_chain {o p : Cop} {a b c : E} : evalE G (.chain o p a b c) env s = (evalE G a env s).bind (kCh1 G o p b c env) := by simp only [evalE] <;> rfl
def kAnd (G : GE) (b : E) (env : Env) (x : D) (s : Store) : R D := boolK x s (tE G b env) (tB false)
theorem kAnd_app {b : E} {x : D} : kAnd G b env x s = boolK x s (tE G b env) (tB false) := rfl
theorem e_and {a b : E} : evalE G (.and a b) env s = (evalE G a env s).bind (kAnd G b env) := by simp only [evalE] <;> rfl
def kOr (G : GE) (b : E) (env : Env) (x : D) (s : Store) : R D := boolK x s (tB true) (tE G b env)
theorem kOr_app {b : E} {x : D} : kOr G b env x s = boolK x s (tB true) (tE G b env) := rfl
theorem e_or {a b : E} : evalE G (.or a b) env s = (evalE G a env s).bind (kOr G b env) := by simp only [evalE] <;> rfl
def kNot (x : D) (s : Store) : R D := boolK x s (tB false) (tB true)
theorem kNot_bl {b : Bool} : kNot (.bl b) s = .ok (.bl (!b)) s := by cases b <;> rfl
theorem e_not {a : E} : evalE G (.not a) env s = (evalE G a env s).bind kNot := by simp only [evalE] <;> rfl
def kIte (G : GE) (a b : E) (env : Env) (x : D) (s : Store) : R D := boolK x s (tE G a env) (tE G b env)
theorem kIte_app {a b : E} {x : D} : kIte G a b env x s = boolK x s (tE G a env) (tE G b env) := rfl
theorem e_ite {c a b : E} : evalE G (.ite c a b) env s = (evalE G c env s).bind (kIte G a b env) := by simp only [evalE] <;> rfl
theorem e_call {f : Nat} {as : Es} : evalE G (.call f as) env s = (evalEs G as env s).bind (G.fn f) := by simp only [evalE]
def kBlt (G : GE) (o : Blt) (c : Bool) (ds : List D) (s : Store) : R D := bltV G.tg o c ds s
theorem kBlt_app {o : Blt} {c : Bool} {ds : List D} : kBlt G o c ds s = bltV G.tg o c ds s := rfl
theorem e_blt {o : Blt} {c : Bool} {as : Es} : evalE G (.blt o c as) env s = (evalEs G as env s).bind (kBlt G o c) := by simp only [evalE] <;> rfl
theorem e_isi {a : E} {ts : List Nat} : evalE G (.isi a ts) env s = (evalE G a env s).bind (isiV ts) := by simp only [evalE]
def kMth2 (G : GE) (k f : Nat) (ds : List D) (s : Store) : R D := G.fn f (.cell k :: ds) s
theorem kMth2_app {k f : Nat} {ds : List D} : kMth2 G k f ds s = G.fn f (.cell k :: ds) s := rfl
def mthK (G : GE) (o : Option (Nat × Nat)) (as : Es) (env : Env) (s : Store) : R D := match o with
  | some (k, f) => (evalEs G as env s).bind (kMth2 G k f)
  | none => .stuck
theorem mthK_some {k f : Nat} {as : Es} : mthK G (some (k, f)) as env s = (evalEs G as env s).bind (kMth2 G k f) := rfl
def kMth1 (G : GE) (m : Nat) (as : Es) (env : Env) (x : D) (s : Store) : R D := mthK G (mthV G m x s) as env s
theorem kMth1_app {m : Nat} {as : Es} {x : D} : kMth1 G m as env x s = mthK G (mthV G m x s) as env s := rfl
theorem e_mth {m : Nat} {a : E} {as : Es} : evalE G (.mth m a as) env s = (evalE G a env s).bind (kMth1 G m as env) := by simp only [evalE] <;> rfl
def kBmt2 (G : GE) (o : Bmt) (x : D) (ds : List D) (s : Store) : R D := bmtV G.tg o x ds s
theorem kBmt2_app {o : Bmt} {x : D} {ds : List D} : kBmt2 G o x ds s = bmtV G.tg o x ds s := rfl
def bmtK (G : GE) (o : Bmt) (b : Bool) (x : D) (as : Es) (env : Env) (s : Store) : R D := match b with
  | true => (evalEs G as env s).bind (kBmt2 G o x)
  | false => .stuck
theorem bmtK_t {o : Bmt} {x : D} {as : Es} : bmtK G o true x as env s = (evalEs G as env s).bind (kBmt2 G o x) := rfl
def kBmt1 (G : GE) (o : Bmt) (as : Es) (env : Env) (x : D) (s : Store) : R D := bmtK G o (recvOk o x s) x as env s
theorem kBmt1_app {o : Bmt} {as : Es} {x : D} : kBmt1 G o as env x s = bmtK G o (recvOk o x s) x as env s := rfl
theorem e_bmt {o : Bmt} {a : E} {as : Es} : evalE G (.bmt o a as) env s = (evalE G a env s).bind (kBmt1 G o as env) := by simp only [evalE] <;> rfl
def kMk2 (n : Nat) (d : D) (s : Store) : R D := match d with
  | .non => .ok (.cell n) s
  | _ => .stuck
theorem kMk2_non {n : Nat} : kMk2 n .non s = .ok (.cell n) s := rfl
def mkK (G : GE) (o : Option Nat) (c : Nat) (ds : List D) (s : Store) : R D := match o with
  | some f => (G.mkf f (.cell s.n :: ds) (s.new (.ins c []))).bind (kMk2 s.n)
  | none => .stuck
theorem mkK_some {c f : Nat} {ds : List D} : mkK G (some f) c ds s = (G.mkf f (.cell s.n :: ds) (s.new (.ins c []))).bind (kMk2 s.n) := rfl
def kMk1 (G : GE) (c : Nat) (ds : List D) (s : Store) : R D := mkK G (G.ini c) c ds s
theorem kMk1_app {c : Nat} {ds : List D} : kMk1 G c ds s = mkK G (G.ini c) c ds s := rfl
theorem e_mk {c : Nat} {as : Es} : evalE G (.mk c as) env s = (evalEs G as env s).bind (kMk1 G c) := by simp only [evalE] <;> rfl
theorem e_fld {a : E} {f : Nat} : evalE G (.fld a f) env s = (evalE G a env s).bind (fldV f) := by simp only [evalE]
def kIdx2 (G : GE) (x y : D) (s : Store) : R D := idxV G.tg x y s
theorem kIdx2_app {x y : D} : kIdx2 G x y s = idxV G.tg x y s := rfl
def kIdx1 (G : GE) (b : E) (env : Env) (x : D) (s : Store) : R D := (evalE G b env s).bind (kIdx2 G x)
theorem kIdx1_app {b : E} {x : D} : kIdx1 G b env x s = (evalE G b env s).bind (kIdx2 G x) := rfl
theorem e_idx {a b : E} : evalE G (.idx a b) env s = (evalE G a env s).bind (kIdx1 G b env) := by simp only [evalE] <;> rfl
def kSl3 (G : GE) (c : Bool) (x : D) (i : Option Int) (j : Option Int) (s : Store) : R D := slcV G.tg c x i j s
theorem kSl3_app {c : Bool} {x : D} {i j : Option Int} : kSl3 G c x i j s = slcV G.tg c x i j s := rfl
def kSl2 (G : GE) (c h : Bool) (hi : E) (env : Env) (x : D) (i : Option Int) (s : Store) : R D := (prt h (evalE G hi env s)).bind (kSl3 G c x i)
theorem kSl2_app {c h : Bool} {hi : E} {x : D} {i : Option Int} : kSl2 G c h hi env x i s = (prt h (evalE G hi env s)).bind (kSl3 G c x i) := rfl
def kSl1 (G : GE) (c l h : Bool) (lo hi : E) (env : Env) (x : D) (s : Store) : R D := (prt l (evalE G lo env s)).bind (kSl2 G c h hi env x)
theorem kSl1_app {c l h : Bool} {lo hi : E} {x : D} : kSl1 G c l h lo hi env x s = (prt l (evalE G lo env s)).bind (kSl2 G c h hi env x) := rfl
theorem e_slc {c l h : Bool} {a lo hi : E} : evalE G (.slc c l h a lo hi) env s = (evalE G a env s).bind (kSl1 G c l h lo hi env) := by simp only [evalE] <;> rfl
theorem e_nop : evalE G .nop env s = .ok .non s := by simp only [evalE]
def kPrt (b : Bool) (d : D) (s : Store) : R (Option Int) := match b with
  | true => (match d with
    | .int i => .ok (some i) s
    | _ => .stuck)
  | false => .ok none s
theorem kPrt_f {d : D} : kPrt false d s = .ok none s := rfl
theorem kPrt_i {i : Int} : kPrt true (.int i) s = .ok (some i) s := rfl
theorem prt_eq {b : Bool} {o : R D} : prt b o = o.bind (kPrt b) := rfl
def kTup (ds : List D) (s : Store) : R D := .ok (.tup ds) s
theorem kTup_app {ds : List D} : kTup ds s = .ok (.tup ds) s := rfl
theorem e_tup {as : Es} : evalE G (.tup as) env s = (evalEs G as env s).bind kTup := by simp only [evalE] <;> rfl
def kTupW (G : GE) (ds : List D) (s : Store) : R D := .ok (.tup (tagHd G.tg ds)) s
theorem kTupW_app {ds : List D} : kTupW G ds s = .ok (.tup (tagHd G.tg ds)) s := rfl
theorem tagHd_cons {T : List Str} {d : D} {ds : List D} : tagHd T (d :: ds) = tagV T d :: ds := rfl
theorem e_tupW {as : Es} : evalE G (.tupW as) env s = (evalEs G as env s).bind (kTupW G) := by simp only [evalE] <;> rfl
theorem e_lst {c : Bool} {as : Es} : evalE G (.lst c as) env s = (evalEs G as env s).bind (newL c) := by simp only [evalE]
def dctK (G : GE) (c : Bool) (o : Option (List (D × D))) (s : Store) : R D := match o with
  | some kvs => if kvs.length ≤ 15 then newK c (kvs.foldl (fun l p => putD G.tg p.1 p.2 l) []) s else .stuck
  | none => .stuck
def kDct (G : GE) (c : Bool) (ds : List D) (s : Store) : R D := dctK G c (pairsOf ds) s
theorem kDct_app {c : Bool} {ds : List D} : kDct G c ds s = dctK G c (pairsOf ds) s := rfl
theorem e_dct {c : Bool} {as : Es} : evalE G (.dct c as) env s = (evalEs G as env s).bind (kDct G c) := by simp only [evalE] <;> rfl
def bindW (t : CT) (vs : List Nat) (env : Env) (d : D) : Option Env := bindC t d (wipeD env vs)
theorem bindW_app {t : CT} {vs : List Nat} {d : D} : bindW t vs env d = bindC t d (wipeD env vs) := rfl
def kCmpr (G : GE) (c : Bool) (vs : List Nat) (t : CT) (t2 e : E) (env : Env) (x : D) (o : Option (List D)) (s : Store) : R D := match o with
  | some xs => if xs.length ≤ LIM then (compL (bindW t vs env) (evalE G t2) (evalE G e) xs s).bind (newL c) else .stuck
  | none => (match x with
    | .cell k => (compC (bindW t vs env) (evalE G t2) (evalE G e) k LIM 0 s).bind (newL c)
    | _ => .stuck)
theorem kCmpr_some {c : Bool} {vs : List Nat} {t : CT} {t2 e : E} {x : D} {xs : List D} (h : xs.length ≤ LIM) : kCmpr G c vs t t2 e env x (some xs) s = (compL (bindW t vs env) (evalE G t2) (evalE G e) xs s).bind (newL c) := by unfold kCmpr; simp only [if_pos h] <;> rfl
theorem kCmpr_cell {c : Bool} {vs : List Nat} {t : CT} {t2 e : E} {k : Nat} : kCmpr G c vs t t2 e env (.cell k) none s = (compC (bindW t vs env) (evalE G t2) (evalE G e) k LIM 0 s).bind (newL c) := rfl
def kComp (G : GE) (c : Bool) (vs : List Nat) (t : CT) (t2 e : E) (env : Env) (x : D) (s : Store) : R D := kCmpr G c vs t t2 e env x (itemsOf x) s
theorem kComp_app {c : Bool} {vs : List Nat} {t : CT} {t2 e : E} {x : D} : kComp G c vs t t2 e env x s = kCmpr G c vs t t2 e env x (itemsOf x) s := rfl
theorem e_comp {c : Bool} {vs : List Nat} {t : CT} {it t2 e : E} : evalE G (.comp c vs t it t2 e) env s = (evalE G it env s).bind (kComp G c vs t t2 e env) := by
  simp only [evalE]
  congr 1
  funext x s1
  unfold compX kComp kCmpr
  cases h : itemsOf x with
  | some xs =>
    simp only
    by_cases hl : xs.length ≤ LIM
    · rw [if_pos hl, if_pos hl]; rfl
    · rw [if_neg hl, if_neg hl]; rfl
  | none =>
    simp only
    cases x <;> rfl
theorem e_frzE {a : E} : evalE G (.frzE a) env s = (evalE G a env s).bind frzV := by simp only [evalE]
def kR3b (x y : D) (z : D) (s : Store) : R D := rng3V x y z s
theorem kR3b_app {x y z : D} : kR3b x y z s = rng3V x y z s := rfl
def kR3a (G : GE) (c : E) (env : Env) (x y : D) (s : Store) : R D := (evalE G c env s).bind (kR3b x y)
theorem kR3a_app {c : E} {x y : D} : kR3a G c env x y s = (evalE G c env s).bind (kR3b x y) := rfl
def kR3 (G : GE) (b c : E) (env : Env) (x : D) (s : Store) : R D := (evalE G b env s).bind (kR3a G c env x)
theorem kR3_app {b c : E} {x : D} : kR3 G b c env x s = (evalE G b env s).bind (kR3a G c env x) := rfl
theorem e_rng3 {a b c : E} : evalE G (.rng3 a b c) env s = (evalE G a env s).bind (kR3 G b c env) := by simp only [evalE] <;> rfl
theorem e_rng {a : E} : evalE G (.rng a) env s = (evalE G a env s).bind rngV := by simp only [evalE]
def kEs2 (d : D) (ds : List D) (s : Store) : R (List D) := .ok (d :: ds) s
theorem kEs2_app {d : D} {ds : List D} : kEs2 d ds s = .ok (d :: ds) s := rfl
def kEs1 (G : GE) (as : Es) (env : Env) (d : D) (s : Store) : R (List D) := (evalEs G as env s).bind (kEs2 d)
theorem kEs1_app {as : Es} {d : D} : kEs1 G as env d s = (evalEs G as env s).bind (kEs2 d) := rfl
theorem es_nil : evalEs G .nil env s = .ok [] s := by simp only [evalEs]
theorem es_cons {a : E} {as : Es} : evalEs G (.cons a as) env s = (evalE G a env s).bind (kEs1 G as env) := by simp only [evalEs] <;> rfl
theorem t_name {i : Nat} {d : D} : storeT G (.name i) d env s = .ok (env.set i (some d)) s := by simp only [storeT]
def kFld (f : Nat) (d : D) (env : Env) (x : D) (s1 : Store) : R Env := match x with
  | .cell k => (match s1.f k with
    | .ins c fs => if fs.length < 900 then .ok env (s1.set k (.ins c (putN f d fs))) else .stuck
    | _ => .stuck)
  | _ => .stuck
theorem t_fld {a : E} {f : Nat} {d : D} : storeT G (.fld a f) d env s = (evalE G a env s).bind (kFld f d env) := by simp only [storeT] <;> rfl
theorem kFld_app {f : Nat} {d : D} {k c : Nat} {fs : List (Nat × D)} (h : s.f k = .ins c fs) (hl : fs.length < 900) : kFld f d env (.cell k) s = .ok env (s.set k (.ins c (putN f d fs))) := by
  unfold kFld; simp only [h, if_pos hl]
def kSub2 (G : GE) (d : D) (env : Env) (x i : D) (s2 : Store) : R Env := match x with
    | .cell k => (match s2.f k with
      | .lst xs => (match i with
        | .int z => (match ixN xs.length z with
          | some j => .ok env (s2.set k (.lst (xs.set j d)))
          | none => .stuck)
        | _ => .stuck)
      | .dct kvs => if keyD i = true ∧ kvs.length < LIM then .ok env (s2.set k (.dct (putD G.tg i d kvs))) else .stuck
      | _ => .stuck)
    | _ => .stuck
def kSub1 (G : GE) (b : E) (d : D) (env : Env) (x : D) (s1 : Store) : R Env := (evalE G b env s1).bind (kSub2 G d env x)
theorem kSub1_app {b : E} {d x : D} : kSub1 G b d env x s = (evalE G b env s).bind (kSub2 G d env x) := rfl
theorem t_sub {a b : E} {d : D} : storeT G (.sub a b) d env s = (evalE G a env s).bind (kSub1 G b d env) := by simp only [storeT] <;> rfl
theorem kSub2_lst {d : D} {k j : Nat} {z : Int} {xs : List D} (h : s.f k = .lst xs) (hj : ixN xs.length z = some j) : kSub2 G d env (.cell k) (.int z) s = .ok env (s.set k (.lst (xs.set j d))) := by
  unfold kSub2; simp only [h, hj]
theorem kSub2_dct {d i : D} {k : Nat} {kvs : List (D × D)} (h : s.f k = .dct kvs) (hk : keyD i = true) (hl : kvs.length < LIM) : kSub2 G d env (.cell k) i s = .ok env (s.set k (.dct (putD G.tg i d kvs))) := by
  unfold kSub2; simp only [h, if_pos (And.intro hk hl)]
def kTs (G : GE) (ts : List Tg) (ds : List D) (env1 : Env) (s1 : Store) : R Env := storeTs G ts ds env1 s1
theorem kTs_app {ts : List Tg} {ds : List D} : kTs G ts ds env s = storeTs G ts ds env s := rfl
theorem ts_nil : storeTs G [] [] env s = .ok env s := by simp only [storeTs]
theorem ts_cons {t : Tg} {ts : List Tg} {d : D} {ds : List D} : storeTs G (t :: ts) (d :: ds) env s = (storeT G t d env s).bind (kTs G ts ds) := by simp only [storeTs] <;> rfl
def kNx (env : Env) (s : Store) : R F := .ok (.nx env) s
theorem kNx_app : kNx env s = .ok (.nx env) s := rfl
def kAsg (G : GE) (t : Tg) (env : Env) (d : D) (s : Store) : R F := (storeT G t d env s).bind kNx
theorem kAsg_app {t : Tg} {d : D} : kAsg G t env d s = (storeT G t d env s).bind kNx := rfl
theorem s_asg {t : Tg} {e : E} : evalS G (.asg t e) env s = (evalE G e env s).bind (kAsg G t env) := by simp only [evalS] <;> rfl
def kAsgT (G : GE) (ts : List Tg) (env : Env) (d : D) (s1 : Store) : R F := match deref s1 d with
    | .tup ds => if ds.length = ts.length then (storeTs G ts ds env s1).bind kNx else .stuck
    | .lst ds => if ds.length = ts.length then (storeTs G ts ds env s1).bind kNx else .stuck
    | _ => .stuck
theorem kAsgT_tup {ts : List Tg} {ds : List D} (h : ds.length = ts.length) : kAsgT G ts env (.tup ds) s = (storeTs G ts ds env s).bind kNx := by
  unfold kAsgT; simp only [qdr_tupl, if_pos h]
theorem s_asgT {ts : List Tg} {e : E} : evalS G (.asgT ts e) env s = (evalE G e env s).bind (kAsgT G ts env) := by simp only [evalS] <;> rfl
def kEx (env : Env) (_ : D) (s : Store) : R F := .ok (.nx env) s
theorem kEx_app {d : D} : kEx env d s = .ok (.nx env) s := rfl
theorem s_ex {e : E} : evalS G (.ex e) env s = (evalE G e env s).bind (kEx env) := by simp only [evalS] <;> rfl
def kRet (d : D) (s : Store) : R F := .ok (.rt d) s
theorem kRet_app {d : D} : kRet d s = .ok (.rt d) s := rfl
theorem s_ret {e : E} : evalS G (.ret e) env s = (evalE G e env s).bind kRet := by simp only [evalS] <;> rfl
theorem s_retN : evalS G .retN env s = .ok (.rt .non) s := by simp only [evalS]
theorem s_pass : evalS G .pass env s = .ok (.nx env) s := by simp only [evalS]
def tS (G : GE) (a : Ss) (env : Env) (s : Store) : R F := evalSs G a env s
theorem tS_app {a : Ss} : tS G a env s = evalSs G a env s := rfl
def kIf (G : GE) (a b : Ss) (env : Env) (x : D) (s : Store) : R F := boolK x s (tS G a env) (tS G b env)
theorem kIf_app {a b : Ss} {x : D} : kIf G a b env x s = boolK x s (tS G a env) (tS G b env) := rfl
theorem s_ite {c : E} {a b : Ss} : evalS G (.ite c a b) env s = (evalE G c env s).bind (kIf G a b env) := by simp only [evalS] <;> rfl
theorem s_whl {c : E} {b : Ss} : evalS G (.whl c b) env s = whlL (evalE G c) (evalSs G b) G.W env s := by simp only [evalS]
def forK (G : GE) (t : CT) (b : Ss) (env : Env) (x : D) (o : Option (List D)) (s : Store) : R F := match o with
  | some xs => forL (bindC t) (evalSs G b) xs env s
  | none => (match x with
    | .cell k => forC (bindC t) (evalSs G b) k G.W 0 env s
    | _ => .stuck)
theorem forK_some {t : CT} {b : Ss} {x : D} {xs : List D} : forK G t b env x (some xs) s = forL (bindC t) (evalSs G b) xs env s := rfl
theorem forK_cell {t : CT} {b : Ss} {k : Nat} : forK G t b env (.cell k) none s = forC (bindC t) (evalSs G b) k G.W 0 env s := rfl
def kFor (G : GE) (t : CT) (b : Ss) (env : Env) (x : D) (s : Store) : R F := forK G t b env x (itemsOf x) s
theorem kFor_app {t : CT} {b : Ss} {x : D} : kFor G t b env x s = forK G t b env x (itemsOf x) s := rfl
theorem s_for {t : CT} {it : E} {b : Ss} : evalS G (.for_ t it b) env s = (evalE G it env s).bind (kFor G t b env) := by
  simp only [evalS]
  congr 1
def seqK (G : GE) (as : Ss) (f : F) (s : Store) : R F := match f with
  | .nx env1 => evalSs G as env1 s
  | .rt d => .ok (.rt d) s
theorem seqK_nx {as : Ss} : seqK G as (.nx env) s = evalSs G as env s := rfl
theorem seqK_rt {as : Ss} {d : D} : seqK G as (.rt d) s = .ok (.rt d) s := rfl
theorem ss_nil : evalSs G .nil env s = .ok (.nx env) s := by simp only [evalSs]
theorem ss_cons {a : S} {as : Ss} : evalSs G (.cons a as) env s = (evalS G a env s).bind (seqK G as) := by simp only [evalSs] <;> rfl
def finK (f : F) (s : Store) : R D := match f with
  | .rt d => .ok d s
  | .nx _ => .ok .non s
theorem finK_rt {d : D} : finK (.rt d) s = .ok d s := rfl
theorem finK_nx : finK (.nx env) s = .ok .non s := rfl
theorem run_at {tb : Tab} {W m f : Nat} {ds : List D} {x : Fn} (hf : tb.fns f = some x) (hp : ds.length = x.pars) : Run tb W (m + 2) f ds s = (evalSs (GG tb W m) x.code (startE x.slots ds) s).bind finK := by
  rw [run2, hf]
  simp only [runB, if_pos hp]
  rfl
theorem fn_app {tb : Tab} {W m f : Nat} {ds : List D} : (GG tb W m).fn f ds s = Run tb W (m + 1) f ds s := rfl
theorem mkf_app {tb : Tab} {W m f : Nat} {ds : List D} : (GG tb W m).mkf f ds s = Run tb W m f ds s := rfl
def forK1 (g : D → Env → Option Env) (b : Env → Store → R F) (xs : List D) (f : F) (s : Store) : R F := match f with
  | .nx env2 => forL g b xs env2 s
  | .rt d => .ok (.rt d) s
theorem forK1_nx {g : D → Env → Option Env} {b : Env → Store → R F} {xs : List D} : forK1 g b xs (.nx env) s = forL g b xs env s := rfl
theorem forK1_rt {g : D → Env → Option Env} {b : Env → Store → R F} {xs : List D} {d : D} : forK1 g b xs (.rt d) s = .ok (.rt d) s := rfl
theorem for_nil {g : D → Env → Option Env} {b : Env → Store → R F} : forL g b [] env s = .ok (.nx env) s := rfl
theorem for_cons {g : D → Env → Option Env} {b : Env → Store → R F} {x : D} {xs : List D} {env1 : Env} (h : g x env = some env1) : forL g b (x :: xs) env s = (b env1 s).bind (forK1 g b xs) := by
  simp only [forL, h] <;> rfl
def whK2 (c : Env → Store → R D) (b : Env → Store → R F) (n : Nat) (f : F) (s : Store) : R F := match f with
  | .nx env2 => whlL c b n env2 s
  | .rt d => .ok (.rt d) s
theorem whK2_nx {c : Env → Store → R D} {b : Env → Store → R F} {n : Nat} : whK2 c b n (.nx env) s = whlL c b n env s := rfl
theorem whK2_rt {c : Env → Store → R D} {b : Env → Store → R F} {n : Nat} {d : D} : whK2 c b n (.rt d) s = .ok (.rt d) s := rfl
def whT (c : Env → Store → R D) (b : Env → Store → R F) (n : Nat) (env : Env) (s : Store) : R F := (b env s).bind (whK2 c b n)
theorem whT_app {c : Env → Store → R D} {b : Env → Store → R F} {n : Nat} : whT c b n env s = (b env s).bind (whK2 c b n) := rfl
def whE (env : Env) (s : Store) : R F := .ok (.nx env) s
theorem whE_app : whE env s = .ok (.nx env) s := rfl
def whK1 (c : Env → Store → R D) (b : Env → Store → R F) (n : Nat) (env : Env) (x : D) (s : Store) : R F := boolK x s (whT c b n env) (whE env)
theorem whK1_app {c : Env → Store → R D} {b : Env → Store → R F} {n : Nat} {x : D} : whK1 c b n env x s = boolK x s (whT c b n env) (whE env) := rfl
theorem wh_succ {c : Env → Store → R D} {b : Env → Store → R F} {n : Nat} : whlL c b (n + 1) env s = (c env s).bind (whK1 c b n env) := by
  simp only [whlL] <;> rfl
theorem comp_nil {g : D → Option Env} {c e : Env → Store → R D} : compL g c e [] s = .ok [] s := rfl
theorem bindC_name {i : Nat} {d : D} : bindC (.name i) d env = some (env.set i (some d)) := rfl
end
/-! values -/
section
variable {T : List Str} {s : Store}
theorem len_tup {c : Bool} {xs : List D} : bltV T .len c [.tup xs] s = .ok (.int xs.length) s := rfl
theorem len_lst {c : Bool} {xs : List D} : bltV T .len c [.lst xs] s = .ok (.int xs.length) s := rfl
theorem len_frz {c : Bool} {xs : List D} : bltV T .len c [.frz xs] s = .ok (.int xs.length) s := rfl
theorem len_cell {c : Bool} {k : Nat} {xs : List D} (h : s.f k = .lst xs) : bltV T .len c [.cell k] s = .ok (.int xs.length) s := by simp only [bltV, deref, h]
theorem idx_tup {xs : List D} {k : Int} {v : D} (h : atI xs k = some v) : idxV T (.tup xs) (.int k) s = .ok v s := by simp only [idxV, qdr_tupl, h]
theorem idx_lst {xs : List D} {k : Int} {v : D} (h : atI xs k = some v) : idxV T (.lst xs) (.int k) s = .ok v s := by simp only [idxV, qdr_list, h]
theorem idx_frz {xs : List D} {k : Int} {v : D} (h : atI xs k = some v) : idxV T (.frz xs) (.int k) s = .ok v s := by simp only [idxV, qdr_frz, h]
theorem idx_cell {xs : List D} {k : Int} {v : D} {c : Nat} (hc : s.f c = .lst xs) (h : atI xs k = some v) : idxV T (.cell c) (.int k) s = .ok v s := by simp only [idxV, deref, hc, h]
theorem idx_kdt {kvs : List (D × D)} {n : Nat} {v : D} (hn : n < T.length) (h : lookD T (.tag n) kvs = some v) : idxV T (.kdt kvs) (.tag n) s = .ok v s := by simp only [idxV, qdr_kdt, if_pos hn, h]
theorem cop_lt {i j : Int} : copV T .lt (.int i) (.int j) s = .ok (.bl (decide (i < j))) s := rfl
theorem cop_le {i j : Int} : copV T .le (.int i) (.int j) s = .ok (.bl (decide (i ≤ j))) s := rfl
theorem cop_gt {i j : Int} : copV T .gt (.int i) (.int j) s = .ok (.bl (decide (j < i))) s := rfl
theorem cop_ge {i j : Int} : copV T .ge (.int i) (.int j) s = .ok (.bl (decide (j ≤ i))) s := rfl
theorem cop_eq {x y : D} : copV T .eq x y s = eqV' T false x y s := rfl
theorem cop_ne {x y : D} : copV T .ne x y s = eqV' T true x y s := rfl
theorem cop_in {x y : D} : copV T .in_ x y s = inV' T false x y s := rfl
theorem cop_nin {x y : D} : copV T .notin x y s = inV' T true x y s := rfl
theorem cop_is {x : D} : copV T .is_ x .non s = .ok (.bl (isNonD x)) s := rfl
theorem cop_isn {x : D} : copV T .isnot x .non s = .ok (.bl (!isNonD x)) s := rfl
theorem add_ii {c : Bool} {i j : Int} : bopV T .add c (.int i) (.int j) s = .ok (.int (i + j)) s := rfl
theorem sub_ii {c : Bool} {i j : Int} : bopV T .sub c (.int i) (.int j) s = .ok (.int (i - j)) s := rfl
theorem mod_ii {c : Bool} {i j : Int} (h : 0 < j) : bopV T .mod c (.int i) (.int j) s = .ok (.int (i % j)) s := by simp only [bopV, if_pos h]
theorem fdiv_ii {c : Bool} {i j : Int} (h : 0 < j ∧ j < 1073741824) : bopV T .fdiv c (.int i) (.int j) s = .ok (.int (i / j)) s := by simp only [bopV, if_pos h]
theorem pow_ii {c : Bool} {i j : Int} (h : 0 ≤ j ∧ j ≤ 1000000 ∧ i.natAbs < 2 ^ 64) : bopV T .pow c (.int i) (.int j) s = .ok (.int (i ^ j.toNat)) s := by simp only [bopV, if_pos h]
theorem mul_ii {c : Bool} {i j : Int} (h : (-(2 ^ 64) < i ∧ i < 2 ^ 64) ∨ (-(2 ^ 64) < j ∧ j < 2 ^ 64)) : bopV T .mul c (.int i) (.int j) s = .ok (.int (i * j)) s := by
  simp only [bopV, mulV, qdr_int, if_pos h]
theorem add_ll {c : Bool} {xs ys : List D} (h : xs.length + ys.length ≤ LIM) : bopV T .add c (.lst xs) (.lst ys) s = newL c (xs ++ ys) s := by
  simp only [bopV, addV, qdr_list, if_pos h]
theorem add_tt {c : Bool} {xs ys : List D} (h : xs.length + ys.length ≤ LIM) : bopV T .add c (.tup xs) (.tup ys) s = .ok (.tup (xs ++ ys)) s := by
  simp only [bopV, addV, qdr_tupl, if_pos h]
theorem newL_f {xs : List D} : newL false xs s = .ok (.lst xs) s := rfl
theorem newL_t {xs : List D} : newL true xs s = .ok (.cell s.n) (s.new (.lst xs)) := rfl
theorem items_lst {xs : List D} : itemsOf (.lst xs) = some xs := rfl
theorem items_tup {xs : List D} : itemsOf (.tup xs) = some xs := rfl
theorem in_tup {neg : Bool} {x : D} {ys : List D} (h : flatD x = true ∧ ys.all flatD = true) : inV' T neg x (.tup ys) s = .ok (.bl (xor neg (ys.any fun y => eqvD T y x))) s := by simp only [inV', qdr_tupl, if_pos h]
theorem in_kdt {neg : Bool} {m : Nat} {kvs : List (D × D)} (h : m < T.length) : inV' T neg (.tag m) (.kdt kvs) s = .ok (.bl (xor neg (lookD T (.tag m) kvs).isSome)) s := by simp only [inV', qdr_kdt, if_pos h]
theorem int_bl {c b : Bool} : bltV T .int_ c [.bl b] s = .ok (.int (b2z b)) s := rfl
theorem int_int {c : Bool} {i : Int} : bltV T .int_ c [.int i] s = .ok (.int i) s := rfl
theorem eqv_tag {i j : Nat} : eqvD T (.tag i) (.tag j) = (i == j) := by simp only [eqvD]
theorem flat_tag {i : Nat} : flatD (.tag i) = true := rfl
theorem tup_lst {c : Bool} {xs : List D} : bltV T .tuple_ c [.lst xs] s = .ok (.tup xs) s := rfl
theorem tup_cell {c : Bool} {k : Nat} {xs : List D} (h : s.f k = .lst xs) : bltV T .tuple_ c [.cell k] s = .ok (.tup xs) s := by simp only [bltV, deref, h]
theorem list_lst {c : Bool} {xs : List D} : bltV T .list_ c [.lst xs] s = newL c xs s := rfl
theorem list_tup {c : Bool} {xs : List D} : bltV T .list_ c [.tup xs] s = newL c xs s := rfl
theorem list_cell {c : Bool} {k : Nat} {xs : List D} (h : s.f k = .lst xs) : bltV T .list_ c [.cell k] s = newL c xs s := by simp only [bltV, deref, h]
theorem rng_ok {j : Int} (h : -(LIM : Int) ≤ j ∧ j ≤ (LIM : Int)) : rngV (.int j) s = .ok (.lst ((List.range j.toNat).map fun (i : Nat) => .int (i : Int))) s := by simp only [rngV, if_pos h]
end
/-! comprehensions -/
section
variable {G : GE} {g : D → Option Env} {c e : Env → Store → R D} {s : Store}
/-- all items pass, deterministic, no change -/
theorem comp_all {α : Type} {xs : List α} {d f : α → D} (h : ∀ x ∈ xs, ∃ env1, g (d x) = some env1 ∧ c env1 s = .ok (.bl true) s ∧ e env1 s = .ok (f x) s) : compL g c e (xs.map d) s = .ok (xs.map f) s := by
  induction xs with
  | nil => rfl
  | cons x xs ih =>
    obtain ⟨env1, h1, h2, h3⟩ := h x List.mem_cons_self
    simp only [List.map_cons, compL, h1, h2, h3, R.noexc, R.bind_ok, boolK_t]
    rw [ih fun y hy => h y (List.mem_cons_of_mem _ hy)]
    rfl
theorem comp_none {xs : List D} (h : ∀ x ∈ xs, ∃ env1, g x = some env1 ∧ c env1 s = .ok (.bl false) s) : compL g c e xs s = .ok [] s := by
  induction xs with
  | nil => rfl
  | cons x xs ih =>
    obtain ⟨env1, h1, h2⟩ := h x List.mem_cons_self
    simp only [compL, h1, h2, R.noexc, R.bind_ok, boolK_f]
    exact ih fun y hy => h y (List.mem_cons_of_mem _ hy)
end
/-! cells -/
section
variable {T : List Str} {G : GE} {s : Store} {env : Env}
def oK (o : Option D) (s : Store) : R D := match o with
  | some v => .ok v s
  | none => .stuck
theorem oK_some {v : D} : oK (some v) s = .ok v s := rfl
def idxC (T : List Str) (c : Cell) (i : Int) (s : Store) : R D := match c with
  | .lst xs => oK (atI xs i) s
  | .dct kvs => oK (lookD T (.int i) kvs) s
  | _ => .stuck
theorem idx_c {k : Nat} {i : Int} : idxV T (.cell k) (.int i) s = idxC T (s.f k) i s := by
  unfold idxV idxC deref
  cases h : s.f k with
  | lst xs => simp only [h]; cases atI xs i <;> rfl
  | dct kvs => simp only [h, keyD]; cases lookD T (.int i) kvs <;> rfl
  | _ => simp only [h]
theorem idxC_lst {xs : List D} {i : Int} : idxC T (.lst xs) i s = oK (atI xs i) s := rfl
def lenC (c : Cell) (s : Store) : R D := match c with
  | .lst xs => .ok (.int xs.length) s
  | _ => .stuck
theorem len_c {c : Bool} {k : Nat} : bltV T .len c [.cell k] s = lenC (s.f k) s := by
  unfold bltV lenC deref
  cases h : s.f k <;> simp only [h]
theorem lenC_lst {xs : List D} : lenC (.lst xs) s = .ok (.int xs.length) s := rfl
def subO (d : D) (env : Env) (k : Nat) (xs : List D) (o : Option Nat) (s : Store) : R Env := match o with
  | some j => .ok env (s.set k (.lst (xs.set j d)))
  | none => .stuck
theorem subO_some {d : D} {k j : Nat} {xs : List D} : subO d env k xs (some j) s = .ok env (s.set k (.lst (xs.set j d))) := rfl
def subC (G : GE) (d : D) (env : Env) (k : Nat) (z : Int) (c : Cell) (s : Store) : R Env := match c with
  | .lst xs => subO d env k xs (ixN xs.length z) s
  | .dct kvs => if kvs.length < LIM then .ok env (s.set k (.dct (putD G.tg (.int z) d kvs))) else .stuck
  | _ => .stuck
theorem kSub2_c {d : D} {k : Nat} {z : Int} : kSub2 G d env (.cell k) (.int z) s = subC G d env k z (s.f k) s := by
  unfold kSub2 subC
  cases h : s.f k with
  | lst xs => simp only [h]; unfold subO; cases ixN xs.length z <;> rfl
  | dct kvs => simp only [h, keyD, true_and]
  | _ => simp only [h]
theorem subC_lst {d : D} {k : Nat} {z : Int} {xs : List D} : subC G d env k z (.lst xs) s = subO d env k xs (ixN xs.length z) s := rfl
def appC (k : Nat) (v : D) (c : Cell) (s : Store) : R D := match c with
  | .lst xs => if xs.length < LIM then .ok .non (s.set k (.lst (xs ++ [v]))) else .stuck
  | _ => .stuck
theorem app_c {k : Nat} {v : D} : bmtV T .append (.cell k) [v] s = appC k v (s.f k) s := by
  unfold bmtV appC
  cases h : s.f k <;> simp only [h]
theorem appC_lst {k : Nat} {v : D} {xs : List D} (h : xs.length < LIM) : appC k v (.lst xs) s = .ok .non (s.set k (.lst (xs ++ [v]))) := by simp only [appC, if_pos h]
def isL (c : Cell) : Bool := match c with
  | .lst _ => true
  | _ => false
theorem isL_lst {xs : List D} : isL (.lst xs) = true := rfl
theorem recv_app {k : Nat} : recvOk .append (.cell k) s = isL (s.f k) := by unfold recvOk deref isL; cases h : s.f k <;> simp only [h]
theorem recv_pop0 {k : Nat} : recvOk .pop0 (.cell k) s = isL (s.f k) := by unfold recvOk deref isL; cases h : s.f k <;> simp only [h]
theorem recv_ext {k : Nat} : recvOk .extend (.cell k) s = isL (s.f k) := by unfold recvOk deref isL; cases h : s.f k <;> simp only [h]
def popC (k : Nat) (c : Cell) (s : Store) : R D := match c with
  | .lst xs => (match xs[xs.length - 1]? with
    | some v => .ok v (s.set k (.lst xs.dropLast))
    | none => .stuck)
  | _ => .stuck
theorem pop_c {k : Nat} : bmtV T .pop0 (.cell k) [] s = popC k (s.f k) s := by
  unfold bmtV popC
  cases h : s.f k <;> simp only [h] <;> rfl
theorem popC_lst {k : Nat} {v : D} {xs : List D} : popC k (.lst (xs ++ [v])) s = .ok v (s.set k (.lst xs)) := by simp [popC]
def lookK (o : Option D) (s : Store) : R D := oK o s
def fldC (f : Nat) (c : Cell) (s : Store) : R D := match c with
  | .ins _ fs => oK (lookN f fs) s
  | _ => .stuck
theorem fld_c {f k : Nat} : fldV f (.cell k) s = fldC f (s.f k) s := by
  unfold fldV fldC
  cases h : s.f k with
  | ins c fs => simp only [h]; cases lookN f fs <;> rfl
  | _ => simp only [h]
theorem fldC_ins {f c : Nat} {fs : List (Nat × D)} : fldC f (.ins c fs) s = oK (lookN f fs) s := rfl
def fldS (f : Nat) (d : D) (env : Env) (k : Nat) (c : Cell) (s : Store) : R Env := match c with
  | .ins c fs => if fs.length < 900 then .ok env (s.set k (.ins c (putN f d fs))) else .stuck
  | _ => .stuck
theorem kFld_c {f k : Nat} {d : D} : kFld f d env (.cell k) s = fldS f d env k (s.f k) s := by
  unfold kFld fldS
  cases h : s.f k <;> simp only [h]
theorem fldS_ins {f k c : Nat} {d : D} {fs : List (Nat × D)} (h : fs.length < 900) : fldS f d env k (.ins c fs) s = .ok env (s.set k (.ins c (putN f d fs))) := by simp only [fldS, if_pos h]
def tupC (c : Cell) (s : Store) : R D := match c with
  | .lst xs => .ok (.tup xs) s
  | _ => .stuck
theorem tup_c {c : Bool} {k : Nat} : bltV T .tuple_ c [.cell k] s = tupC (s.f k) s := by
  unfold bltV tupC deref
  cases h : s.f k <;> simp only [h]
theorem tupC_lst {xs : List D} : tupC (.lst xs) s = .ok (.tup xs) s := rfl
def frzC (k : Nat) (c : Cell) (s : Store) : R D := match c with
  | .lst xs => .ok (.lst xs) (s.set k .dead)
  | _ => .stuck
theorem frz_c {k : Nat} : frzV (.cell k) s = frzC k (s.f k) s := by unfold frzV frzC; cases h : s.f k <;> simp only [h]
theorem frzC_lst {k : Nat} {xs : List D} : frzC k (.lst xs) s = .ok (.lst xs) (s.set k .dead) := rfl
def mthC (G : GE) (m k : Nat) (c : Cell) : Option (Nat × Nat) := match c with
  | .ins c _ => (G.mt c m).map fun f => (k, f)
  | _ => none
theorem mth_c {m k : Nat} : mthV G m (.cell k) s = mthC G m k (s.f k) := by unfold mthV mthC; cases h : s.f k <;> simp only [h]
theorem mthC_ins {m k c : Nat} {fs : List (Nat × D)} : mthC G m k (.ins c fs) = (G.mt c m).map fun f => (k, f) := rfl
theorem set_same {k : Nat} {c : Cell} : (s.set k c).f k = c := if_pos rfl
theorem set_ne {j k : Nat} {c : Cell} (h : j ≠ k) : (s.set k c).f j = s.f j := if_neg h
theorem set_n {k : Nat} {c : Cell} : (s.set k c).n = s.n := rfl
theorem new_n {c : Cell} : (s.new c).n = s.n + 1 := rfl
theorem new_same {c : Cell} : (s.new c).f s.n = c := if_pos rfl
theorem new_ne {k : Nat} {c : Cell} (h : k ≠ s.n) : (s.new c).f k = s.f k := if_neg h
theorem set_set {k : Nat} {c c' : Cell} : (s.set k c).set k c' = s.set k c' := by
  unfold Store.set
  congr 1
  funext i
  simp only
  split <;> rfl
end
section
variable {s : Store}
theorem set_f {j k : Nat} {c : Cell} : (s.set k c).f j = if j = k then c else s.f j := rfl
theorem new_f {j : Nat} {c : Cell} : (s.new c).f j = if j = s.n then c else s.f j := rfl
theorem set_self {k : Nat} : s.set k (s.f k) = s := by
  cases s with
  | mk n f =>
    unfold Store.set
    congr 1
    funext i
    simp only
    split
    · rename_i h; rw [h]
    · rfl
theorem set_new {k : Nat} {c d : Cell} (h : k ≠ s.n) : (s.set k c).new d = (s.new d).set k c := by
  unfold Store.set Store.new
  congr 1
  funext i
  simp only
  by_cases e : i = s.n
  · subst e; rw [if_pos rfl, if_neg (Ne.symm h), if_pos rfl]
  · rw [if_neg e, if_neg e]
theorem newLt {xs : List D} : newL true xs s = .ok (.cell s.n) (s.new (.lst xs)) := rfl
/-- all but P is kept -/
def Chg (P : Nat → Prop) (s s' : Store) : Prop := s.n ≤ s'.n ∧ ∀ k, k < s.n → ¬ P k → s'.f k = s.f k
theorem Chg.refl {P : Nat → Prop} (s : Store) : Chg P s s := ⟨Nat.le_refl _, fun _ _ _ => rfl⟩
theorem Chg.trans {P : Nat → Prop} {s1 s2 s3 : Store} (a : Chg P s1 s2) (b : Chg P s2 s3) : Chg P s1 s3 :=
  ⟨Nat.le_trans a.1 b.1, fun k h n => (b.2 k (Nat.lt_of_lt_of_le h a.1) n).trans (a.2 k h n)⟩
theorem Chg.imp {P P' : Nat → Prop} {s1 s2 : Store} (a : Chg P s1 s2) (h : ∀ k, P k → P' k) : Chg P' s1 s2 := ⟨a.1, fun k hk hn => a.2 k hk fun q => hn (h k q)⟩
theorem Chg.set {P : Nat → Prop} {k : Nat} {c : Cell} (h : P k) : Chg P s (s.set k c) := ⟨Nat.le_refl _, fun j _ hn => if_neg fun e => hn (by rw [e]; exact h)⟩
theorem Chg.new {P : Nat → Prop} {c : Cell} : Chg P s (s.new c) := ⟨Nat.le_succ _, fun j hj _ => if_neg (Nat.ne_of_lt hj)⟩
/-- a new cell's change is none of ours -/
theorem Chg.setNew {P : Nat → Prop} {s0 s1 : Store} {k : Nat} {c : Cell} (a : Chg P s0 s1) (h : s0.n ≤ k) : Chg P s0 (s1.set k c) :=
  ⟨a.1, fun j hj hn => by rw [set_f, if_neg (by omega)]; exact a.2 j hj hn⟩
end
section
variable {g : D → Option Env} {c e : Env → Store → R D}
theorem comp_wp {Inv : Store → Prop} {P : D → Prop} {xs : List D} (h : ∀ x ∈ xs, ∀ s, Inv s → ∃ env1, g x = some env1 ∧ c env1 s = .ok (.bl true) s ∧ wp (e env1 s) fun y s1 => P y ∧ Inv s1) {s : Store} (hs : Inv s) :
    wp (compL g c e xs s) fun ys s1 => ys.length = xs.length ∧ (∀ y ∈ ys, P y) ∧ Inv s1 := by
  induction xs generalizing s with
  | nil => exact ⟨rfl, (fun _ h => by cases h), hs⟩
  | cons x xs ih =>
    obtain ⟨env1, h1, h2, h3⟩ := h x List.mem_cons_self s hs
    have e2 : (R.ok (D.bl true) s).noexc = R.ok (D.bl true) s := rfl
    simp only [compL, h1, h2, e2, R.bind_ok, boolK_t]
    rw [wp_bind, wp_noexc]
    refine wp_mono h3 fun y s1 hy => ?_
    rw [wp_bind]
    refine wp_mono (ih (fun z hz => h z (List.mem_cons_of_mem _ hz)) hy.2) fun ys s2 hys => ?_
    rw [wp_ok]
    refine ⟨by simp [hys.1], fun z hz => ?_, hys.2.2⟩
    rcases List.mem_cons.mp hz with rfl | hz
    · exact hy.1
    · exact hys.2.1 z hz
end
theorem for_range_wp {g : D → Env → Option Env} {b : Env → Store → R F} {Inv : Nat → Env → Store → Prop} {N : Nat}
    (step : ∀ k env s, k < N → Inv k env s → ∃ env1, g (.int (k : Int)) env = some env1 ∧ wp (b env1 s) fun f s' => ∃ env2, f = .nx env2 ∧ Inv (k + 1) env2 s') {env : Env} {s : Store} (h0 : Inv 0 env s) :
    wp (forL g b ((List.range N).map fun (i : Nat) => .int (i : Int)) env s) fun f s' => ∃ env2, f = .nx env2 ∧ Inv N env2 s' := by
  have go : ∀ (n k : Nat) (env : Env) (s : Store), k + n = N → Inv k env s → wp (forL g b ((List.range' k n).map fun (i : Nat) => .int (i : Int)) env s) fun f s' => ∃ env2, f = .nx env2 ∧ Inv N env2 s' := by
    intro n
    induction n with
    | zero =>
      intro k env s hk hi
      have : k = N := by omega
      subst this
      exact ⟨env, rfl, hi⟩
    | succ n ih =>
      intro k env s hk hi
      obtain ⟨env1, h1, h2⟩ := step k env s (by omega) hi
      rw [List.range'_succ, List.map_cons, for_cons h1, wp_bindK]
      refine wp_mono h2 ?_
      rintro _ s' ⟨env2, rfl, hi'⟩
      rw [wpK_app, forK1_nx]
      exact ih (k + 1) env2 s' (by omega) hi'
  rw [List.range_eq_range']
  exact go N 0 env s (by omega) h0
section
variable {T : List Str} {s : Store} {a b c d : D} {l : List D}
theorem ixt0 : idxV T (.tup (a :: l)) (.int 0) s = .ok a s := idx_tup at0
theorem ixt1 : idxV T (.tup (a :: b :: l)) (.int 1) s = .ok b s := idx_tup at1
theorem ixt2 : idxV T (.tup (a :: b :: c :: l)) (.int 2) s = .ok c s := idx_tup at2
theorem ixt3 : idxV T (.tup (a :: b :: c :: d :: l)) (.int 3) s = .ok d s := idx_tup at3
theorem ixl0 : idxV T (.lst (a :: l)) (.int 0) s = .ok a s := idx_lst at0
theorem ixl1 : idxV T (.lst (a :: b :: l)) (.int 1) s = .ok b s := idx_lst at1
theorem ixl2 : idxV T (.lst (a :: b :: c :: l)) (.int 2) s = .ok c s := idx_lst at2
theorem ixl3 : idxV T (.lst (a :: b :: c :: d :: l)) (.int 3) s = .ok d s := idx_lst at3
theorem ixm1 : idxV T (.tup [a]) (.int (-1)) s = .ok a s := idx_tup atm1_1
theorem ixm3 : idxV T (.tup [a, b, c]) (.int (-1)) s = .ok c s := idx_tup atm1_3
theorem ixm4 : idxV T (.tup [a, b, c, d]) (.int (-1)) s = .ok d s := idx_tup atm1_4
end
/-! all of it, in one -/
def evA := And.intro @PI.R.bind_ok (And.intro @boolK_t (And.intro @boolK_f (And.intro @vK_some (And.intro @glK_some (And.intro @e_var (And.intro @e_frz (And.intro @e_cst (And.intro @e_glob (And.intro @e_bin (And.intro @kBin1_app (And.intro @kBin2_app (And.intro @e_cmp (And.intro @kCmp1_app (And.intro @kCmp2_app (And.intro @tB_app (And.intro @tE_app (And.intro @tCh_app (And.intro @e_chain (And.intro @kCh1_app (And.intro @kCh2_app (And.intro @kCh3_app (And.intro @e_and (And.intro @kAnd_app (And.intro @e_or (And.intro @kOr_app (And.intro @e_not (And.intro @kNot_bl (And.intro @e_ite (And.intro @kIte_app (And.intro @e_call (And.intro @fn_app (And.intro @mkf_app (And.intro @e_blt (And.intro @kBlt_app (And.intro @e_isi (And.intro @e_mth (And.intro @kMth1_app (And.intro @kMth2_app (And.intro @mthK_some (And.intro @e_bmt (And.intro @kBmt1_app (And.intro @kBmt2_app (And.intro @bmtK_t (And.intro @e_mk (And.intro @kMk1_app (And.intro @mkK_some (And.intro @kMk2_non (And.intro @e_fld (And.intro @e_idx (And.intro @kIdx1_app (And.intro @kIdx2_app (And.intro @e_slc (And.intro @kSl1_app (And.intro @kSl2_app (And.intro @kSl3_app (And.intro @prt_eq (And.intro @kPrt_f (And.intro @kPrt_i (And.intro @e_nop (And.intro @e_tup (And.intro @kTup_app (And.intro @e_lst (And.intro @e_dct (And.intro @kDct_app (And.intro @e_comp (And.intro @kComp_app (And.intro @e_rng (And.intro @kEs1_app (And.intro @kEs2_app (And.intro @es_nil (And.intro @es_cons (And.intro @t_name (And.intro @t_fld (And.intro @t_sub (And.intro @kSub1_app (And.intro @ts_nil (And.intro @ts_cons (And.intro @kTs_app (And.intro @kNx_app (And.intro @kAsg_app (And.intro @s_asg (And.intro @s_asgT (And.intro @s_ex (And.intro @kEx_app (And.intro @s_ret (And.intro @kRet_app (And.intro @s_retN (And.intro @s_pass (And.intro @tS_app (And.intro @kIf_app (And.intro @s_ite (And.intro @s_for (And.intro @kFor_app (And.intro @seqK_nx (And.intro @seqK_rt (And.intro @ss_nil (And.intro @ss_cons (And.intro @finK_rt (And.intro @finK_nx (And.intro @gg_tg (And.intro @gg_gl (And.intro @gg_mt (And.intro @gg_ini (And.intro @gg_W (And.intro @len_tup (And.intro @len_lst (And.intro @len_frz (And.intro @cop_lt (And.intro @cop_le (And.intro @cop_gt (And.intro @cop_ge (And.intro @cop_eq (And.intro @cop_ne (And.intro @cop_in (And.intro @cop_nin (And.intro @cop_is (And.intro @cop_isn (And.intro @add_ii (And.intro @sub_ii (And.intro @newL_f (And.intro @items_lst (And.intro @items_tup (And.intro @int_bl (And.intro @int_int (And.intro @tup_lst (And.intro @forK_some (And.intro @eq_ii (And.intro @ixt0 (And.intro @ixt1 (And.intro @ixt2 (And.intro @ixt3 (And.intro @ixl0 (And.intro @ixl1 (And.intro @ixl2 (And.intro @ixl3 (And.intro @ixm1 (And.intro @ixm3 (And.intro @ixm4 (And.intro @wp_bindK (And.intro @wp_ok (And.intro @wpK_app (And.intro @idx_c (And.intro @idxC_lst (And.intro @oK_some (And.intro @at0 (And.intro @at1 (And.intro @at2 (And.intro @at3 (And.intro @len_c (And.intro @lenC_lst (And.intro @kSub2_c (And.intro @subC_lst (And.intro @subO_some (And.intro @app_c (And.intro @recv_app (And.intro @recv_pop0 (And.intro @recv_ext (And.intro @isL_lst (And.intro @fld_c (And.intro @fldC_ins (And.intro @kFld_c (And.intro @tup_c (And.intro @tupC_lst (And.intro @frz_c (And.intro @frzC_lst (And.intro @mth_c (And.intro @mthC_ins (And.intro @set_same (And.intro @set_n (And.intro @new_n (And.intro @new_same (And.intro @set_set (And.intro @fzK_some (And.intro @pop_c (And.intro @popC_lst (And.intro @e_frzE (And.intro @e_rng3 (And.intro @kR3_app (And.intro @kR3a_app (And.intro @kR3b_app (And.intro @e_tupW (And.intro @kTupW_app (And.intro @tagHd_cons (@s_whl))))))))))))))))))))))))))))))))))))))))))))))))))))))))))))))))))))))))))))))))))))))))))))))))))))))))))))))))))))))))))))))))))))))))))))))))))))))))))))))))))))))))))))))))))))))))
end PI

/-! SQ0: loops and comprehensions, more lemmas. -/
namespace PI
open PySem L2
section
variable {g : D → Option Env} {c e : Env → Store → R D} {s : Store}
theorem comp_filter {α : Type} {xs : List α} {d f : α → D} {p : α → Bool} (h : ∀ x ∈ xs, ∃ env1, g (d x) = some env1 ∧ c env1 s = .ok (.bl (p x)) s ∧ (p x = true → e env1 s = .ok (f x) s)) : compL g c e (xs.map d) s = .ok ((xs.filter p).map f) s := by
  induction xs with
  | nil => rfl
  | cons x xs ih =>
    obtain ⟨env1, h1, h2, h3⟩ := h x List.mem_cons_self
    have ih := ih fun y hy => h y (List.mem_cons_of_mem _ hy)
    cases hp : p x with
    | true =>
      rw [hp] at h2
      simp only [List.map_cons, compL, h1, h2, h3 hp, R.noexc, R.bind_ok, boolK_t, ih, List.filter_cons, hp, if_true]
    | false =>
      rw [hp] at h2
      simp only [List.map_cons, compL, h1, h2, R.noexc, R.bind_ok, boolK_f, ih, List.filter_cons, hp, Bool.false_eq_true, if_false]
/-- items one by one, the store moving along -/
theorem comp_list_wp {α β : Type} {d : α → D} {Inv : List α → List β → Store → Prop} {f : β → D}
    (step : ∀ x rest done s, Inv (x :: rest) done s → ∃ env1, g (d x) = some env1 ∧ c env1 s = .ok (.bl true) s ∧ wp (e env1 s) fun y s1 => ∃ b, y = f b ∧ Inv rest (done ++ [b]) s1) :
    ∀ {xs : List α} {done : List β} {s : Store}, Inv xs done s → wp (compL g c e (xs.map d) s) fun ys s1 => ∃ more, ys = more.map f ∧ Inv [] (done ++ more) s1
  | [], done, s, h => ⟨[], rfl, by rwa [List.append_nil]⟩
  | x :: xs, done, s, h => by
    obtain ⟨env1, h1, h2, h3⟩ := step x xs done s h
    have e2 : (R.ok (D.bl true) s).noexc = R.ok (D.bl true) s := rfl
    simp only [List.map_cons, compL, h1, h2, e2, R.bind_ok, boolK_t]
    rw [wp_bind, wp_noexc]
    refine wp_mono h3 ?_
    rintro y s1 ⟨b, rfl, hb⟩
    rw [wp_bind]
    refine wp_mono (comp_list_wp step hb) ?_
    rintro ys s2 ⟨more, rfl, hm⟩
    rw [wp_ok]
    exact ⟨b :: more, rfl, by rwa [List.append_assoc] at hm⟩
end
section
variable {g : D → Env → Option Env} {b : Env → Store → R F}
theorem for_list_wp {α : Type} {d : α → D} {Inv : List α → Env → Store → Prop} {Post : F → Store → Prop}
    (step : ∀ x rest env s, Inv (x :: rest) env s → ∃ env1, g (d x) env = some env1 ∧ wp (b env1 s) fun f s' => (∃ env2, f = .nx env2 ∧ Inv rest env2 s') ∨ ∃ v, f = .rt v ∧ Post (.rt v) s')
    (fin : ∀ env s, Inv [] env s → Post (.nx env) s) : ∀ {xs : List α} {env : Env} {s : Store}, Inv xs env s → wp (forL g b (xs.map d) env s) Post
  | [], env, s, h => fin env s h
  | x :: xs, env, s, h => by
    obtain ⟨env1, h1, h2⟩ := step x xs env s h
    rw [List.map_cons, for_cons h1, wp_bindK]
    refine wp_mono h2 ?_
    rintro f s' (⟨env2, rfl, hi⟩ | ⟨v, rfl, hp⟩)
    · rw [wpK_app, forK1_nx]
      exact for_list_wp step fin hi
    · rw [wpK_app, forK1_rt]
      exact hp
theorem for_rng_wp {Inv : Nat → Env → Store → Prop} {Post : F → Store → Prop} {N : Nat}
    (step : ∀ k env s, k < N → Inv k env s → ∃ env1, g (.int (k : Int)) env = some env1 ∧ wp (b env1 s) fun f s' => (∃ env2, f = .nx env2 ∧ Inv (k + 1) env2 s') ∨ ∃ v, f = .rt v ∧ Post (.rt v) s')
    (fin : ∀ env s, Inv N env s → Post (.nx env) s) {env : Env} {s : Store} (h0 : Inv 0 env s) :
    wp (forL g b ((List.range N).map fun (i : Nat) => .int (i : Int)) env s) Post := by
  have q := for_list_wp (g := g) (b := b) (d := fun (i : Nat) => D.int (i : Int)) (Inv := fun l env s => ∃ k, k + l.length = N ∧ l = List.range' k l.length ∧ Inv k env s) (Post := Post) (fun x rest env s ⟨k, hk, hl, hi⟩ => ?_) (fun env s ⟨k, hk, hl, hi⟩ => ?_)
    (xs := List.range N) (env := env) (s := s) ⟨0, by simp, by rw [List.length_range, List.range_eq_range'], h0⟩
  · exact q
  · rw [List.length_cons, List.range'_succ] at hl
    obtain ⟨rfl, hr⟩ := List.cons.inj hl
    rw [List.length_cons] at hk
    obtain ⟨env1, h1, h2⟩ := step x env s (by omega) hi
    refine ⟨env1, h1, wp_mono h2 ?_⟩
    rintro f s' (⟨env2, rfl, hi⟩ | h)
    · exact .inl ⟨env2, rfl, x + 1, by omega, hr, hi⟩
    · exact .inr h
  · simp only [List.length_nil, Nat.add_zero] at hk
    subst hk
    exact fin env s hi
theorem whl_wp {c : Env → Store → R D} {Inv : Nat → Env → Store → Prop} {Post : F → Store → Prop}
    (step : ∀ m env s, Inv m env s → wp (c env s) fun x s1 => (x = .bl false ∧ Post (.nx env) s1) ∨ (x = .bl true ∧ wp (b env s1) fun f s2 => (∃ env2 m', f = .nx env2 ∧ m' < m ∧ Inv m' env2 s2) ∨ ∃ v, f = .rt v ∧ Post (.rt v) s2)) :
    ∀ {N m : Nat} {env : Env} {s : Store}, m < N → Inv m env s → wp (whlL c b N env s) Post
  | 0, m, env, s, h, _ => by omega
  | N + 1, m, env, s, h, hi => by
    unfold whlL
    rw [wp_bind]
    refine wp_mono (step m env s hi) ?_
    rintro x s1 (⟨rfl, hp⟩ | ⟨rfl, hb⟩)
    · exact hp
    · rw [boolK_t, wp_bind]
      refine wp_mono hb ?_
      rintro f s2 (⟨env2, m', rfl, hm, hi2⟩ | ⟨v, rfl, hp⟩)
      · exact whl_wp step (by omega) hi2
      · exact hp
end
/-- nothing that there was is changed -/
abbrev Kept (s s' : Store) : Prop := Chg (fun _ => False) s s'
theorem Kept.f {s s' : Store} (h : Kept s s') {k : Nat} (hk : k < s.n) : s'.f k = s.f k := h.2 k hk (fun q => q)
theorem Kept.lt {s s' : Store} (h : Kept s s') {k : Nat} (hk : k < s.n) : k < s'.n := Nat.lt_of_lt_of_le hk h.1
/-- a list, frozen or a cell -/
def IsL (s : Store) (d : D) (xs : List D) : Prop := d = .lst xs ∨ ∃ k, d = .cell k ∧ k < s.n ∧ s.f k = .lst xs
section
variable {T : List Str} {s : Store} {d : D} {xs : List D}
theorem IsL.der (h : IsL s d xs) : deref s d = .lst xs := by
  rcases h with rfl | ⟨k, rfl, _, e⟩
  · rfl
  · simp only [deref, e]
theorem IsL.ix (h : IsL s d xs) {i : Int} {v : D} (e : atI xs i = some v) : idxV T d (.int i) s = .ok v s := by
  rcases h with rfl | ⟨k, rfl, _, e2⟩
  · exact idx_lst e
  · rw [idx_c, e2, idxC_lst, e, oK_some]
theorem IsL.len (h : IsL s d xs) {c : Bool} : bltV T .len c [d] s = .ok (.int xs.length) s := by
  unfold bltV
  simp only [h.der]
theorem IsL.kept {s' : Store} (h : IsL s d xs) (k : Kept s s') : IsL s' d xs := by
  rcases h with rfl | ⟨j, rfl, l, e⟩
  · exact .inl rfl
  · exact .inr ⟨j, rfl, k.lt l, by rw [k.f l]; exact e⟩
/-- a for over a list, frozen or a cell that stays -/
theorem forK_isL {α : Type} {G : GE} {t : CT} {b : Ss} {d0 : α → D} {all : List α} {Inv : List α → Env → Store → Prop} {Post : F → Store → Prop} {env0 : Env} {x : D}
    (hx : IsL s x (all.map d0)) (hW : all.length < G.W) (stay : ∀ l env s', Inv l env s' → IsL s' x (all.map d0))
    (step : ∀ y rest env s, Inv (y :: rest) env s → ∃ env1, bindC t (d0 y) env = some env1 ∧ wp (evalSs G b env1 s) fun f s' => (∃ env2, f = .nx env2 ∧ Inv rest env2 s') ∨ ∃ v, f = .rt v ∧ Post (.rt v) s')
    (fin : ∀ env s, Inv [] env s → Post (.nx env) s) (h0 : Inv all env0 s) : wp (forK G t b env0 x (itemsOf x) s) Post := by
  rcases hx with rfl | ⟨k, rfl, _, _⟩
  · exact for_list_wp step fin h0
  · show wp (forC (bindC t) (evalSs G b) k G.W 0 env0 s) Post
    have go : ∀ (N i : Nat) (env : Env) (s' : Store), all.length - i < N → Inv (all.drop i) env s' → wp (forC (bindC t) (evalSs G b) k N i env s') Post := by
      intro N
      induction N with
      | zero => intro i env s' h _; omega
      | succ N ih =>
        intro i env s' hn hi
        have e' : s'.f k = .lst (all.map d0) := by
          rcases stay _ _ _ hi with q | ⟨j, q, _, e⟩
          · cases q
          · cases q; exact e
        unfold forC
        simp only [e']
        by_cases hl : i < all.length
        · have e1 : (all.map d0)[i]? = some (d0 all[i]) := by rw [List.getElem?_map, List.getElem?_eq_getElem hl]; rfl
          rw [List.drop_eq_getElem_cons hl] at hi
          obtain ⟨env1, h1, h2⟩ := step _ _ _ _ hi
          simp only [e1, h1]
          rw [wp_bind]
          refine wp_mono h2 ?_
          rintro f s'' (⟨env2, rfl, hi2⟩ | ⟨v, rfl, hp⟩)
          · exact ih (i + 1) env2 s'' (by omega) hi2
          · exact hp
        · have e1 : (all.map d0)[i]? = none := List.getElem?_eq_none (by rw [List.length_map]; omega)
          rw [List.drop_eq_nil_of_le (by omega)] at hi
          simp only [e1]
          exact fin _ _ hi
    exact go G.W 0 env0 s (by omega) h0
end
end PI

namespace PI
open PySem
def c0 : Fn := ⟨(.cons (.ite (.and (.cmp .eq (.blt .len false (.cons (.var 0) .nil)) (.cst (.int (2)))) (.cmp .eq (.idx (.var 0) (.cst (.int (0)))) (.cst (.tag 13)))) (.cons (.ret (.chain .le .lt (.cst (.int (0))) (.idx (.var 0) (.cst (.int (1)))) (.glob 0))) .nil) .nil) (.cons (.ite (.and (.cmp .eq (.blt .len false (.cons (.var 0) .nil)) (.cst (.int (2)))) (.cmp .eq (.idx (.var 0) (.cst (.int (0)))) (.cst (.tag 14)))) (.cons (.ret (.chain .le .lt (.cst (.int (0))) (.idx (.var 0) (.cst (.int (1)))) (.var 1))) .nil) .nil) (.cons (.ite (.or (.cmp .ne (.blt .len false (.cons (.var 0) .nil)) (.cst (.int (3)))) (.or (.cmp .notin (.idx (.var 0) (.cst (.int (0)))) (.glob 7)) (.cmp .eq (.var 2) (.cst (.int (0)))))) (.cons (.ret (.cst (.bl false))) .nil) .nil) (.cons (.ret (.and (.call 0 (.cons (.idx (.var 0) (.cst (.int (1)))) (.cons (.var 1) (.cons (.bin .sub false (.var 2) (.cst (.int (1)))) .nil)))) (.call 0 (.cons (.idx (.var 0) (.cst (.int (2)))) (.cons (.var 1) (.cons (.bin .sub false (.var 2) (.cst (.int (1)))) .nil)))))) .nil)))), 3, 3⟩
def c1 : Fn := ⟨(.cons (.ite (.or (.not (.chain .le .lt (.cst (.int (0))) (.var 1) (.blt .len false (.cons (.var 0) .nil)))) (.cmp .ne (.blt .len false (.cons (.var 2) .nil)) (.idx (.idx (.var 0) (.var 1)) (.cst (.int (0)))))) (.cons (.ret (.cst (.bl false))) .nil) .nil) (.cons (.ret (.cmp .eq (.comp false [4] (.name 4) (.var 2) (.not (.call 0 (.cons (.var 4) (.cons (.var 3) (.cons (.glob 6) .nil))))) (.var 4)) (.lst false .nil))) .nil)), 5, 4⟩
def c2 : Fn := ⟨(.cons (.ite (.cmp .eq (.idx (.var 1) (.cst (.int (0)))) (.cst (.tag 10))) (.cons (.asg (.name 3) (.and (.cmp .le (.blt .len false (.cons (.idx (.var 1) (.cst (.int (2)))) .nil)) (.glob 2)) (.call 0 (.cons (.idx (.var 1) (.cst (.int (1)))) (.cons (.var 2) (.cons (.glob 6) .nil)))))) (.cons (.ret (.and (.var 3) (.cmp .eq (.comp false [4] (.name 4) (.idx (.var 1) (.cst (.int (2)))) (.not (.call 0 (.cons (.var 4) (.cons (.var 2) (.cons (.glob 6) .nil))))) (.var 4)) (.lst false .nil)))) .nil)) .nil) (.cons (.ret (.call 1 (.cons (.var 0) (.cons (.idx (.var 1) (.cst (.int (1)))) (.cons (.idx (.var 1) (.cst (.int (2)))) (.cons (.var 2) .nil)))))) .nil)), 5, 3⟩
def c3 : Fn := ⟨(.cons (.ite (.cmp .eq (.idx (.var 0) (.cst (.int (0)))) (.cst (.tag 8))) (.cons (.ret (.lst false (.cons (.idx (.var 0) (.cst (.int (2)))) (.cons (.idx (.var 0) (.cst (.int (3)))) .nil)))) .nil) .nil) (.cons (.ret (.ite (.cmp .in_ (.idx (.var 0) (.cst (.int (0)))) (.tup (.cons (.cst (.tag 7)) (.cons (.cst (.tag 11)) .nil)))) (.lst false (.cons (.idx (.var 0) (.cst (.int (-1)))) .nil)) (.lst false .nil))) .nil)), 1, 1⟩
def c4 : Fn := ⟨(.cons (.ite (.or (.cmp .eq (.blt .len false (.cons (.var 1) .nil)) (.cst (.int (0)))) (.or (.cmp .notin (.idx (.var 1) (.cst (.int (0)))) (.glob 8)) (.or (.cmp .ne (.blt .len false (.cons (.var 1) .nil)) (.idx (.glob 8) (.idx (.var 1) (.cst (.int (0)))))) (.cmp .gt (.var 3) (.glob 5))))) (.cons (.ret (.cst (.bl false))) .nil) .nil) (.cons (.ite (.cmp .in_ (.idx (.var 1) (.cst (.int (0)))) (.tup (.cons (.cst (.tag 9)) (.cons (.cst (.tag 10)) (.cons (.cst (.tag 11)) .nil))))) (.cons (.ite (.not (.call 2 (.cons (.var 0) (.cons (.var 1) (.cons (.var 2) .nil))))) (.cons (.ret (.cst (.bl false))) .nil) .nil) .nil) (.cons (.ite (.not (.call 0 (.cons (.idx (.var 1) (.cst (.int (1)))) (.cons (.var 2) (.cons (.glob 6) .nil))))) (.cons (.ret (.cst (.bl false))) .nil) .nil) .nil)) (.cons (.asg (.name 4) (.bin .add false (.var 2) (.blt .int_ false (.cons (.cmp .eq (.idx (.var 1) (.cst (.int (0)))) (.cst (.tag 11))) .nil)))) (.cons (.ite (.cmp .gt (.var 4) (.glob 3)) (.cons (.ret (.cst (.bl false))) .nil) .nil) (.cons (.ret (.cmp .eq (.comp false [5] (.name 5) (.call 3 (.cons (.var 1) .nil)) (.not (.call 4 (.cons (.var 0) (.cons (.var 5) (.cons (.var 4) (.cons (.bin .add false (.var 3) (.cst (.int (1)))) .nil)))))) (.var 5)) (.lst false .nil))) .nil))))), 6, 4⟩
def c5 : Fn := ⟨(.cons (.ret (.bin .add false (.cst (.int (1))) (.blt .sum false (.cons (.comp false [1] (.name 1) (.call 3 (.cons (.var 0) .nil)) (.cst (.bl true)) (.call 5 (.cons (.var 1) .nil))) .nil)))) .nil), 2, 1⟩
def c6 : Fn := ⟨(.cons (.ite (.not (.chain .le .le (.cst (.int (1))) (.blt .len false (.cons (.var 0) .nil)) (.glob 1))) (.cons .never .nil) .nil) (.cons (.for_ (.name 1) (.rng (.blt .len false (.cons (.var 0) .nil))) (.cons (.asgT [(.name 2), (.name 3)] (.idx (.var 0) (.var 1))) (.cons (.ite (.or (.not (.chain .le .le (.cst (.int (0))) (.var 2) (.glob 2))) (.or (.not (.call 4 (.cons (.var 0) (.cons (.var 3) (.cons (.var 2) (.cons (.cst (.int (0))) .nil)))))) (.cmp .gt (.call 5 (.cons (.var 3) .nil)) (.glob 4)))) (.cons .never .nil) .nil) .nil))) .nil)), 4, 1⟩
def c7 : Fn := ⟨(.cons (.asg (.name 2) (.lst true .nil)) (.cons (.ite (.cmp .in_ (.idx (.var 1) (.cst (.int (0)))) (.tup (.cons (.cst (.tag 9)) (.cons (.cst (.tag 11)) .nil)))) (.cons (.ex (.bmt .append (.var 2) (.cons (.tup (.cons (.idx (.var 1) (.cst (.int (1)))) (.cons (.cmp .eq (.idx (.var 1) (.cst (.int (0)))) (.cst (.tag 11))) .nil))) .nil))) .nil) .nil) (.cons (.ite (.cmp .eq (.idx (.var 1) (.cst (.int (0)))) (.cst (.tag 10))) (.cons (.asg (.name 3) (.comp false [5] (.name 5) (.rng (.blt .len false (.cons (.var 0) .nil))) (.cmp .eq (.idx (.idx (.var 0) (.var 5)) (.cst (.int (0)))) (.blt .len false (.cons (.idx (.var 1) (.cst (.int (2)))) .nil))) (.var 5))) (.cons (.ex (.bmt .extend (.var 2) (.cons (.comp false [5] (.name 5) (.var 3) (.cst (.bl true)) (.tup (.cons (.var 5) (.cons (.cst (.bl false)) .nil)))) .nil))) .nil)) .nil) (.cons (.for_ (.name 4) (.call 3 (.cons (.var 1) .nil)) (.cons (.ex (.bmt .extend (.var 2) (.cons (.call 7 (.cons (.var 0) (.cons (.var 4) .nil))) .nil))) .nil)) (.cons (.ret (.frz 2)) .nil))))), 6, 2⟩
def c8 : Fn := ⟨(.cons (.ret (.comp false [1] (.name 1) (.var 0) (.cst (.bl true)) (.blt .sset false (.cons (.call 7 (.cons (.var 0) (.cons (.idx (.var 1) (.cst (.int (1)))) .nil))) .nil)))) .nil), 2, 1⟩
def c9 : Fn := ⟨(.cons (.ex (.call 6 (.cons (.var 0) .nil))) (.cons (.ret (.call 8 (.cons (.var 0) .nil))) .nil)), 1, 1⟩
def c10 : Fn := ⟨(.cons (.asg (.name 3) (.dct true (.cons (.var 1) (.cons (.lst false .nil) .nil)))) (.cons (.asg (.name 4) (.lst true (.cons (.var 1) .nil))) (.cons (.whl (.and (.cmp .ne (.var 4) (.lst false .nil)) (.cmp .notin (.var 2) (.var 3))) (.cons (.asg (.name 5) (.bmt .popAt (.var 4) (.cons (.cst (.int (0))) .nil))) (.cons (.for_ (.tup [6, 7]) (.idx (.var 0) (.var 5)) (.cons (.ite (.cmp .notin (.var 6) (.var 3)) (.cons (.asg (.sub (.var 3) (.var 6)) (.bin .add false (.idx (.var 3) (.var 5)) (.lst false (.cons (.tup (.cons (.var 5) (.cons (.var 6) (.cons (.var 7) .nil)))) .nil)))) (.cons (.ex (.bmt .append (.var 4) (.cons (.var 6) .nil))) .nil)) .nil) .nil)) .nil))) (.cons (.ret (.bmt .get1 (.var 3) (.cons (.var 2) .nil))) .nil)))), 8, 3⟩
def c11 : Fn := ⟨(.cons (.for_ (.name 1) (.rng (.blt .len false (.cons (.var 0) .nil))) (.cons (.for_ (.tup [2, 3]) (.idx (.var 0) (.var 1)) (.cons (.asg (.name 4) (.ite (.var 3) (.call 10 (.cons (.var 0) (.cons (.var 2) (.cons (.var 1) .nil)))) (.cst .non))) (.cons (.ite (.cmp .isnot (.var 4) (.cst .non)) (.cons (.ret (.bin .add false (.lst false (.cons (.tup (.cons (.var 1) (.cons (.var 2) (.cons (.cst (.bl true)) .nil)))) .nil)) (.var 4))) .nil) .nil) .nil))) .nil)) (.cons (.ret (.cst .non)) .nil)), 5, 1⟩
def c13 : Fn := ⟨(.cons (.ex (.call 6 (.cons (.var 0) .nil))) (.cons (.asg (.name 2) (.call 8 (.cons (.var 0) .nil))) (.cons (.ite (.or (.cmp .eq (.var 1) (.lst false .nil)) (.cmp .eq (.comp false [7] (.name 7) (.var 1) (.idx (.var 7) (.cst (.int (2)))) (.var 7)) (.lst false .nil))) (.cons (.ret (.cst (.bl false))) .nil) .nil) (.cons (.for_ (.name 3) (.rng (.blt .len false (.cons (.var 1) .nil))) (.cons (.asgT [(.name 4), (.name 5), (.name 6)] (.idx (.var 1) (.var 3))) (.cons (.ite (.or (.not (.chain .le .lt (.cst (.int (0))) (.var 4) (.blt .len false (.cons (.var 0) .nil)))) (.cmp .notin (.tup (.cons (.var 5) (.cons (.var 6) .nil))) (.idx (.var 2) (.var 4)))) (.cons (.ret (.cst (.bl false))) .nil) .nil) (.cons (.ite (.cmp .ne (.idx (.idx (.var 1) (.bin .mod false (.bin .add false (.var 3) (.cst (.int (1)))) (.blt .len false (.cons (.var 1) .nil)))) (.cst (.int (0)))) (.var 5)) (.cons (.ret (.cst (.bl false))) .nil) .nil) .nil)))) (.cons (.ret (.cst (.bl true))) .nil))))), 8, 2⟩
def c17 : Fn := ⟨(.cons (.ite (.cmp .eq (.var 0) (.cst (.tag 0))) (.cons (.ret (.bin .mod false (.bin .add false (.var 1) (.var 2)) (.glob 0))) .nil) .nil) (.cons (.ite (.cmp .eq (.var 0) (.cst (.tag 1))) (.cons (.ret (.bin .mod false (.bin .sub false (.var 1) (.var 2)) (.glob 0))) .nil) .nil) (.cons (.ite (.cmp .eq (.var 0) (.cst (.tag 2))) (.cons (.ret (.bin .mod false (.bin .mul false (.var 1) (.var 2)) (.glob 0))) .nil) .nil) (.cons (.ite (.cmp .eq (.var 0) (.cst (.tag 3))) (.cons (.ret (.ite (.cmp .eq (.var 2) (.cst (.int (0)))) (.cst .non) (.bin .fdiv false (.var 1) (.var 2)))) .nil) .nil) (.cons (.ret (.ite (.cmp .eq (.var 0) (.cst (.tag 4))) (.blt .int_ false (.cons (.cmp .lt (.var 1) (.var 2)) .nil)) (.blt .int_ false (.cons (.cmp .eq (.var 1) (.var 2)) .nil)))) .nil))))), 3, 3⟩
def c18 : Fn := ⟨(.cons (.ite (.cmp .eq (.idx (.var 0) (.cst (.int (0)))) (.cst (.tag 13))) (.cons (.ret (.idx (.var 0) (.cst (.int (1))))) .nil) .nil) (.cons (.ite (.cmp .eq (.idx (.var 0) (.cst (.int (0)))) (.cst (.tag 14))) (.cons (.ret (.idx (.var 1) (.idx (.var 0) (.cst (.int (1)))))) .nil) .nil) (.cons (.asg (.name 2) (.call 18 (.cons (.idx (.var 0) (.cst (.int (1)))) (.cons (.var 1) .nil)))) (.cons (.asg (.name 3) (.call 18 (.cons (.idx (.var 0) (.cst (.int (2)))) (.cons (.var 1) .nil)))) (.cons (.ret (.ite (.or (.cmp .is_ (.var 2) (.cst .non)) (.cmp .is_ (.var 3) (.cst .non))) (.cst .non) (.call 17 (.cons (.idx (.var 0) (.cst (.int (0)))) (.cons (.var 2) (.cons (.var 3) .nil)))))) .nil))))), 4, 2⟩
def c19 : Fn := ⟨(.cons (.asg (.name 2) (.comp false [3] (.name 3) (.var 0) (.cst (.bl true)) (.call 18 (.cons (.var 3) (.cons (.var 1) .nil))))) (.cons (.ret (.ite (.cmp .in_ (.cst .non) (.var 2)) (.cst .non) (.var 2))) .nil)), 4, 2⟩
def c20 : Fn := ⟨(.cons (.ite (.or (.not (.chain .le .lt (.cst (.int (0))) (.var 1) (.blt .len false (.cons (.var 0) .nil)))) (.cmp .ne (.blt .len false (.cons (.var 2) .nil)) (.idx (.var 0) (.var 1)))) (.cons .never .nil) .nil) (.cons (.ite (.or (.cmp .ne (.comp false [4] (.name 4) (.var 2) (.not (.chain .le .lt (.cst (.int (0))) (.var 4) (.glob 0))) (.var 4)) (.lst false .nil)) (.not (.chain .le .le (.cst (.int (0))) (.var 3) (.glob 9)))) (.cons .never .nil) .nil) .nil)), 5, 4⟩
def c21 : Fn := ⟨(.cons (.ite (.cmp .ge (.var 1) (.blt .len false (.cons (.var 0) .nil))) (.cons (.ret (.cst (.tag 17))) .nil) .nil) (.cons (.ret (.ite (.cmp .ne (.blt .len false (.cons (.var 2) .nil)) (.idx (.var 0) (.var 1))) (.cst (.tag 18)) (.cst .non))) .nil)), 3, 3⟩
def c22 : Fn := ⟨(.cons (.asg (.fld (.var 0) 0) (.lst true .nil)) (.cons (.asg (.fld (.var 0) 1) (.var 1)) (.cons (.asg (.fld (.var 0) 2) (.cst (.int (0)))) (.cons (.asg (.fld (.var 0) 3) (.cst (.int (0)))) .nil)))), 2, 2⟩
def c23 : Fn := ⟨(.cons (.asg (.fld (.var 0) 1) (.bin .sub false (.fld (.var 0) 1) (.cst (.int (1))))) (.cons (.ret (.cmp .ge (.fld (.var 0) 1) (.cst (.int (0))))) .nil)), 1, 1⟩
def c24 : Fn := ⟨(.cons (.asg (.fld (.var 0) 2) (.bin .add false (.fld (.var 0) 2) (.cst (.int (1))))) (.cons (.asg (.fld (.var 0) 3) (.blt .max2 false (.cons (.fld (.var 0) 3) (.cons (.fld (.var 0) 2) .nil)))) .nil)), 1, 1⟩
def c25 : Fn := ⟨(.cons (.ret (.tup (.cons (.blt .tuple_ false (.cons (.fld (.var 0) 0) .nil)) (.cons (.var 1) (.cons (.fld (.var 0) 3) .nil))))) .nil), 2, 2⟩
def c30 : Fn := ⟨(.cons (.ite (.cmp .eq (.idx (.var 0) (.cst (.int (0)))) (.cst (.tag 13))) (.cons (.ret (.lst false (.cons (.blt .str_ false (.cons (.idx (.var 0) (.cst (.int (1)))) .nil)) .nil))) .nil) .nil) (.cons (.ite (.cmp .eq (.idx (.var 0) (.cst (.int (0)))) (.cst (.tag 14))) (.cons (.ret (.lst false (.cons (.bin .add false (.cst (.tag 20)) (.blt .str_ false (.cons (.idx (.var 0) (.cst (.int (1)))) .nil))) .nil))) .nil) .nil) (.cons (.ret (.bin .add false (.bin .add false (.lst false (.cons (.idx (.var 0) (.cst (.int (0)))) .nil)) (.call 30 (.cons (.idx (.var 0) (.cst (.int (1)))) .nil))) (.call 30 (.cons (.idx (.var 0) (.cst (.int (2)))) .nil)))) .nil))), 1, 1⟩
def c31 : Fn := ⟨(.cons (.asg (.name 1) (.lst true (.cons (.cst (.tag 21)) .nil))) (.cons (.for_ (.name 2) (.var 0) (.cons (.ex (.bmt .extend (.var 1) (.cons (.call 30 (.cons (.var 2) .nil)) .nil))) .nil)) (.cons (.ret (.bin .add false (.var 1) (.lst false (.cons (.cst (.tag 22)) .nil)))) .nil))), 3, 1⟩
def c32 : Fn := ⟨(.cons (.ite (.cmp .in_ (.idx (.var 0) (.cst (.int (0)))) (.tup (.cons (.cst (.tag 9)) (.cons (.cst (.tag 11)) .nil)))) (.cons (.asg (.name 1) (.bin .add true (.lst false (.cons (.idx (.var 0) (.cst (.int (0)))) (.cons (.blt .str_ false (.cons (.idx (.var 0) (.cst (.int (1)))) .nil)) .nil))) (.call 31 (.cons (.idx (.var 0) (.cst (.int (2)))) .nil)))) (.cons (.ret (.bin .add false (.var 1) (.ite (.cmp .eq (.idx (.var 0) (.cst (.int (0)))) (.cst (.tag 11))) (.call 32 (.cons (.idx (.var 0) (.cst (.int (3)))) .nil)) (.lst false .nil)))) .nil)) .nil) (.cons (.asg (.name 1) (.bin .add true (.lst false (.cons (.idx (.var 0) (.cst (.int (0)))) .nil)) (.call 30 (.cons (.idx (.var 0) (.cst (.int (1)))) .nil)))) (.cons (.ite (.cmp .eq (.idx (.var 0) (.cst (.int (0)))) (.cst (.tag 10))) (.cons (.ret (.bin .add false (.var 1) (.call 31 (.cons (.idx (.var 0) (.cst (.int (2)))) .nil)))) .nil) .nil) (.cons (.for_ (.name 2) (.slc false true false (.var 0) (.cst (.int (2))) .nop) (.cons (.ex (.bmt .extend (.var 1) (.cons (.call 32 (.cons (.var 2) .nil)) .nil))) .nil)) (.cons (.ret (.frz 1)) .nil))))), 3, 1⟩
def c33 : Fn := ⟨(.cons (.ex (.call 6 (.cons (.var 0) .nil))) (.cons (.asg (.name 1) (.lst true .nil)) (.cons (.for_ (.tup [2, 3]) (.var 0) (.cons (.ex (.bmt .extend (.var 1) (.cons (.bin .add false (.lst false (.cons (.cst (.tag 24)) (.cons (.blt .str_ false (.cons (.var 2) .nil)) .nil))) (.call 32 (.cons (.var 3) .nil))) .nil))) .nil)) (.cons (.ret (.bmt .join (.cst (.tag 23)) (.cons (.var 1) .nil))) .nil)))), 4, 1⟩
def c34 : Fn := ⟨(.cons (.asg (.fld (.var 0) 5) (.var 1)) (.cons (.asg (.fld (.var 0) 6) (.comp false [3] (.name 3) (.var 1) (.cst (.bl true)) (.idx (.var 3) (.cst (.int (0)))))) (.cons (.asg (.fld (.var 0) 7) (.var 2)) (.cons (.asg (.fld (.var 0) 8) (.lst true .nil)) (.cons (.asg (.fld (.var 0) 9) (.lst false .nil)) (.cons (.asg (.fld (.var 0) 10) (.cst .non)) (.cons (.asg (.fld (.var 0) 11) (.cst .non)) .nil))))))), 4, 3⟩
def c35 : Fn := ⟨(.cons (.ite (.not (.mth 1 (.fld (.var 0) 7) .nil)) (.cons (.asg (.fld (.var 0) 11) (.tup (.cons (.cst (.tag 25)) .nil))) (.cons .retN .nil)) .nil) (.cons (.asg (.fld (.var 0) 9) (.blt .list_ false (.cons (.var 2) .nil))) (.cons (.asg (.fld (.var 0) 10) (.idx (.idx (.fld (.var 0) 5) (.var 1)) (.cst (.int (1))))) .nil))), 3, 3⟩
def c36 : Fn := ⟨(.cons (.asg (.name 1) (.idx (.fld (.var 0) 10) (.cst (.int (0))))) (.cons (.ite (.cmp .in_ (.var 1) (.tup (.cons (.cst (.tag 9)) (.cons (.cst (.tag 11)) .nil)))) (.cons (.asg (.name 2) (.call 19 (.cons (.idx (.fld (.var 0) 10) (.cst (.int (2)))) (.cons (.fld (.var 0) 9) .nil)))) (.cons (.ite (.cmp .is_ (.var 2) (.cst .non)) (.cons (.asg (.fld (.var 0) 11) (.glob 10)) .nil) (.cons (.ite (.cmp .eq (.var 1) (.cst (.tag 9))) (.cons (.ex (.mth 5 (.var 0) (.cons (.idx (.fld (.var 0) 10) (.cst (.int (1)))) (.cons (.var 2) .nil)))) .nil) (.cons (.ex (.bmt .append (.fld (.var 0) 8) (.cons (.tup (.cons (.fld (.var 0) 9) (.cons (.idx (.fld (.var 0) 10) (.cst (.int (3)))) .nil))) .nil))) (.cons (.ex (.mth 2 (.fld (.var 0) 7) .nil)) (.cons (.ex (.mth 5 (.var 0) (.cons (.idx (.fld (.var 0) 10) (.cst (.int (1)))) (.cons (.var 2) .nil)))) .nil)))) .nil)) .nil)) (.cons (.asg (.name 3) (.call 18 (.cons (.idx (.fld (.var 0) 10) (.cst (.int (1)))) (.cons (.fld (.var 0) 9) .nil)))) (.cons (.ite (.cmp .is_ (.var 3) (.cst .non)) (.cons (.asg (.fld (.var 0) 11) (.glob 10)) .nil) (.cons (.ex (.mth 7 (.var 0) (.cons (.var 1) (.cons (.var 3) .nil)))) .nil)) .nil))) .nil)), 4, 1⟩
def c37 : Fn := ⟨(.cons (.ite (.cmp .eq (.var 1) (.cst (.tag 7))) (.cons (.ex (.bmt .append (.fld (.fld (.var 0) 7) 0) (.cons (.var 2) .nil))) (.cons (.asg (.fld (.var 0) 10) (.idx (.fld (.var 0) 10) (.cst (.int (2))))) .nil)) (.cons (.ite (.cmp .eq (.var 1) (.cst (.tag 8))) (.cons (.asg (.fld (.var 0) 10) (.ite (.cmp .ne (.var 2) (.cst (.int (0)))) (.idx (.fld (.var 0) 10) (.cst (.int (2)))) (.idx (.fld (.var 0) 10) (.cst (.int (3)))))) .nil) (.cons (.ite (.cmp .eq (.var 1) (.cst (.tag 10))) (.cons (.ex (.mth 8 (.var 0) (.cons (.var 2) .nil))) .nil) (.cons (.ite (.cmp .eq (.fld (.var 0) 8) (.lst false .nil)) (.cons (.asg (.fld (.var 0) 11) (.tup (.cons (.cst (.tag 6)) (.cons (.var 2) .nil)))) .nil) (.cons (.asgT [(.name 3), (.fld (.var 0) 10)] (.bmt .pop0 (.fld (.var 0) 8) .nil)) (.cons (.asg (.fld (.var 0) 9) (.bin .add false (.var 3) (.lst false (.cons (.var 2) .nil)))) (.cons (.asg (.fld (.fld (.var 0) 7) 2) (.bin .sub false (.fld (.fld (.var 0) 7) 2) (.cst (.int (1))))) .nil)))) .nil)) .nil)) .nil)) .nil), 4, 3⟩
def c38 : Fn := ⟨(.cons (.asg (.name 2) (.call 19 (.cons (.idx (.fld (.var 0) 10) (.cst (.int (2)))) (.cons (.fld (.var 0) 9) .nil)))) (.cons (.asg (.name 3) (.ite (.cmp .is_ (.var 2) (.cst .non)) (.cst .non) (.call 21 (.cons (.fld (.var 0) 6) (.cons (.var 1) (.cons (.var 2) .nil)))))) (.cons (.ite (.cmp .is_ (.var 2) (.cst .non)) (.cons (.asg (.fld (.var 0) 11) (.glob 10)) .nil) (.cons (.ite (.cmp .isnot (.var 3) (.cst .non)) (.cons (.asg (.fld (.var 0) 11) (.tup (.cons (.cst (.tag 12)) (.cons (.var 3) .nil)))) .nil) (.cons (.ex (.mth 5 (.var 0) (.cons (.var 1) (.cons (.var 2) .nil)))) .nil)) .nil)) .nil))), 4, 2⟩
def c39 : Fn := ⟨(.cons (.ex (.call 6 (.cons (.var 0) .nil))) (.cons (.ex (.call 20 (.cons (.comp false [6] (.name 6) (.var 0) (.cst (.bl true)) (.idx (.var 6) (.cst (.int (0))))) (.cons (.var 1) (.cons (.var 2) (.cons (.var 3) .nil)))))) (.cons (.asg (.name 4) (.mk 0 (.cons (.var 3) .nil))) (.cons (.asg (.name 5) (.mk 1 (.cons (.var 0) (.cons (.var 4) .nil)))) (.cons (.ex (.mth 5 (.var 5) (.cons (.var 1) (.cons (.var 2) .nil)))) (.cons (.whl (.cmp .is_ (.fld (.var 5) 11) (.cst .non)) (.cons (.ex (.mth 6 (.var 5) .nil)) .nil)) (.cons (.ret (.mth 3 (.var 4) (.cons (.fld (.var 5) 11) .nil))) .nil))))))), 7, 4⟩
def c43 : Fn := ⟨(.cons (.ite (.cmp .gt (.idx (.var 0) (.cst (.int (3)))) (.cst (.int (0)))) (.cons (.asg (.name 2) (.bin .mod false (.idx (.var 0) (.cst (.int (3)))) (.var 1))) (.cons (.asg (.sub (.var 0) (.cst (.int (3)))) (.bin .fdiv false (.idx (.var 0) (.cst (.int (3)))) (.var 1))) (.cons (.ret (.var 2)) .nil))) .nil) (.cons (.asg (.sub (.var 0) (.cst (.int (1)))) (.bin .add false (.idx (.var 0) (.cst (.int (1)))) (.cst (.int (1))))) (.cons (.ite (.cmp .gt (.idx (.var 0) (.cst (.int (1)))) (.blt .len false (.cons (.idx (.var 0) (.cst (.int (0)))) .nil))) (.cons (.asg (.sub (.var 0) (.cst (.int (2)))) (.bin .mod false (.bin .add false (.bin .mul false (.idx (.var 0) (.cst (.int (2)))) (.cst (.int (48271)))) (.cst (.int (11)))) (.cst (.int (2147483647))))) (.cons (.ret (.bin .mod false (.bin .fdiv false (.idx (.var 0) (.cst (.int (2)))) (.cst (.int (7)))) (.var 1))) .nil)) .nil) (.cons (.asg (.name 3) (.idx (.idx (.var 0) (.cst (.int (0)))) (.bin .sub false (.idx (.var 0) (.cst (.int (1)))) (.cst (.int (1)))))) (.cons (.asg (.sub (.var 0) (.cst (.int (2)))) (.bin .mod false (.bin .add false (.bin .add false (.bin .mul false (.idx (.var 0) (.cst (.int (2)))) (.cst (.int (48271)))) (.var 3)) (.cst (.int (11)))) (.cst (.int (2147483647))))) (.cons (.ite (.cmp .ge (.var 3) (.bin .pow false (.cst (.int (10))) (.cst (.int (18))))) (.cons (.asg (.sub (.var 0) (.cst (.int (3)))) (.bin .fdiv false (.var 3) (.var 1))) .nil) .nil) (.cons (.ret (.bin .mod false (.var 3) (.var 1))) .nil))))))), 4, 2⟩
def c44 : Fn := ⟨(.cons (.ite (.or (.isi (.var 1) [4]) (.isi (.var 1) [3])) (.cons (.ite (.or (.cmp .ne (.isi (.var 0) [4]) (.isi (.var 1) [4])) (.not (.isi (.var 0) [4, 3]))) (.cons (.ret (.cst (.bl false))) .nil) .nil) (.cons (.ite (.cmp .ne (.blt .len false (.cons (.var 0) .nil)) (.blt .len false (.cons (.var 1) .nil))) (.cons (.ret (.cst (.bl false))) .nil) .nil) (.cons (.ret (.cmp .eq (.comp false [2] (.name 2) (.rng (.blt .len false (.cons (.var 1) .nil))) (.not (.call 44 (.cons (.idx (.var 0) (.var 2)) (.cons (.idx (.var 1) (.var 2)) .nil)))) (.var 2)) (.lst false .nil))) .nil))) .nil) (.cons (.ite (.or (.cmp .is_ (.var 1) (.cst .non)) (.cmp .is_ (.var 0) (.cst .non))) (.cons (.ret (.and (.cmp .is_ (.var 1) (.cst .non)) (.cmp .is_ (.var 0) (.cst .non)))) .nil) .nil) (.cons (.ite (.or (.isi (.var 1) [1]) (.isi (.var 0) [1])) (.cons (.ret (.and (.isi (.var 1) [1]) (.and (.isi (.var 0) [1]) (.cmp .eq (.var 0) (.var 1))))) .nil) .nil) (.cons (.ite (.isi (.var 1) [2]) (.cons (.ret (.and (.isi (.var 0) [2]) (.cmp .eq (.var 0) (.var 1)))) .nil) .nil) (.cons (.ret (.and (.isi (.var 0) [0]) (.cmp .eq (.var 0) (.var 1)))) .nil))))), 3, 2⟩
def c45 : Fn := ⟨(.cons (.asg (.name 3) (.call 43 (.cons (.var 0) (.cons (.cst (.int (8))) .nil)))) (.cons (.ite (.and (.cmp .gt (.var 3) (.cst (.int (4)))) (.cmp .gt (.var 2) (.cst (.int (0))))) (.cons (.asg (.name 4) (.idx (.lst false (.cons (.cst (.tag 0)) (.cons (.cst (.tag 1)) (.cons (.cst (.tag 2)) (.cons (.cst (.tag 3)) (.cons (.cst (.tag 4)) (.cons (.cst (.tag 5)) .nil))))))) (.call 43 (.cons (.var 0) (.cons (.cst (.int (6))) .nil))))) (.cons (.ret (.tup (.cons (.var 4) (.cons (.call 45 (.cons (.var 0) (.cons (.var 1) (.cons (.bin .sub false (.var 2) (.cst (.int (1)))) .nil)))) (.cons (.call 45 (.cons (.var 0) (.cons (.var 1) (.cons (.bin .sub false (.var 2) (.cst (.int (1)))) .nil)))) .nil))))) .nil)) .nil) (.cons (.ite (.and (.cmp .gt (.var 3) (.cst (.int (1)))) (.cmp .gt (.var 1) (.cst (.int (0))))) (.cons (.ret (.tup (.cons (.cst (.tag 14)) (.cons (.call 43 (.cons (.var 0) (.cons (.var 1) .nil))) .nil)))) .nil) .nil) (.cons (.ret (.tup (.cons (.cst (.tag 13)) (.cons (.call 43 (.cons (.var 0) (.cons (.idx (.lst false (.cons (.cst (.int (3))) (.cons (.cst (.int (12))) (.cons (.cst (.int (1000))) .nil)))) (.call 43 (.cons (.var 0) (.cons (.cst (.int (3))) .nil)))) .nil))) .nil)))) .nil)))), 5, 3⟩
def c46 : Fn := ⟨(.cons (.asg (.name 3) (.comp true [4] (.name 4) (.rng (.var 2)) (.cst (.bl true)) (.call 45 (.cons (.var 0) (.cons (.var 1) (.cons (.call 43 (.cons (.var 0) (.cons (.cst (.int (4))) .nil))) .nil)))))) (.cons (.ite (.and (.cmp .gt (.var 2) (.cst (.int (0)))) (.and (.cmp .gt (.var 1) (.cst (.int (0)))) (.cmp .gt (.call 43 (.cons (.var 0) (.cons (.cst (.int (4))) .nil))) (.cst (.int (0)))))) (.cons (.asg (.sub (.var 3) (.cst (.int (0)))) (.tup (.cons (.cst (.tag 1)) (.cons (.tup (.cons (.cst (.tag 14)) (.cons (.cst (.int (0))) .nil))) (.cons (.tup (.cons (.cst (.tag 13)) (.cons (.cst (.int (1))) .nil))) .nil))))) .nil) .nil) (.cons (.ret (.blt .tuple_ false (.cons (.var 3) .nil))) .nil))), 5, 3⟩
def c47 : Fn := ⟨(.cons (.asg (.name 4) (.call 43 (.cons (.var 0) (.cons (.blt .len false (.cons (.idx (.var 1) (.cst (.int (0)))) .nil)) .nil)))) (.cons (.asg (.name 5) (.call 46 (.cons (.var 0) (.cons (.var 2) (.cons (.idx (.idx (.var 1) (.cst (.int (0)))) (.var 4)) .nil))))) (.cons (.asg (.name 6) (.call 43 (.cons (.var 0) (.cons (.cst (.int (5))) .nil)))) (.cons (.ite (.cmp .eq (.var 6) (.cst (.int (0)))) (.cons (.asg (.name 7) (.idx (.lst false (.cons (.tup (.cons (.cst (.tag 13)) (.cons (.var 4) .nil))) (.cons (.call 45 (.cons (.var 0) (.cons (.var 2) (.cons (.cst (.int (1))) .nil)))) .nil))) (.bin .fdiv false (.call 43 (.cons (.var 0) (.cons (.cst (.int (3))) .nil))) (.cst (.int (2)))))) (.cons (.ite (.cmp .eq (.call 43 (.cons (.var 0) (.cons (.cst (.int (3))) .nil))) (.cst (.int (2)))) (.cons (.asg (.name 5) (.call 46 (.cons (.var 0) (.cons (.var 2) (.cons (.call 43 (.cons (.var 0) (.cons (.cst (.int (4))) .nil))) .nil))))) (.cons (.asg (.name 5) (.ite (.and (.cmp .ne (.var 5) (.tup .nil)) (.cmp .eq (.call 43 (.cons (.var 0) (.cons (.cst (.int (2))) .nil))) (.cst (.int (1))))) (.bin .add false (.slc false false true (.var 5) .nop (.cst (.int (-1)))) (.tup (.cons (.tup (.cons (.cst (.tag 3)) (.cons (.tup (.cons (.cst (.tag 13)) (.cons (.cst (.int (1))) .nil))) (.cons (.tup (.cons (.cst (.tag 13)) (.cons (.cst (.int (0))) .nil))) .nil)))) .nil))) (.var 5))) .nil)) .nil) (.cons (.ret (.tup (.cons (.cst (.tag 10)) (.cons (.var 7) (.cons (.var 5) .nil))))) .nil))) .nil) (.cons (.ite (.and (.cmp .lt (.var 6) (.cst (.int (3)))) (.and (.cmp .gt (.idx (.var 1) (.cst (.int (2)))) (.cst (.int (0)))) (.and (.cmp .gt (.var 3) (.cst (.int (0)))) (.cmp .lt (.var 2) (.cst (.int (8))))))) (.cons (.asg (.sub (.var 1) (.cst (.int (2)))) (.bin .sub false (.idx (.var 1) (.cst (.int (2)))) (.cst (.int (1))))) (.cons (.ret (.tup (.cons (.cst (.tag 11)) (.cons (.var 4) (.cons (.var 5) (.cons (.call 48 (.cons (.var 0) (.cons (.var 1) (.cons (.bin .add false (.var 2) (.cst (.int (1)))) (.cons (.bin .sub false (.var 3) (.cst (.int (1)))) .nil))))) .nil)))))) .nil)) .nil) (.cons (.ret (.tup (.cons (.cst (.tag 9)) (.cons (.var 4) (.cons (.var 5) .nil))))) .nil)))))), 8, 4⟩
def c48 : Fn := ⟨(.cons (.asg (.name 4) (.call 43 (.cons (.var 0) (.cons (.cst (.int (9))) .nil)))) (.cons (.asg (.sub (.var 1) (.cst (.int (1)))) (.bin .sub false (.idx (.var 1) (.cst (.int (1)))) (.cst (.int (1))))) (.cons (.ite (.or (.cmp .eq (.var 3) (.cst (.int (0)))) (.or (.cmp .lt (.idx (.var 1) (.cst (.int (1)))) (.cst (.int (4)))) (.cmp .eq (.var 4) (.cst (.int (0)))))) (.cons (.ret (.tup (.cons (.cst (.tag 6)) (.cons (.call 45 (.cons (.var 0) (.cons (.var 2) (.cons (.call 43 (.cons (.var 0) (.cons (.cst (.int (4))) .nil))) .nil)))) .nil)))) .nil) .nil) (.cons (.ite (.cmp .lt (.var 4) (.cst (.int (3)))) (.cons (.ret (.tup (.cons (.cst (.tag 7)) (.cons (.call 45 (.cons (.var 0) (.cons (.var 2) (.cons (.cst (.int (1))) .nil)))) (.cons (.call 48 (.cons (.var 0) (.cons (.var 1) (.cons (.var 2) (.cons (.bin .sub false (.var 3) (.cst (.int (1)))) .nil))))) .nil))))) .nil) .nil) (.cons (.ite (.cmp .lt (.var 4) (.cst (.int (6)))) (.cons (.asg (.name 5) (.ite (.and (.cmp .gt (.var 2) (.cst (.int (0)))) (.cmp .gt (.call 43 (.cons (.var 0) (.cons (.cst (.int (3))) .nil))) (.cst (.int (0))))) (.tup (.cons (.cst (.tag 14)) (.cons (.cst (.int (0))) .nil))) (.call 45 (.cons (.var 0) (.cons (.var 2) (.cons (.cst (.int (2))) .nil)))))) (.cons (.asg (.name 6) (.call 48 (.cons (.var 0) (.cons (.var 1) (.cons (.var 2) (.cons (.bin .sub false (.var 3) (.cst (.int (1)))) .nil)))))) (.cons (.ret (.tup (.cons (.cst (.tag 8)) (.cons (.var 5) (.cons (.var 6) (.cons (.call 48 (.cons (.var 0) (.cons (.var 1) (.cons (.var 2) (.cons (.bin .sub false (.var 3) (.cst (.int (1)))) .nil))))) .nil)))))) .nil))) .nil) (.cons (.ret (.call 47 (.cons (.var 0) (.cons (.var 1) (.cons (.var 2) (.cons (.var 3) .nil)))))) .nil)))))), 7, 4⟩
def c49 : Fn := ⟨(.cons (.asg (.name 3) (.comp true [8] (.name 8) (.rng (.bin .add false (.cst (.int (1))) (.call 43 (.cons (.var 0) (.cons (.var 1) .nil))))) (.cst (.bl true)) (.call 43 (.cons (.var 0) (.cons (.idx (.lst false (.cons (.cst (.int (3))) (.cons (.cst (.int (4))) .nil))) (.call 43 (.cons (.var 0) (.cons (.cst (.int (2))) .nil)))) .nil))))) (.cons (.ite (.cmp .gt (.call 43 (.cons (.var 0) (.cons (.cst (.int (3))) .nil))) (.cst (.int (0)))) (.cons (.asg (.sub (.var 3) (.cst (.int (0)))) (.bin .add false (.cst (.int (1))) (.call 43 (.cons (.var 0) (.cons (.cst (.int (2))) .nil))))) .nil) .nil) (.cons (.asg (.name 4) (.lst true .nil)) (.cons (.for_ (.name 5) (.rng (.blt .len false (.cons (.var 3) .nil))) (.cons (.asg (.name 6) (.lst true (.cons (.var 3) (.cons (.cst (.int (24))) (.cons (.var 2) .nil))))) (.cons (.asg (.name 7) (.call 48 (.cons (.var 0) (.cons (.var 6) (.cons (.idx (.var 3) (.var 5)) (.cons (.bin .add false (.cst (.int (2))) (.call 43 (.cons (.var 0) (.cons (.cst (.int (4))) .nil)))) .nil)))))) (.cons (.ite (.and (.cmp .gt (.idx (.var 3) (.var 5)) (.cst (.int (0)))) (.cmp .eq (.call 43 (.cons (.var 0) (.cons (.cst (.int (2))) .nil))) (.cst (.int (1))))) (.cons (.asg (.name 7) (.tup (.cons (.cst (.tag 8)) (.cons (.tup (.cons (.cst (.tag 14)) (.cons (.cst (.int (0))) .nil))) (.cons (.call 47 (.cons (.var 0) (.cons (.var 6) (.cons (.idx (.var 3) (.var 5)) (.cons (.cst (.int (2))) .nil))))) (.cons (.var 7) .nil)))))) .nil) .nil) (.cons (.ex (.bmt .append (.var 4) (.cons (.tup (.cons (.idx (.var 3) (.var 5)) (.cons (.var 7) .nil))) .nil))) .nil))))) (.cons (.ret (.frz 4)) .nil))))), 9, 3⟩
def c60v10 : Fn := ⟨(.cons (.asg (.name 1) (.lst true (.cons (.var 0) (.cons (.cst (.int (0))) (.cons (.cst (.int (0))) (.cons (.cst (.int (0))) .nil)))))) (.cons (.asg (.name 2) (.lst false (.cons (.call 49 (.cons (.var 1) (.cons (.cst (.int (4))) (.cons (.cst (.int (2))) .nil)))) (.cons (.call 49 (.cons (.var 1) (.cons (.cst (.int (4))) (.cons (.cst (.int (3))) .nil)))) .nil)))) (.cons (.for_ (.name 3) (.bin .add false (.var 2) (.slc false false true (.var 2) .nop (.cst (.int (1))))) (.cons (.asg (.name 4) (.call 101 (.cons (.var 3) .nil))) (.cons (.for_ (.name 5) (.rng (.cst (.int (2)))) (.cons (.asg (.name 6) (.call 99 (.cons (.var 4) .nil))) (.cons (.ite (.or (.not (.call 44 (.cons (.call 33 (.cons (.var 3) .nil)) (.cons (.var 4) .nil)))) (.or (.not (.call 44 (.cons (.var 6) (.cons (.var 3) .nil)))) (.cmp .ne (.call 33 (.cons (.var 6) .nil)) (.var 4)))) (.cons (.ret (.cst (.bl false))) .nil) .nil) (.cons (.asgT [(.name 7), (.name 8), (.name 9)] (.call 65 (.cons (.var 1) (.cons (.var 3) .nil)))) (.cons (.ite (.not (.call 44 (.cons (.call 39 (.cons (.var 6) (.cons (.var 7) (.cons (.var 8) (.cons (.var 9) .nil))))) (.cons (.call 64 (.cons (.var 3) (.cons (.var 7) (.cons (.var 8) (.cons (.var 9) .nil))))) .nil)))) (.cons (.ret (.cst (.bl false))) .nil) .nil) (.cons (.ex (.bmt .append (.var 6) (.cons (.tup (.cons (.cst (.int (0))) (.cons (.tup (.cons (.cst (.tag 6)) (.cons (.tup (.cons (.cst (.tag 13)) (.cons (.cst (.int (0))) .nil))) .nil))) .nil))) .nil))) .nil)))))) .nil))) (.cons (.ret (.cst (.bl true))) .nil)))), 10, 1⟩
def c61 : Fn := ⟨(.cons (.ite (.or (.cmp .is_ (.var 1) (.cst .non)) (.or (.cmp .is_ (.var 2) (.cst .non)) (.and (.cmp .eq (.var 0) (.cst (.tag 3))) (.cmp .eq (.var 2) (.cst (.int (0))))))) (.cons (.ret (.cst .non)) .nil) .nil) (.cons (.ite (.cmp .eq (.var 0) (.cst (.tag 3))) (.cons (.ret (.bin .fdiv false (.var 1) (.var 2))) .nil) .nil) (.cons (.ite (.cmp .in_ (.var 0) (.tup (.cons (.cst (.tag 4)) (.cons (.cst (.tag 5)) .nil)))) (.cons (.ret (.blt .int_ false (.cons (.idx (.lst false (.cons (.cmp .lt (.var 1) (.var 2)) (.cons (.cmp .eq (.var 1) (.var 2)) .nil))) (.blt .int_ false (.cons (.cmp .eq (.var 0) (.cst (.tag 5))) .nil))) .nil))) .nil) .nil) (.cons (.ret (.bin .mod false (.idx (.dct false (.cons (.cst (.tag 0)) (.cons (.bin .add false (.var 1) (.var 2)) (.cons (.cst (.tag 1)) (.cons (.bin .sub false (.var 1) (.var 2)) (.cons (.cst (.tag 2)) (.cons (.bin .mul false (.var 1) (.var 2)) .nil))))))) (.var 0)) (.cst (.int (1000))))) .nil)))), 3, 3⟩
def c62 : Fn := ⟨(.cons (.ite (.cmp .eq (.idx (.var 0) (.cst (.int (0)))) (.cst (.tag 13))) (.cons (.ret (.idx (.var 0) (.cst (.int (1))))) .nil) .nil) (.cons (.ite (.cmp .eq (.idx (.var 0) (.cst (.int (0)))) (.cst (.tag 14))) (.cons (.ret (.idx (.var 1) (.idx (.var 0) (.cst (.int (1)))))) .nil) .nil) (.cons (.ret (.call 61 (.cons (.idx (.var 0) (.cst (.int (0)))) (.cons (.call 62 (.cons (.idx (.var 0) (.cst (.int (1)))) (.cons (.var 1) .nil))) (.cons (.call 62 (.cons (.idx (.var 0) (.cst (.int (2)))) (.cons (.var 1) .nil))) .nil))))) .nil))), 2, 2⟩
def c63 : Fn := ⟨(.cons (.asg (.name 3) (.ite (.cmp .eq (.idx (.var 1) (.cst (.int (0)))) (.cst (.tag 10))) (.call 62 (.cons (.idx (.var 1) (.cst (.int (1)))) (.cons (.var 2) .nil))) (.idx (.var 1) (.cst (.int (1)))))) (.cons (.asg (.name 4) (.comp false [5] (.name 5) (.idx (.var 1) (.cst (.int (2)))) (.cst (.bl true)) (.call 62 (.cons (.var 5) (.cons (.var 2) .nil))))) (.cons (.ite (.or (.cmp .is_ (.var 3) (.cst .non)) (.cmp .in_ (.cst .non) (.var 4))) (.cons (.ret (.cst (.tag 3))) .nil) .nil) (.cons (.ite (.cmp .ge (.var 3) (.blt .len false (.cons (.var 0) .nil))) (.cons (.ret (.cst (.tag 17))) .nil) .nil) (.cons (.ret (.ite (.cmp .ne (.idx (.idx (.var 0) (.var 3)) (.cst (.int (0)))) (.blt .len false (.cons (.var 4) .nil))) (.cst (.tag 18)) (.tup (.cons (.var 3) (.cons (.var 4) .nil))))) .nil))))), 6, 3⟩
def c64 : Fn := ⟨(.cons (.asg (.name 4) (.lst true .nil)) (.cons (.asg (.name 5) (.lst true .nil)) (.cons (.asg (.name 6) (.cst (.int (0)))) (.cons (.asg (.name 7) (.bin .sub false (.var 3) (.cst (.int (1))))) (.cons (.asg (.name 8) (.blt .list_ false (.cons (.var 2) .nil))) (.cons (.asg (.name 9) (.idx (.idx (.var 0) (.var 1)) (.cst (.int (1))))) (.cons (.whl (.cmp .ge (.var 7) (.cst (.int (0)))) (.cons (.ite (.cmp .in_ (.idx (.var 9) (.cst (.int (0)))) (.tup (.cons (.cst (.tag 9)) (.cons (.cst (.tag 10)) (.cons (.cst (.tag 11)) .nil))))) (.cons (.asg (.name 10) (.call 63 (.cons (.var 0) (.cons (.var 9) (.cons (.var 8) .nil))))) (.cons (.ite (.isi (.var 10) [2]) (.cons (.ret (.tup (.cons (.blt .tuple_ false (.cons (.var 4) .nil)) (.cons (.tup (.cons (.cst (.tag 12)) (.cons (.var 10) .nil))) (.cons (.var 6) .nil))))) .nil) .nil) (.cons (.ite (.cmp .eq (.idx (.var 9) (.cst (.int (0)))) (.cst (.tag 11))) (.cons (.ex (.bmt .append (.var 5) (.cons (.tup (.cons (.var 8) (.cons (.idx (.var 9) (.cst (.int (3)))) .nil))) .nil))) (.cons (.asg (.name 6) (.blt .max2 false (.cons (.var 6) (.cons (.blt .len false (.cons (.var 5) .nil)) .nil)))) .nil)) .nil) (.cons (.asg (.name 7) (.bin .sub false (.var 7) (.cst (.int (1))))) (.cons (.asg (.name 8) (.idx (.var 10) (.cst (.int (1))))) (.cons (.asg (.name 9) (.idx (.idx (.var 0) (.idx (.var 10) (.cst (.int (0))))) (.cst (.int (1))))) .nil)))))) (.cons (.asg (.name 11) (.call 62 (.cons (.idx (.var 9) (.cst (.int (1)))) (.cons (.var 8) .nil)))) (.cons (.ite (.cmp .is_ (.var 11) (.cst .non)) (.cons (.ret (.tup (.cons (.blt .tuple_ false (.cons (.var 4) .nil)) (.cons (.tup (.cons (.cst (.tag 12)) (.cons (.cst (.tag 3)) .nil))) (.cons (.var 6) .nil))))) .nil) .nil) (.cons (.ite (.and (.cmp .eq (.idx (.var 9) (.cst (.int (0)))) (.cst (.tag 6))) (.cmp .eq (.var 5) (.lst false .nil))) (.cons (.ret (.tup (.cons (.blt .tuple_ false (.cons (.var 4) .nil)) (.cons (.tup (.cons (.cst (.tag 6)) (.cons (.var 11) .nil))) (.cons (.var 6) .nil))))) .nil) .nil) (.cons (.ite (.cmp .eq (.idx (.var 9) (.cst (.int (0)))) (.cst (.tag 6))) (.cons (.asgT [(.name 12), (.name 9)] (.bmt .pop0 (.var 5) .nil)) (.cons (.asg (.name 8) (.bin .add false (.var 12) (.lst false (.cons (.var 11) .nil)))) .nil)) (.cons (.ite (.cmp .eq (.idx (.var 9) (.cst (.int (0)))) (.cst (.tag 7))) (.cons (.ex (.bmt .append (.var 4) (.cons (.var 11) .nil))) (.cons (.asg (.name 9) (.idx (.var 9) (.cst (.int (2))))) .nil)) (.cons (.asg (.name 9) (.idx (.var 9) (.bin .sub false (.cst (.int (3))) (.blt .int_ false (.cons (.cmp .ne (.var 11) (.cst (.int (0)))) .nil))))) .nil)) .nil)) .nil))))) .nil)) (.cons (.ret (.tup (.cons (.blt .tuple_ false (.cons (.var 4) .nil)) (.cons (.tup (.cons (.cst (.tag 25)) .nil)) (.cons (.var 6) .nil))))) .nil)))))))), 13, 4⟩
def c65 : Fn := ⟨(.cons (.asg (.name 2) (.call 43 (.cons (.var 0) (.cons (.blt .len false (.cons (.var 1) .nil)) .nil)))) (.cons (.asg (.name 3) (.comp false [4] (.name 4) (.rng (.idx (.idx (.var 1) (.var 2)) (.cst (.int (0))))) (.cst (.bl true)) (.idx (.lst false (.cons (.call 43 (.cons (.var 0) (.cons (.cst (.int (12))) .nil))) (.cons (.call 43 (.cons (.var 0) (.cons (.cst (.int (1000))) .nil))) .nil))) (.bin .fdiv false (.call 43 (.cons (.var 0) (.cons (.cst (.int (4))) .nil))) (.cst (.int (3))))))) (.cons (.ret (.tup (.cons (.var 2) (.cons (.var 3) (.cons (.idx (.lst false (.cons (.call 43 (.cons (.var 0) (.cons (.cst (.int (40))) .nil))) (.cons (.call 43 (.cons (.var 0) (.cons (.cst (.int (400))) .nil))) (.cons (.cst (.int (5000))) .nil)))) (.call 43 (.cons (.var 0) (.cons (.cst (.int (3))) .nil)))) .nil))))) .nil))), 5, 2⟩
def c66 : Fn := ⟨(.cons (.ret (.comp false [1] (.name 1) (.slc false true false (.var 0) (.cst (.int (2))) .nop) (.and (.isi (.var 1) [4]) (.and (.cmp .ne (.var 1) (.tup .nil)) (.isi (.idx (.var 1) (.cst (.int (0)))) [2]))) (.var 1))) .nil), 2, 1⟩
def c67 : Fn := ⟨(.cons (.asg (.name 2) (.lst true .nil)) (.cons (.asg (.name 3) (.lst true (.cons (.var 1) .nil))) (.cons (.whl (.cmp .ne (.var 3) (.lst false .nil)) (.cons (.asg (.name 4) (.bmt .pop0 (.var 3) .nil)) (.cons (.ite (.cmp .eq (.idx (.var 4) (.cst (.int (0)))) (.cst (.tag 10))) (.cons (.ex (.bmt .extend (.var 2) (.cons (.comp false [5] (.name 5) (.rng (.blt .len false (.cons (.var 0) .nil))) (.cmp .eq (.idx (.idx (.var 0) (.var 5)) (.cst (.int (0)))) (.blt .len false (.cons (.idx (.var 4) (.cst (.int (2)))) .nil))) (.tup (.cons (.var 5) (.cons (.cst (.bl false)) .nil)))) .nil))) .nil) (.cons (.ite (.cmp .in_ (.idx (.var 4) (.cst (.int (0)))) (.tup (.cons (.cst (.tag 9)) (.cons (.cst (.tag 11)) .nil)))) (.cons (.ex (.bmt .append (.var 2) (.cons (.tup (.cons (.idx (.var 4) (.cst (.int (1)))) (.cons (.cmp .eq (.idx (.var 4) (.cst (.int (0)))) (.cst (.tag 11))) .nil))) .nil))) (.cons (.ex (.bmt .extend (.var 3) (.cons (.slc false true false (.var 4) (.cst (.int (3))) .nop) .nil))) .nil)) (.cons (.ex (.bmt .extend (.var 3) (.cons (.call 66 (.cons (.var 4) .nil)) .nil))) .nil)) .nil)) .nil))) (.cons (.ret (.blt .sset false (.cons (.var 2) .nil))) .nil)))), 6, 2⟩
def c70 : Fn := ⟨(.cons (.for_ (.name 2) (.rng (.blt .len false (.cons (.var 1) .nil))) (.cons (.asgT [(.name 3), (.name 4), (.name 5)] (.idx (.var 1) (.var 2))) (.cons (.ite (.or (.not (.chain .le .lt (.cst (.int (0))) (.var 3) (.blt .len false (.cons (.var 0) .nil)))) (.or (.cmp .notin (.tup (.cons (.var 4) (.cons (.var 5) .nil))) (.idx (.var 0) (.var 3))) (.cmp .ne (.idx (.idx (.var 1) (.bin .sub false (.var 2) (.cst (.int (1))))) (.cst (.int (1)))) (.var 3)))) (.cons (.ret (.cst (.bl false))) .nil) .nil) .nil))) (.cons (.ret (.cmp .ne (.comp false [6] (.name 6) (.var 1) (.idx (.var 6) (.cst (.int (2)))) (.var 6)) (.lst false .nil))) .nil)), 7, 2⟩
def c91 : Fn := ⟨(.cons (.asg (.fld (.var 0) 21) (.var 1)) (.cons (.asg (.fld (.var 0) 15) (.cst (.int (0)))) .nil)), 2, 2⟩
def c92 : Fn := ⟨(.cons (.ite (.not (.var 1)) (.cons .never .nil) .nil) .nil), 2, 2⟩
def c93 : Fn := ⟨(.cons (.ret (.ite (.cmp .lt (.fld (.var 0) 15) (.blt .len false (.cons (.fld (.var 0) 21) .nil))) (.idx (.fld (.var 0) 21) (.fld (.var 0) 15)) (.cst (.tag 27)))) .nil), 1, 1⟩
def c94 : Fn := ⟨(.cons (.ex (.mth 12 (.var 0) (.cons (.cmp .eq (.mth 13 (.var 0) .nil) (.var 1)) .nil))) (.cons (.asg (.fld (.var 0) 15) (.bin .add false (.fld (.var 0) 15) (.cst (.int (1))))) .nil)), 2, 2⟩
def c95 : Fn := ⟨(.cons (.ex (.mth 12 (.var 0) (.cons (.and (.chain .le .le (.cst (.int (1))) (.blt .len false (.cons (.var 1) .nil)) (.glob 12)) (.cmp .eq (.comp false [2] (.name 2) (.var 1) (.cmp .notin (.var 2) (.glob 11)) (.var 2)) (.lst false .nil))) .nil))) (.cons (.ex (.mth 12 (.var 0) (.cons (.or (.cmp .eq (.var 1) (.cst (.tag 34))) (.cmp .ne (.idx (.var 1) (.cst (.int (0)))) (.cst (.tag 34)))) .nil))) (.cons (.asg (.fld (.var 0) 15) (.bin .add false (.fld (.var 0) 15) (.cst (.int (1))))) (.cons (.ret (.blt .int_ false (.cons (.var 1) .nil))) .nil)))), 3, 2⟩
def c96v1 : Fn := ⟨(.cons (.asg (.name 1) (.mth 13 (.var 0) .nil)) (.cons (.ite (.cmp .in_ (.var 1) (.glob 7)) (.cons (.asg (.fld (.var 0) 15) (.bin .add false (.fld (.var 0) 15) (.cst (.int (1))))) (.cons (.asg (.name 2) (.mth 16 (.var 0) .nil)) (.cons (.ret (.tupW (.cons (.var 1) (.cons (.var 2) (.cons (.mth 16 (.var 0) .nil) .nil))))) .nil))) .nil) (.cons (.ite (.cmp .eq (.slc false false true (.var 1) .nop (.cst (.int (1)))) (.cst (.tag 20))) (.cons (.ret (.tup (.cons (.cst (.tag 14)) (.cons (.mth 15 (.var 0) (.cons (.slc false true false (.var 1) (.cst (.int (1))) .nop) .nil)) .nil)))) .nil) .nil) (.cons (.ret (.tup (.cons (.cst (.tag 13)) (.cons (.mth 15 (.var 0) (.cons (.var 1) .nil)) .nil)))) .nil)))), 3, 1⟩
def c97 : Fn := ⟨(.cons (.ex (.mth 14 (.var 0) (.cons (.cst (.tag 21)) .nil))) (.cons (.asg (.name 1) (.lst true .nil)) (.cons (.whl (.cmp .ne (.mth 13 (.var 0) .nil) (.cst (.tag 22))) (.cons (.ex (.bmt .append (.var 1) (.cons (.mth 16 (.var 0) .nil) .nil))) .nil)) (.cons (.ex (.mth 14 (.var 0) (.cons (.cst (.tag 22)) .nil))) (.cons (.ret (.blt .tuple_ false (.cons (.var 1) .nil))) .nil))))), 2, 1⟩
def c98v1 : Fn := ⟨(.cons (.asg (.name 1) (.mth 13 (.var 0) .nil)) (.cons (.ex (.mth 12 (.var 0) (.cons (.cmp .in_ (.var 1) (.tup (.cons (.cst (.tag 6)) (.cons (.cst (.tag 7)) (.cons (.cst (.tag 8)) (.cons (.cst (.tag 9)) (.cons (.cst (.tag 10)) (.cons (.cst (.tag 11)) .nil)))))))) .nil))) (.cons (.asg (.fld (.var 0) 15) (.bin .add false (.fld (.var 0) 15) (.cst (.int (1))))) (.cons (.ite (.cmp .in_ (.var 1) (.tup (.cons (.cst (.tag 9)) (.cons (.cst (.tag 11)) .nil)))) (.cons (.asg (.name 2) (.mth 15 (.var 0) (.cons (.mth 13 (.var 0) .nil) .nil))) (.cons (.asg (.name 3) (.mth 17 (.var 0) .nil)) (.cons (.ret (.bin .add false (.tupW (.cons (.var 1) (.cons (.var 2) (.cons (.var 3) .nil)))) (.ite (.cmp .eq (.var 1) (.cst (.tag 11))) (.tup (.cons (.mth 18 (.var 0) .nil) .nil)) (.tup .nil)))) .nil))) .nil) (.cons (.asg (.name 4) (.mth 16 (.var 0) .nil)) (.cons (.ite (.cmp .eq (.var 1) (.cst (.tag 6))) (.cons (.ret (.tupW (.cons (.var 1) (.cons (.var 4) .nil)))) .nil) .nil) (.cons (.ite (.cmp .eq (.var 1) (.cst (.tag 10))) (.cons (.ret (.tupW (.cons (.var 1) (.cons (.var 4) (.cons (.mth 17 (.var 0) .nil) .nil))))) .nil) .nil) (.cons (.asg (.name 5) (.mth 18 (.var 0) .nil)) (.cons (.ret (.bin .add false (.tupW (.cons (.var 1) (.cons (.var 4) (.cons (.var 5) .nil)))) (.ite (.cmp .eq (.var 1) (.cst (.tag 8))) (.tup (.cons (.mth 18 (.var 0) .nil) .nil)) (.tup .nil)))) .nil))))))))), 6, 1⟩
def c99 : Fn := ⟨(.cons (.asg (.name 1) (.mk 5 (.cons (.ite (.cmp .ne (.var 0) (.cst (.tag 27))) (.bmt .split (.var 0) (.cons (.cst (.tag 23)) .nil)) (.lst false .nil)) .nil))) (.cons (.asg (.name 2) (.lst true .nil)) (.cons (.whl (.cmp .lt (.fld (.var 1) 15) (.blt .len false (.cons (.fld (.var 1) 21) .nil))) (.cons (.ex (.mth 14 (.var 1) (.cons (.cst (.tag 24)) .nil))) (.cons (.asg (.name 3) (.mth 15 (.var 1) (.cons (.mth 13 (.var 1) .nil) .nil))) (.cons (.ex (.bmt .append (.var 2) (.cons (.tup (.cons (.var 3) (.cons (.mth 18 (.var 1) .nil) .nil))) .nil))) .nil)))) (.cons (.ex (.call 6 (.cons (.var 2) .nil))) (.cons (.ret (.var 2)) .nil))))), 4, 1⟩
def c100 : Fn := ⟨(.cons (.ite (.cmp .eq (.idx (.var 0) (.cst (.int (0)))) (.cst (.tag 13))) (.cons (.ret (.blt .str_ false (.cons (.idx (.var 0) (.cst (.int (1)))) .nil))) .nil) .nil) (.cons (.ite (.cmp .eq (.idx (.var 0) (.cst (.int (0)))) (.cst (.tag 14))) (.cons (.ret (.bin .add false (.cst (.tag 20)) (.blt .str_ false (.cons (.idx (.var 0) (.cst (.int (1)))) .nil)))) .nil) .nil) (.cons (.asg (.name 1) (.lst true .nil)) (.cons (.for_ (.name 2) (.var 0) (.cons (.ite (.and (.isi (.var 2) [4]) (.or (.cmp .eq (.var 2) (.tup .nil)) (.isi (.idx (.var 2) (.cst (.int (0)))) [4]))) (.cons (.ex (.bmt .append (.var 1) (.cons (.bmt .join (.cst (.tag 23)) (.cons (.bin .add false (.bin .add false (.lst false (.cons (.cst (.tag 21)) .nil)) (.comp false [3] (.name 3) (.var 2) (.cst (.bl true)) (.call 100 (.cons (.var 3) .nil)))) (.lst false (.cons (.cst (.tag 22)) .nil))) .nil)) .nil))) .nil) (.cons (.ex (.bmt .append (.var 1) (.cons (.ite (.isi (.var 2) [4]) (.call 100 (.cons (.var 2) .nil)) (.blt .str_ false (.cons (.var 2) .nil))) .nil))) .nil)) .nil)) (.cons (.ret (.bmt .join (.cst (.tag 23)) (.cons (.var 1) .nil))) .nil))))), 4, 1⟩
def c101 : Fn := ⟨(.cons (.ret (.bmt .join (.cst (.tag 23)) (.cons (.comp false [1] (.name 1) (.var 0) (.cst (.bl true)) (.bin .add false (.cst (.tag 35)) (.call 100 (.cons (.var 1) .nil)))) .nil))) .nil), 2, 1⟩
end PI

namespace PI
open PySem L2
inductive Re where
  | num (i : Int) | slot (i : Int) | pair (w : Nat) (a b : Re)
def Re.d : Re → D
  | .num i => .tup [.tag 13, .int i]
  | .slot i => .tup [.tag 14, .int i]
  | .pair w a b => .tup [.tag w, a.d, b.d]
inductive Bd where
  | end_ (e : Re) | say (e : Re) (b : Bd) | if_ (e : Re) (a b : Bd) | turn (n : Int) (as : List Re) | through (e : Re) (as : List Re) | with_ (n : Int) (as : List Re) (b : Bd)
def Bd.d : Bd → D
  | .end_ e => .tup [.tag 6, e.d]
  | .say e b => .tup [.tag 7, e.d, b.d]
  | .if_ e a b => .tup [.tag 8, e.d, a.d, b.d]
  | .turn n as => .tup [.tag 9, .int n, .tup (as.map Re.d)]
  | .through e as => .tup [.tag 10, e.d, .tup (as.map Re.d)]
  | .with_ n as b => .tup [.tag 11, .int n, .tup (as.map Re.d), b.d]
def Re.ok (slots : Int) : Re → Nat → Prop
  | .num i, _ => 0 ≤ i ∧ i < 1000
  | .slot i, _ => 0 ≤ i ∧ i < slots
  | .pair w a b, d => w < 6 ∧ ∃ k, d = k + 1 ∧ a.ok slots k ∧ b.ok slots k
/-- what stands in the module, for need_program -/
structure LibN (tb : Tab) : Prop where
  tg : 67 ≤ tb.tg.length
  g0 : tb.gl 0 = some (.int 1000)
  g1 : tb.gl 1 = some (.int 5)
  g2 : tb.gl 2 = some (.int 3)
  g3 : tb.gl 3 = some (.int 8)
  g4 : tb.gl 4 = some (.int 30)
  g5 : tb.gl 5 = some (.int 6)
  g6 : tb.gl 6 = some (.int 3)
  g7 : tb.gl 7 = some (.tup [.tag 0, .tag 1, .tag 2, .tag 3, .tag 4, .tag 5])
  g8 : tb.gl 8 = some (.kdt [(.tag 6, .int 2), (.tag 7, .int 3), (.tag 8, .int 4), (.tag 9, .int 3), (.tag 10, .int 3), (.tag 11, .int 4)])
  f0 : tb.fns 0 = some c0
  f1 : tb.fns 1 = some c1
  f2 : tb.fns 2 = some c2
  f3 : tb.fns 3 = some c3
  f4 : tb.fns 4 = some c4
  f5 : tb.fns 5 = some c5
  f6 : tb.fns 6 = some c6
section
variable {tb : Tab} {W : Nat}
theorem isrk (h : LibN tb) : ∀ (e : Re) (d n : Nat) (slots : Int) (s : Store), e.ok slots d → d + 2 ≤ n → Run tb W n 0 [e.d, .int slots, .int d] s = .ok (.bl true) s := by
  have ht := h.tg
  have h13 : 13 < tb.tg.length := by omega
  have h14 : 14 < tb.tg.length := by omega
  intro e
  induction e with
  | num i =>
    intro d n slots s hk hn
    obtain ⟨m, rfl⟩ : ∃ m, n = m + 2 := ⟨n - 2, by omega⟩
    rw [run_at h.f0 rfl]
    obtain ⟨k1, k2⟩ := hk
    simp [c0, Re.d, h.g0, eq_tt h13 h13, k1, k2, evA, startE, List.map_cons, List.map_nil, List.length_cons, List.length_nil, List.replicate, List.cons_append, List.nil_append, List.set_cons_zero, List.set_cons_succ, List.getElem?_cons_zero, List.getElem?_cons_succ, Nat.add_sub_cancel, Nat.sub_self, Nat.reduceAdd, Nat.reduceSub, Int.reduceAdd, Int.reduceNeg, decide_true, decide_false, Bool.false_xor, Bool.true_xor, Bool.not_true, Bool.not_false]
  | slot i =>
    intro d n slots s hk hn
    obtain ⟨m, rfl⟩ : ∃ m, n = m + 2 := ⟨n - 2, by omega⟩
    rw [run_at h.f0 rfl]
    obtain ⟨k1, k2⟩ := hk
    simp [c0, Re.d, h.g0, eq_tt h14 h14, eq_tt h14 h13, k1, k2, evA, startE, List.map_cons, List.map_nil, List.length_cons, List.length_nil, List.replicate, List.cons_append, List.nil_append, List.set_cons_zero, List.set_cons_succ, List.getElem?_cons_zero, List.getElem?_cons_succ, Nat.add_sub_cancel, Nat.sub_self, Nat.reduceAdd, Nat.reduceSub, Int.reduceAdd, Int.reduceNeg, decide_true, decide_false, Bool.false_xor, Bool.true_xor, Bool.not_true, Bool.not_false]
  | pair w a b iha ihb =>
    intro d n slots s hk hn
    obtain ⟨hw, k, rfl, ka, kb⟩ := hk
    obtain ⟨m, rfl⟩ : ∃ m, n = m + 2 := ⟨n - 2, by omega⟩
    rw [run_at h.f0 rfl]
    have e1 : (k : Int) + 1 - 1 = k := by omega
    have e2 : ¬ ((k : Int) + 1 = 0) := by omega
    have ia := iha k (m + 1) slots s ka (by omega)
    have ib := ihb k (m + 1) slots s kb (by omega)
    have hin : inV' tb.tg true (.tag w) (.tup [.tag 0, .tag 1, .tag 2, .tag 3, .tag 4, .tag 5]) s = .ok (.bl false) s := by
      rw [in_tup ⟨rfl, rfl⟩]
      simp only [List.any_cons, List.any_nil, eqv_tag]
      have : w = 0 ∨ w = 1 ∨ w = 2 ∨ w = 3 ∨ w = 4 ∨ w = 5 := by omega
      rcases this with rfl | rfl | rfl | rfl | rfl | rfl <;> rfl
    simp [c0, Re.d, h.g0, h.g7, hin, e1, e2, ia, ib, evA, startE, List.map_cons, List.map_nil, List.length_cons, List.length_nil, List.replicate, List.cons_append, List.nil_append, List.set_cons_zero, List.set_cons_succ, List.getElem?_cons_zero, List.getElem?_cons_succ, Nat.add_sub_cancel, Nat.sub_self, Nat.reduceAdd, Nat.reduceSub, Int.reduceAdd, Int.reduceNeg, decide_true, decide_false, Bool.false_xor, Bool.true_xor, Bool.not_true, Bool.not_false]
theorem isrk3 (h : LibN tb) {e : Re} {n : Nat} {slots : Int} {s : Store} (k : e.ok slots 3) (hn : 5 ≤ n) : Run tb W n 0 [e.d, .int slots, .int 3] s = .ok (.bl true) s := isrk h e 3 n slots s k hn
def PrD (ps : List (Int × Bd)) : D := .lst (ps.map fun p => .tup [.int p.1, p.2.d])
def ArgsOk (cs : List Int) (n : Int) (as : List Re) (sl : Int) : Prop := 0 ≤ n ∧ cs[n.toNat]? = some (as.length : Int) ∧ ∀ a ∈ as, a.ok sl 3
/-- [e for e in args if not is_reckoning(e, slots, MOST_DEEP)] == [] -/
theorem argsComp (h : LibN tb) {as : List Re} {m : Nat} {sl : Int} {s : Store} (hn : 4 ≤ m) (ha : ∀ a ∈ as, a.ok sl 3) (env : Env) (i : Nat) (hi : i < (wipeD env [i]).length) (sv : Nat) (hsv : ∀ x : D, ((wipeD env [i]).set i (some x))[sv]? = some (some (.int sl))) :
    compL (bindW (.name i) [i] env) (evalE (GG tb W m) (.not (.call 0 (.cons (.var i) (.cons (.var sv) (.cons (.glob 6) .nil)))))) (evalE (GG tb W m) (.var i)) (as.map Re.d) s = .ok [] s := by
  refine comp_none fun x hx => ?_
  obtain ⟨e, he, rfl⟩ := List.mem_map.mp hx
  refine ⟨_, rfl, ?_⟩
  have e1 : ((wipeD env [i]).set i (some e.d))[i]? = some (some e.d) := by rw [List.getElem?_set_self hi]
  have r := isrk3 (W := W) h (s := s) (ha e he) (show 5 ≤ m + 1 by omega)
  simp [e1, hsv, r, h.g6, evA, startE, List.map_cons, List.map_nil, List.length_cons, List.length_nil, List.replicate, List.cons_append, List.nil_append, List.set_cons_zero, List.set_cons_succ, List.getElem?_cons_zero, List.getElem?_cons_succ, Nat.add_sub_cancel, Nat.sub_self, Nat.reduceAdd, Nat.reduceSub, Int.reduceAdd, Int.reduceNeg, decide_true, decide_false, Bool.false_xor, Bool.true_xor, Bool.not_true, Bool.not_false]
theorem argsComp3 (h : LibN tb) {as : List Re} {m : Nat} {sl : Int} {s : Store} (hn : 4 ≤ m) (ha : ∀ a ∈ as, a.ok sl 3) {x0 x1 x2 x4 : Option D} :
    compL (bindW (.name 4) [4] [x0, x1, x2, some (.int sl), x4]) (evalE (GG tb W m) (.not (.call 0 (.cons (.var 4) (.cons (.var 3) (.cons (.glob 6) .nil)))))) (evalE (GG tb W m) (.var 4)) (as.map Re.d) s = .ok [] s :=
  argsComp h hn ha _ 4 (by simp [wipeD]) 3 fun x => by simp [wipeD]
theorem argsComp2 (h : LibN tb) {as : List Re} {m : Nat} {sl : Int} {s : Store} (hn : 4 ≤ m) (ha : ∀ a ∈ as, a.ok sl 3) {x0 x1 x3 x4 : Option D} :
    compL (bindW (.name 4) [4] [x0, x1, some (.int sl), x3, x4]) (evalE (GG tb W m) (.not (.call 0 (.cons (.var 4) (.cons (.var 2) (.cons (.glob 6) .nil)))))) (evalE (GG tb W m) (.var 4)) (as.map Re.d) s = .ok [] s :=
  argsComp h hn ha _ 4 (by simp [wipeD]) 2 fun x => by simp [wipeD]
def Bd.ok (cs : List Int) : Int → Nat → Bd → Prop
  | sl, wi, .end_ e => wi ≤ 6 ∧ sl ≤ 8 ∧ e.ok sl 3
  | sl, wi, .say e b => wi ≤ 6 ∧ sl ≤ 8 ∧ e.ok sl 3 ∧ b.ok cs sl (wi + 1)
  | sl, wi, .if_ e a b => wi ≤ 6 ∧ sl ≤ 8 ∧ e.ok sl 3 ∧ a.ok cs sl (wi + 1) ∧ b.ok cs sl (wi + 1)
  | sl, wi, .turn n as => wi ≤ 6 ∧ sl ≤ 8 ∧ as.length ≤ 30 ∧ ArgsOk cs n as sl
  | sl, wi, .through e as => wi ≤ 6 ∧ sl ≤ 8 ∧ as.length ≤ 3 ∧ e.ok sl 3 ∧ ∀ a ∈ as, a.ok sl 3
  | sl, wi, .with_ n as b => wi ≤ 6 ∧ sl + 1 ≤ 8 ∧ as.length ≤ 30 ∧ ArgsOk cs n as sl ∧ b.ok cs (sl + 1) (wi + 1)
def Bd.dep : Bd → Nat
  | .say _ b => b.dep + 1
  | .if_ _ a b => max a.dep b.dep + 1
  | .with_ _ _ b => b.dep + 1
  | _ => 0
def Bd.parts : Bd → Nat
  | .say _ b => 1 + b.parts
  | .if_ _ a b => 1 + a.parts + b.parts
  | .with_ _ _ b => 1 + b.parts
  | _ => 1
def Bd.inner : Bd → List Bd
  | .say _ b => [b]
  | .if_ _ a b => [a, b]
  | .with_ _ _ b => [b]
  | _ => []
theorem innerOf (h : LibN tb) (b : Bd) {n : Nat} {s : Store} (hn : 2 ≤ n) : Run tb W n 3 [b.d] s = .ok (.lst (b.inner.map Bd.d)) s := by
  obtain ⟨m, rfl⟩ : ∃ m, n = m + 2 := ⟨n - 2, by omega⟩
  rw [run_at h.f3 rfl]
  have ht := h.tg
  have h8 : 8 < tb.tg.length := by omega
  have h6 : 6 < tb.tg.length := by omega
  have h7 : 7 < tb.tg.length := by omega
  have h9 : 9 < tb.tg.length := by omega
  have h10 : 10 < tb.tg.length := by omega
  have h11 : 11 < tb.tg.length := by omega
  cases b <;> simp [c3, Bd.d, Bd.inner, eq_tt h6 h8, eq_tt h7 h8, eq_tt h8 h8, eq_tt h9 h8, eq_tt h10 h8, eq_tt h11 h8, in_tup (T := tb.tg), flatD, eqvD, evA, startE, List.map_cons, List.map_nil, List.length_cons, List.length_nil, List.replicate, List.cons_append, List.nil_append, List.set_cons_zero, List.set_cons_succ, List.getElem?_cons_zero, List.getElem?_cons_succ, Nat.add_sub_cancel, Nat.sub_self, Nat.reduceAdd, Nat.reduceSub, Int.reduceAdd, Int.reduceNeg, decide_true, decide_false, Bool.false_xor, Bool.true_xor, Bool.not_true, Bool.not_false]
def Bd.slIn (sl : Int) : Bd → Int
  | .with_ _ _ _ => sl + 1
  | _ => sl
theorem inner_ok {cs : List Int} {b : Bd} {sl : Int} {wi : Nat} (h : b.ok cs sl wi) : ∀ x ∈ b.inner, x.ok cs (b.slIn sl) (wi + 1) := by
  cases b with
  | say e b => intro x hx; simp only [Bd.inner, List.mem_singleton] at hx; subst hx; exact h.2.2.2
  | if_ e a b =>
    intro x hx
    simp only [Bd.inner, List.mem_cons, List.not_mem_nil, or_false] at hx
    rcases hx with rfl | rfl
    · exact h.2.2.2.1
    · exact h.2.2.2.2
  | with_ n as b => intro x hx; simp only [Bd.inner, List.mem_singleton] at hx; subst hx; exact h.2.2.2.2
  | _ => intro x hx; cases hx
theorem inner_dep {b x : Bd} (h : x ∈ b.inner) : x.dep + 1 ≤ b.dep := by
  cases b with
  | say e b => simp only [Bd.inner, List.mem_singleton] at h; subst h; simp [Bd.dep]
  | if_ e a b =>
    simp only [Bd.inner, List.mem_cons, List.not_mem_nil, or_false] at h
    rcases h with rfl | rfl <;> simp only [Bd.dep] <;> omega
  | with_ n as b => simp only [Bd.inner, List.mem_singleton] at h; subst h; simp [Bd.dep]
  | _ => cases h
theorem inner_len (b : Bd) : b.inner.length ≤ 2 := by cases b <;> simp [Bd.inner]
theorem bodyComp {ps : D} {xs : List Bd} {m : Nat} {sl : Int} {wi : Nat} {s : Store} (ih : ∀ x ∈ xs, Run tb W (m + 1) 4 [ps, x.d, .int sl, .int ((wi : Int) + 1)] s = .ok (.bl true) s) {x1 x2 x5 : Option D} :
    compL (bindW (.name 5) [5] [some ps, x1, x2, some (.int wi), some (.int sl), x5]) (evalE (GG tb W m) (.not (.call 4 (.cons (.var 0) (.cons (.var 5) (.cons (.var 4) (.cons (.bin .add false (.var 3) (.cst (.int 1))) .nil))))))) (evalE (GG tb W m) (.var 5)) (xs.map Bd.d) s = .ok [] s := by
  refine comp_none fun x hx => ?_
  obtain ⟨b, hb, rfl⟩ := List.mem_map.mp hx
  refine ⟨_, rfl, ?_⟩
  have r := ih b hb
  simp [wipeD, r, evA, startE, List.map_cons, List.map_nil, List.length_cons, List.length_nil, List.replicate, List.cons_append, List.nil_append, List.set_cons_zero, List.set_cons_succ, List.getElem?_cons_zero, List.getElem?_cons_succ, Nat.add_sub_cancel, Nat.sub_self, Nat.reduceAdd, Nat.reduceSub, Int.reduceAdd, Int.reduceNeg, decide_true, decide_false, Bool.false_xor, Bool.true_xor, Bool.not_true, Bool.not_false]
theorem ints_of {xs : List Int} : intsOf (xs.map D.int) = some xs := by
  induction xs with
  | nil => rfl
  | cons x xs ih => simp only [List.map_cons, intsOf, ih, Option.map_some]
theorem sum_lst {T : List Str} {c : Bool} {xs : List Int} {s : Store} : bltV T .sum c [.lst (xs.map D.int)] s = .ok (.int xs.sum) s := by simp only [bltV, qdr_list, ints_of]
theorem partsIn (h : LibN tb) : ∀ (k : Nat) (b : Bd) (n : Nat) (s : Store), b.dep ≤ k → k + 3 ≤ n → Run tb W n 5 [b.d] s = .ok (.int b.parts) s := by
  intro k
  have step : ∀ (b : Bd) (m : Nat) (s : Store), 1 ≤ m → (∀ x ∈ b.inner, Run tb W (m + 1) 5 [x.d] s = .ok (.int x.parts) s) → Run tb W (m + 2) 5 [b.d] s = .ok (.int b.parts) s := by
    intro b m s hm ih
    rw [run_at h.f5 rfl]
    have iof := innerOf (W := W) h b (s := s) (show 2 ≤ m + 1 by omega)
    have hL : (b.inner.map Bd.d).length ≤ LIM := by have := inner_len b; rw [List.length_map]; unfold LIM; omega
    have bc : compL (bindW (.name 1) [1] [some b.d, none]) (evalE (GG tb W m) (.cst (.bl true))) (evalE (GG tb W m) (.call 5 (.cons (.var 1) .nil))) (b.inner.map Bd.d) s = .ok (b.inner.map fun x => D.int x.parts) s := by
      refine comp_all fun x hx => ⟨_, rfl, ?_, ?_⟩
      · simp [evA, startE, List.map_cons, List.map_nil, List.length_cons, List.length_nil, List.replicate, List.cons_append, List.nil_append, List.set_cons_zero, List.set_cons_succ, List.getElem?_cons_zero, List.getElem?_cons_succ, Nat.add_sub_cancel, Nat.sub_self, Nat.reduceAdd, Nat.reduceSub, Int.reduceAdd, Int.reduceNeg, decide_true, decide_false, Bool.false_xor, Bool.true_xor, Bool.not_true, Bool.not_false]
      · have r := ih x hx
        simp [wipeD, r, evA, startE, List.map_cons, List.map_nil, List.length_cons, List.length_nil, List.replicate, List.cons_append, List.nil_append, List.set_cons_zero, List.set_cons_succ, List.getElem?_cons_zero, List.getElem?_cons_succ, Nat.add_sub_cancel, Nat.sub_self, Nat.reduceAdd, Nat.reduceSub, Int.reduceAdd, Int.reduceNeg, decide_true, decide_false, Bool.false_xor, Bool.true_xor, Bool.not_true, Bool.not_false]
    have hs : bltV tb.tg .sum false [.lst (b.inner.map fun x => D.int x.parts)] s = .ok (.int (b.parts - 1)) s := by
      have q := sum_lst (T := tb.tg) (c := false) (xs := b.inner.map fun x => (x.parts : Int)) (s := s)
      rw [List.map_map] at q
      have sm : (b.inner.map fun x => (x.parts : Int)).sum = (b.parts : Int) - 1 := by cases b <;> simp [Bd.inner, Bd.parts] <;> omega
      rw [sm] at q
      exact q
    have e1 : (1 : Int) + (b.parts - 1) = b.parts := by omega
    simp [c5, iof, kCmpr_some hL, bc, hs, e1, evA, startE, List.map_cons, List.map_nil, List.length_cons, List.length_nil, List.replicate, List.cons_append, List.nil_append, List.set_cons_zero, List.set_cons_succ, List.getElem?_cons_zero, List.getElem?_cons_succ, Nat.add_sub_cancel, Nat.sub_self, Nat.reduceAdd, Nat.reduceSub, Int.reduceAdd, Int.reduceNeg, decide_true, decide_false, Bool.false_xor, Bool.true_xor, Bool.not_true, Bool.not_false]
  induction k with
  | zero =>
    intro b n s hd hn
    obtain ⟨m, rfl⟩ : ∃ m, n = m + 2 := ⟨n - 2, by omega⟩
    exact step b m s (by omega) fun x hx => by have := inner_dep hx; omega
  | succ k ih =>
    intro b n s hd hn
    obtain ⟨m, rfl⟩ : ∃ m, n = m + 2 := ⟨n - 2, by omega⟩
    refine step b m s (by omega) fun x hx => ?_
    have := inner_dep hx
    exact ih x (m + 1) s (by omega) (by omega)
structure PrOk (ps : List (Int × Bd)) : Prop where
  len : 1 ≤ ps.length ∧ ps.length ≤ 5
  ok : ∀ p ∈ ps, 0 ≤ p.1 ∧ p.1 ≤ 3 ∧ p.2.ok (ps.map (·.1)) p.1 0 ∧ p.2.parts ≤ 30
theorem ok_dep {cs : List Int} : ∀ (b : Bd) (sl : Int) (wi : Nat), b.ok cs sl wi → b.dep + wi ≤ 6
  | .end_ e, sl, wi, h => by simp only [Bd.dep]; have := h.1; omega
  | .say e b, sl, wi, h => by simp only [Bd.dep]; have := ok_dep b sl (wi + 1) h.2.2.2; omega
  | .if_ e a b, sl, wi, h => by simp only [Bd.dep]; have := ok_dep a sl (wi + 1) h.2.2.2.1; have := ok_dep b sl (wi + 1) h.2.2.2.2; omega
  | .turn n as, sl, wi, h => by simp only [Bd.dep]; have := h.1; omega
  | .through e as, sl, wi, h => by simp only [Bd.dep]; have := h.1; omega
  | .with_ n as b, sl, wi, h => by simp only [Bd.dep]; have := ok_dep b (sl + 1) (wi + 1) h.2.2.2.2; omega
end
end PI

namespace PI
open PySem L2
/-- the row of a script, as its cell -/
def RowC (c : Cell) : Prop := ∃ (ns : List Int) (a b z : Int), c = .lst [.frz (ns.map .int), .int a, .int b, .int z] ∧ 0 ≤ a
structure LibG (tb : Tab) : Prop where
  tg : 67 ≤ tb.tg.length
  f43 : tb.fns 43 = some c43
  f45 : tb.fns 45 = some c45
  f46 : tb.fns 46 = some c46
section
variable {tb : Tab} {W : Nat}
theorem ix1 : ixN 4 1 = some 1 := rfl
theorem ix2 : ixN 4 2 = some 2 := rfl
theorem ix3 : ixN 4 3 = some 3 := rfl
theorem taken (h : LibG tb) {n r : Nat} {many : Int} {s : Store} (hr : RowC (s.f r)) (hm : 0 < many) (hm2 : many < 1073741824) (hn : 2 ≤ n) :
    wp (Run tb W n 43 [.cell r, .int many] s) fun d s' => ∃ v c', d = .int v ∧ 0 ≤ v ∧ v < many ∧ RowC c' ∧ s' = s.set r c' := by
  obtain ⟨m, rfl⟩ : ∃ m, n = m + 2 := ⟨n - 2, by omega⟩
  rw [run_at h.f43 rfl]
  obtain ⟨ns, a, b, z, hc, ha⟩ := hr
  have fin : ∀ (x : Int) (a' b' z' : Int), 0 ≤ a' → 0 ≤ x % many ∧ x % many < many ∧ ∃ c', RowC c' ∧ s.set r (.lst [.frz (ns.map .int), .int a', .int b', .int z']) = s.set r c' :=
    fun x a' b' z' ha' => ⟨Int.emod_nonneg _ (by omega), Int.emod_lt_of_pos _ hm, _, ⟨ns, a', b', z', rfl, ha'⟩, rfl⟩
  by_cases h1 : 0 < z
  · simp [c43, hc, h1, hm, hm2, mod_ii, fdiv_ii, ix1, ix2, ix3, evA, startE, List.map_cons, List.map_nil, List.length_cons, List.length_nil, List.replicate, List.cons_append, List.nil_append, List.set_cons_zero, List.set_cons_succ, List.getElem?_cons_zero, List.getElem?_cons_succ, Nat.add_sub_cancel, Nat.sub_self, Nat.reduceAdd, Nat.reduceSub, Int.reduceAdd, Int.reduceNeg, decide_true, decide_false, Bool.false_xor, Bool.true_xor, Bool.not_true, Bool.not_false]
    exact fin _ _ _ _ ha
  · by_cases h2 : (ns.length : Int) < a + 1
    · simp [c43, hc, h1, h2, hm, hm2, mod_ii, mul_ii, fdiv_ii, ix1, ix2, ix3, idx_frz, evA, startE, List.map_cons, List.map_nil, List.length_cons, List.length_nil, List.replicate, List.cons_append, List.nil_append, List.set_cons_zero, List.set_cons_succ, List.getElem?_cons_zero, List.getElem?_cons_succ, Nat.add_sub_cancel, Nat.sub_self, Nat.reduceAdd, Nat.reduceSub, Int.reduceAdd, Int.reduceNeg, decide_true, decide_false, Bool.false_xor, Bool.true_xor, Bool.not_true, Bool.not_false]
      exact fin _ _ _ _ (by omega)
    · have ha2 : a.toNat < ns.length := by omega
      have hcell : atI (ns.map D.int) a = some (.int ns[a.toNat]) := by rw [at_i ha, List.getElem?_map, List.getElem?_eq_getElem ha2] <;> rfl
      have e1 : a + 1 - 1 = a := by omega
      by_cases h3 : (1000000000000000000 : Int) ≤ ns[a.toNat]
      · simp [c43, hc, h1, h2, h3, e1, hm, hm2, mod_ii, mul_ii, fdiv_ii, ix1, ix2, ix3, idx_frz hcell, pow_ii, evA, startE, List.map_cons, List.map_nil, List.length_cons, List.length_nil, List.replicate, List.cons_append, List.nil_append, List.set_cons_zero, List.set_cons_succ, List.getElem?_cons_zero, List.getElem?_cons_succ, Nat.add_sub_cancel, Nat.sub_self, Nat.reduceAdd, Nat.reduceSub, Int.reduceAdd, Int.reduceNeg, decide_true, decide_false, Bool.false_xor, Bool.true_xor, Bool.not_true, Bool.not_false]
        exact fin _ _ _ _ (by omega)
      · simp [c43, hc, h1, h2, h3, e1, hm, hm2, mod_ii, mul_ii, fdiv_ii, ix1, ix2, ix3, idx_frz hcell, pow_ii, evA, startE, List.map_cons, List.map_nil, List.length_cons, List.length_nil, List.replicate, List.cons_append, List.nil_append, List.set_cons_zero, List.set_cons_succ, List.getElem?_cons_zero, List.getElem?_cons_succ, Nat.add_sub_cancel, Nat.sub_self, Nat.reduceAdd, Nat.reduceSub, Int.reduceAdd, Int.reduceNeg, decide_true, decide_false, Bool.false_xor, Bool.true_xor, Bool.not_true, Bool.not_false]
        exact fin _ _ _ _ (by omega)
/-- a step of the row, and its look afterwards -/
theorem at_tags {v : Int} (h0 : 0 ≤ v) (h1 : v < 6) : ∃ w, w < 6 ∧ atI [.tag 0, .tag 1, .tag 2, .tag 3, .tag 4, .tag 5] v = some (D.tag w) := by
  have : v = 0 ∨ v = 1 ∨ v = 2 ∨ v = 3 ∨ v = 4 ∨ v = 5 := by omega
  rcases this with rfl | rfl | rfl | rfl | rfl | rfl
  · exact ⟨0, by omega, rfl⟩
  · exact ⟨1, by omega, rfl⟩
  · exact ⟨2, by omega, rfl⟩
  · exact ⟨3, by omega, rfl⟩
  · exact ⟨4, by omega, rfl⟩
  · exact ⟨5, by omega, rfl⟩
theorem at_3 {v a b c : Int} (h0 : 0 ≤ v) (h1 : v < 3) : ∃ w, (w = a ∨ w = b ∨ w = c) ∧ atI [.int a, .int b, .int c] v = some (D.int w) := by
  have : v = 0 ∨ v = 1 ∨ v = 2 := by omega
  rcases this with rfl | rfl | rfl
  · exact ⟨a, by simp, rfl⟩
  · exact ⟨b, by simp, rfl⟩
  · exact ⟨c, by simp, rfl⟩
def TkQ (r : Nat) (s : Store) (P : D → Prop) (d : D) (s' : Store) : Prop := P d ∧ ∃ c', RowC c' ∧ s' = s.set r c'
theorem lawE (h : LibG tb) {r : Nat} : ∀ (d n : Nat) (slots : Int) (s : Store), RowC (s.f r) → 0 ≤ slots → slots < 1000 → d + 3 ≤ n →
    wp (Run tb W n 45 [.cell r, .int slots, .int d] s) (TkQ r s fun v => ∃ e : Re, v = e.d ∧ e.ok slots d) := by
  intro d
  have base : ∀ (d m : Nat) (slots : Int) (s : Store), RowC (s.f r) → 0 ≤ slots → slots < 1000 → 1 ≤ m → (∀ s : Store, RowC (s.f r) → 0 < d → wp (Run tb W (m + 1) 45 [.cell r, .int slots, .int ((d : Int) - 1)] s) (TkQ r s fun v => ∃ e : Re, v = e.d ∧ e.ok slots (d - 1))) →
      wp (Run tb W (m + 2) 45 [.cell r, .int slots, .int d] s) (TkQ r s fun v => ∃ e : Re, v = e.d ∧ e.ok slots d) := by
    intro d m slots s hr hs hs2 hm ih
    rw [run_at h.f45 rfl]
    simp [c45, evA, startE, List.map_cons, List.map_nil, List.length_cons, List.length_nil, List.replicate, List.cons_append, List.nil_append, List.set_cons_zero, List.set_cons_succ, List.getElem?_cons_zero, List.getElem?_cons_succ, Nat.add_sub_cancel, Nat.sub_self, Nat.reduceAdd, Nat.reduceSub, Int.reduceAdd, Int.reduceNeg, decide_true, decide_false, Bool.false_xor, Bool.true_xor, Bool.not_true, Bool.not_false]
    refine wp_mono (taken h hr (by omega) (by omega) (by omega)) ?_
    rintro _ _ ⟨v1, k1, rfl, v1a, v1b, hk1, rfl⟩
    have t : (4 < v1 ∧ 0 < d) ∨ (4 < v1 ∧ ¬ 0 < d) ∨ (¬ 4 < v1 ∧ ¬ 4 < v1) := by omega
    rcases t with ⟨t1, t2⟩ | ⟨t1, t2⟩ | ⟨t1, t2⟩
    · simp [t1, t2, evA, startE, List.map_cons, List.map_nil, List.length_cons, List.length_nil, List.replicate, List.cons_append, List.nil_append, List.set_cons_zero, List.set_cons_succ, List.getElem?_cons_zero, List.getElem?_cons_succ, Nat.add_sub_cancel, Nat.sub_self, Nat.reduceAdd, Nat.reduceSub, Int.reduceAdd, Int.reduceNeg, decide_true, decide_false, Bool.false_xor, Bool.true_xor, Bool.not_true, Bool.not_false]
      refine wp_mono (taken h (by rw [set_same]; exact hk1) (by omega) (by omega) (by omega)) ?_
      rintro _ _ ⟨v2, k2, rfl, v2a, v2b, hk2, rfl⟩
      obtain ⟨w, hw, ew⟩ := at_tags v2a v2b
      simp [idx_lst ew, evA, startE, List.map_cons, List.map_nil, List.length_cons, List.length_nil, List.replicate, List.cons_append, List.nil_append, List.set_cons_zero, List.set_cons_succ, List.getElem?_cons_zero, List.getElem?_cons_succ, Nat.add_sub_cancel, Nat.sub_self, Nat.reduceAdd, Nat.reduceSub, Int.reduceAdd, Int.reduceNeg, decide_true, decide_false, Bool.false_xor, Bool.true_xor, Bool.not_true, Bool.not_false]
      refine wp_mono (ih _ (by rw [set_same]; exact hk2) t2) ?_
      rintro _ _ ⟨⟨e1, rfl, he1⟩, k3, hk3, rfl⟩
      simp [evA, startE, List.map_cons, List.map_nil, List.length_cons, List.length_nil, List.replicate, List.cons_append, List.nil_append, List.set_cons_zero, List.set_cons_succ, List.getElem?_cons_zero, List.getElem?_cons_succ, Nat.add_sub_cancel, Nat.sub_self, Nat.reduceAdd, Nat.reduceSub, Int.reduceAdd, Int.reduceNeg, decide_true, decide_false, Bool.false_xor, Bool.true_xor, Bool.not_true, Bool.not_false]
      refine wp_mono (ih _ (by rw [set_same]; exact hk3) t2) ?_
      rintro _ _ ⟨⟨e2, rfl, he2⟩, k4, hk4, rfl⟩
      simp [evA, startE, List.map_cons, List.map_nil, List.length_cons, List.length_nil, List.replicate, List.cons_append, List.nil_append, List.set_cons_zero, List.set_cons_succ, List.getElem?_cons_zero, List.getElem?_cons_succ, Nat.add_sub_cancel, Nat.sub_self, Nat.reduceAdd, Nat.reduceSub, Int.reduceAdd, Int.reduceNeg, decide_true, decide_false, Bool.false_xor, Bool.true_xor, Bool.not_true, Bool.not_false]
      exact ⟨⟨.pair w e1 e2, rfl, hw, d - 1, by omega, he1, he2⟩, k4, hk4, rfl⟩
    all_goals
      have u : (1 < v1 ∧ 0 < slots) ∨ (1 < v1 ∧ ¬ 0 < slots) ∨ (¬ 1 < v1 ∧ ¬ 1 < v1) := by omega
      rcases u with ⟨t3, t4⟩ | ⟨t3, t4⟩ | ⟨t3, t4⟩
      · simp [t1, t2, t3, t4, evA, startE, List.map_cons, List.map_nil, List.length_cons, List.length_nil, List.replicate, List.cons_append, List.nil_append, List.set_cons_zero, List.set_cons_succ, List.getElem?_cons_zero, List.getElem?_cons_succ, Nat.add_sub_cancel, Nat.sub_self, Nat.reduceAdd, Nat.reduceSub, Int.reduceAdd, Int.reduceNeg, decide_true, decide_false, Bool.false_xor, Bool.true_xor, Bool.not_true, Bool.not_false]
        refine wp_mono (taken h (by rw [set_same]; exact hk1) (by omega) (by omega) (by omega)) ?_
        rintro _ _ ⟨v2, k2, rfl, v2a, v2b, hk2, rfl⟩
        simp [evA, startE, List.map_cons, List.map_nil, List.length_cons, List.length_nil, List.replicate, List.cons_append, List.nil_append, List.set_cons_zero, List.set_cons_succ, List.getElem?_cons_zero, List.getElem?_cons_succ, Nat.add_sub_cancel, Nat.sub_self, Nat.reduceAdd, Nat.reduceSub, Int.reduceAdd, Int.reduceNeg, decide_true, decide_false, Bool.false_xor, Bool.true_xor, Bool.not_true, Bool.not_false]
        exact ⟨⟨.slot v2, rfl, v2a, v2b⟩, k2, hk2, rfl⟩
      all_goals
        simp [t1, t2, t3, t4, evA, startE, List.map_cons, List.map_nil, List.length_cons, List.length_nil, List.replicate, List.cons_append, List.nil_append, List.set_cons_zero, List.set_cons_succ, List.getElem?_cons_zero, List.getElem?_cons_succ, Nat.add_sub_cancel, Nat.sub_self, Nat.reduceAdd, Nat.reduceSub, Int.reduceAdd, Int.reduceNeg, decide_true, decide_false, Bool.false_xor, Bool.true_xor, Bool.not_true, Bool.not_false]
        refine wp_mono (taken h (by rw [set_same]; exact hk1) (by omega) (by omega) (by omega)) ?_
        rintro _ _ ⟨v2, k2, rfl, v2a, v2b, hk2, rfl⟩
        obtain ⟨w, hw, ew⟩ := at_3 (a := 3) (b := 12) (c := 1000) v2a v2b
        simp [idx_lst ew, evA, startE, List.map_cons, List.map_nil, List.length_cons, List.length_nil, List.replicate, List.cons_append, List.nil_append, List.set_cons_zero, List.set_cons_succ, List.getElem?_cons_zero, List.getElem?_cons_succ, Nat.add_sub_cancel, Nat.sub_self, Nat.reduceAdd, Nat.reduceSub, Int.reduceAdd, Int.reduceNeg, decide_true, decide_false, Bool.false_xor, Bool.true_xor, Bool.not_true, Bool.not_false]
        refine wp_mono (taken h (by rw [set_same]; exact hk2) (by omega) (by omega) (by omega)) ?_
        rintro _ _ ⟨v3, k3, rfl, v3a, v3b, hk3, rfl⟩
        simp [evA, startE, List.map_cons, List.map_nil, List.length_cons, List.length_nil, List.replicate, List.cons_append, List.nil_append, List.set_cons_zero, List.set_cons_succ, List.getElem?_cons_zero, List.getElem?_cons_succ, Nat.add_sub_cancel, Nat.sub_self, Nat.reduceAdd, Nat.reduceSub, Int.reduceAdd, Int.reduceNeg, decide_true, decide_false, Bool.false_xor, Bool.true_xor, Bool.not_true, Bool.not_false]
        exact ⟨⟨.num v3, rfl, v3a, by omega⟩, k3, hk3, rfl⟩
  induction d with
  | zero =>
    intro n slots s hr hs hs2 hn
    obtain ⟨m, rfl⟩ : ∃ m, n = m + 2 := ⟨n - 2, by omega⟩
    exact base 0 m slots s hr hs hs2 (by omega) fun _ _ h0 => absurd h0 (by omega)
  | succ d ih =>
    intro n slots s hr hs hs2 hn
    obtain ⟨m, rfl⟩ : ∃ m, n = m + 2 := ⟨n - 2, by omega⟩
    refine base (d + 1) m slots s hr hs hs2 (by omega) fun s hr _ => ?_
    have e : ((d + 1 : Nat) : Int) - 1 = d := by omega
    rw [e]
    exact ih (m + 1) slots s hr hs hs2 (by omega)
theorem res_of {sl : Int} {d : Nat} : ∀ {ys : List D}, (∀ y ∈ ys, ∃ e : Re, y = e.d ∧ e.ok sl d) → ∃ as : List Re, ys = as.map Re.d ∧ ∀ a ∈ as, a.ok sl d
  | [], _ => ⟨[], rfl, fun _ h => by cases h⟩
  | y :: ys, h => by
    obtain ⟨e, rfl, he⟩ := h y List.mem_cons_self
    obtain ⟨as, rfl, ha⟩ := res_of (ys := ys) fun z hz => h z (List.mem_cons_of_mem _ hz)
    exact ⟨e :: as, rfl, fun a h => by
      rcases List.mem_cons.mp h with rfl | h
      · exact he
      · exact ha a h⟩
theorem Re.mono {sl : Int} : ∀ (e : Re) {d d' : Nat}, e.ok sl d → d ≤ d' → e.ok sl d'
  | .num i, _, _, h, _ => h
  | .slot i, _, _, h, _ => h
  | .pair w a b, _, _, ⟨h1, k, rfl, ha, hb⟩, hd => ⟨h1, _, (Nat.sub_add_cancel (by omega : 1 ≤ _)).symm, a.mono ha (by omega), b.mono hb (by omega)⟩
/-- the tuple of arguments -/
def ArQ (r : Nat) (s : Store) (many : Nat) (slots : Int) (d : D) (s' : Store) : Prop := (∃ as : List Re, d = .tup (as.map Re.d) ∧ as.length = many ∧ ∀ a ∈ as, a.ok slots 3) ∧ RowC (s'.f r) ∧ Chg (· = r) s s'
theorem Chg.setr {r : Nat} {s : Store} {c : Cell} : Chg (fun k => k = r) s (s.set r c) := Chg.set rfl
theorem lawArgs (h : LibG tb) {r many n : Nat} {slots : Int} {s : Store} (hr : RowC (s.f r)) (hrn : r < s.n) (hs : 0 ≤ slots) (hs2 : slots < 1000) (hm : many ≤ 100) (hn : 10 ≤ n) :
    wp (Run tb W n 46 [.cell r, .int slots, .int many] s) (ArQ r s many slots) := by
  obtain ⟨m, rfl⟩ : ∃ m, n = m + 2 := ⟨n - 2, by omega⟩
  rw [run_at h.f46 rfl]
  have hlim : -(LIM : Int) ≤ (many : Int) ∧ (many : Int) ≤ (LIM : Int) := by unfold LIM; omega
  have hL : ((List.range many).map fun (i : Nat) => D.int (i : Int)).length ≤ LIM := by simp [LIM]; omega
  simp [c46, rng_ok hlim, kCmpr_some hL, evA, startE, List.map_cons, List.map_nil, List.length_cons, List.length_nil, List.replicate, List.cons_append, List.nil_append, List.set_cons_zero, List.set_cons_succ, List.getElem?_cons_zero, List.getElem?_cons_succ, Nat.add_sub_cancel, Nat.sub_self, Nat.reduceAdd, Nat.reduceSub, Int.reduceAdd, Int.reduceNeg, decide_true, decide_false, Bool.false_xor, Bool.true_xor, Bool.not_true, Bool.not_false]
  have cw := comp_wp (g := bindW (.name 4) [4] [some (.cell r), some (.int slots), some (.int many), none, none]) (c := evalE (GG tb W m) (.cst (.bl true))) (e := evalE (GG tb W m) (.call 45 (.cons (.var 0) (.cons (.var 1) (.cons (.call 43 (.cons (.var 0) (.cons (.cst (.int (4))) .nil))) .nil))))) (Inv := fun s1 => ∃ c', RowC c' ∧ s1 = s.set r c') (P := fun y => ∃ e : Re, y = e.d ∧ e.ok slots 3) (xs := (List.range many).map fun (i : Nat) => D.int (i : Int)) (s := s)
    (fun x hx s1 hs1 => ?_) ⟨s.f r, hr, set_self.symm⟩
  · refine wp_mono cw ?_
    rintro ys _ ⟨hl, hys, c1, hc1, rfl⟩
    obtain ⟨as, rfl, has⟩ := res_of hys
    have hl : as.length = many := by simpa using hl
    have ne1 : r ≠ s.n := by omega
    have ne2 : s.n ≠ r := by omega
    by_cases t : 0 < many ∧ 0 < slots
    · obtain ⟨t1, t2⟩ := t
      simp [t1, t2, newLt, evA, startE, List.map_cons, List.map_nil, List.length_cons, List.length_nil, List.replicate, List.cons_append, List.nil_append, List.set_cons_zero, List.set_cons_succ, List.getElem?_cons_zero, List.getElem?_cons_succ, Nat.add_sub_cancel, Nat.sub_self, Nat.reduceAdd, Nat.reduceSub, Int.reduceAdd, Int.reduceNeg, decide_true, decide_false, Bool.false_xor, Bool.true_xor, Bool.not_true, Bool.not_false]
      refine wp_mono (taken h (by simp [new_f, set_f, ne1, evA, startE, List.map_cons, List.map_nil, List.length_cons, List.length_nil, List.replicate, List.cons_append, List.nil_append, List.set_cons_zero, List.set_cons_succ, List.getElem?_cons_zero, List.getElem?_cons_succ, Nat.add_sub_cancel, Nat.sub_self, Nat.reduceAdd, Nat.reduceSub, Int.reduceAdd, Int.reduceNeg, decide_true, decide_false, Bool.false_xor, Bool.true_xor, Bool.not_true, Bool.not_false]; exact hc1) (by omega) (by omega) (by omega)) ?_
      rintro _ _ ⟨v2, k2, rfl, v2a, v2b, hk2, rfl⟩
      by_cases t3 : 0 < v2
      · have hz : ixN as.length 0 = some 0 := by unfold ixN; rw [if_pos (by omega), if_pos (by omega)]; rfl
        simp [t3, new_f, set_f, ne1, ne2, hz, evA, startE, List.map_cons, List.map_nil, List.length_cons, List.length_nil, List.replicate, List.cons_append, List.nil_append, List.set_cons_zero, List.set_cons_succ, List.getElem?_cons_zero, List.getElem?_cons_succ, Nat.add_sub_cancel, Nat.sub_self, Nat.reduceAdd, Nat.reduceSub, Int.reduceAdd, Int.reduceNeg, decide_true, decide_false, Bool.false_xor, Bool.true_xor, Bool.not_true, Bool.not_false]
        refine ⟨⟨as.set 0 (.pair 1 (.slot 0) (.num 1)), by rw [List.map_set]; rfl, by simpa using hl, fun a ha => ?_⟩, by simp [set_f, ne1]; exact hk2, ?_⟩
        · rcases List.mem_or_eq_of_mem_set ha with q | rfl
          · exact has a q
          · exact ⟨by omega, 2, rfl, ⟨by omega, by omega⟩, ⟨by omega, by omega⟩⟩
        · refine Chg.setNew ?_ (Nat.le_refl _)
          exact (Chg.setr.trans Chg.new).trans Chg.setr
      · simp [t3, new_f, set_f, ne1, ne2, evA, startE, List.map_cons, List.map_nil, List.length_cons, List.length_nil, List.replicate, List.cons_append, List.nil_append, List.set_cons_zero, List.set_cons_succ, List.getElem?_cons_zero, List.getElem?_cons_succ, Nat.add_sub_cancel, Nat.sub_self, Nat.reduceAdd, Nat.reduceSub, Int.reduceAdd, Int.reduceNeg, decide_true, decide_false, Bool.false_xor, Bool.true_xor, Bool.not_true, Bool.not_false]
        exact ⟨⟨as, rfl, hl, has⟩, by simp [set_f]; exact hk2, (Chg.setr.trans Chg.new).trans Chg.setr⟩
    · have t' : (0 < many ∧ ¬ 0 < slots) ∨ (¬ 0 < many ∧ ¬ 0 < many) := by omega
      rcases t' with ⟨t1, t2⟩ | ⟨t1, t2⟩
      all_goals
        simp [t1, t2, newLt, new_f, set_f, ne1, ne2, evA, startE, List.map_cons, List.map_nil, List.length_cons, List.length_nil, List.replicate, List.cons_append, List.nil_append, List.set_cons_zero, List.set_cons_succ, List.getElem?_cons_zero, List.getElem?_cons_succ, Nat.add_sub_cancel, Nat.sub_self, Nat.reduceAdd, Nat.reduceSub, Int.reduceAdd, Int.reduceNeg, decide_true, decide_false, Bool.false_xor, Bool.true_xor, Bool.not_true, Bool.not_false]
        exact ⟨⟨as, rfl, hl, has⟩, by simp [new_f, set_f, ne1, evA, startE, List.map_cons, List.map_nil, List.length_cons, List.length_nil, List.replicate, List.cons_append, List.nil_append, List.set_cons_zero, List.set_cons_succ, List.getElem?_cons_zero, List.getElem?_cons_succ, Nat.add_sub_cancel, Nat.sub_self, Nat.reduceAdd, Nat.reduceSub, Int.reduceAdd, Int.reduceNeg, decide_true, decide_false, Bool.false_xor, Bool.true_xor, Bool.not_true, Bool.not_false]; exact hc1, Chg.setr.trans Chg.new⟩
  · obtain ⟨c1, hc1, rfl⟩ := hs1
    refine ⟨_, rfl, by simp [evA, startE, List.map_cons, List.map_nil, List.length_cons, List.length_nil, List.replicate, List.cons_append, List.nil_append, List.set_cons_zero, List.set_cons_succ, List.getElem?_cons_zero, List.getElem?_cons_succ, Nat.add_sub_cancel, Nat.sub_self, Nat.reduceAdd, Nat.reduceSub, Int.reduceAdd, Int.reduceNeg, decide_true, decide_false, Bool.false_xor, Bool.true_xor, Bool.not_true, Bool.not_false], ?_⟩
    simp [wipeD, evA, startE, List.map_cons, List.map_nil, List.length_cons, List.length_nil, List.replicate, List.cons_append, List.nil_append, List.set_cons_zero, List.set_cons_succ, List.getElem?_cons_zero, List.getElem?_cons_succ, Nat.add_sub_cancel, Nat.sub_self, Nat.reduceAdd, Nat.reduceSub, Int.reduceAdd, Int.reduceNeg, decide_true, decide_false, Bool.false_xor, Bool.true_xor, Bool.not_true, Bool.not_false]
    refine wp_mono (taken h (by rw [set_same]; exact hc1) (by omega) (by omega) (by omega)) ?_
    rintro _ _ ⟨v1, k1, rfl, v1a, v1b, hk1, rfl⟩
    simp [evA, startE, List.map_cons, List.map_nil, List.length_cons, List.length_nil, List.replicate, List.cons_append, List.nil_append, List.set_cons_zero, List.set_cons_succ, List.getElem?_cons_zero, List.getElem?_cons_succ, Nat.add_sub_cancel, Nat.sub_self, Nat.reduceAdd, Nat.reduceSub, Int.reduceAdd, Int.reduceNeg, decide_true, decide_false, Bool.false_xor, Bool.true_xor, Bool.not_true, Bool.not_false]
    obtain ⟨d, rfl⟩ : ∃ d : Nat, v1 = d := ⟨v1.toNat, by omega⟩
    refine wp_mono (lawE h d (m + 1) slots _ (by rw [set_same]; exact hk1) hs hs2 (by omega)) ?_
    rintro _ _ ⟨⟨e, rfl, he⟩, k2, hk2, rfl⟩
    exact ⟨⟨e, rfl, e.mono he (by omega)⟩, k2, hk2, by rw [set_set]⟩
end
end PI

namespace PI
open PySem L2
structure GS (s : Store) (r b cc : Nat) (cs : List Int) (n1 n2 : Int) : Prop where
  row : RowC (s.f r)
  box : s.f b = .lst [.cell cc, .int n1, .int n2]
  cnt : s.f cc = .lst (cs.map .int)
  lr : r < s.n
  lb : b < s.n
  lc : cc < s.n
  rb : r ≠ b
  rc : r ≠ cc
  bc : b ≠ cc
def RB (r b : Nat) : Nat → Prop := fun k => k = r ∨ k = b
structure CsOk (cs : List Int) : Prop where
  len : 1 ≤ cs.length ∧ cs.length ≤ 5
  ok : ∀ c ∈ cs, 0 ≤ c ∧ c ≤ 3
section
variable {s s' : Store} {r b cc : Nat} {cs : List Int} {n1 n2 : Int}
theorem GS.chg (g : GS s r b cc cs n1 n2) (hr : RowC (s'.f r)) (h : Chg (fun k => k = r) s s') : GS s' r b cc cs n1 n2 :=
  ⟨hr, (h.2 b g.lb (Ne.symm g.rb)).trans g.box, (h.2 cc g.lc (Ne.symm g.rc)).trans g.cnt, Nat.lt_of_lt_of_le g.lr h.1, Nat.lt_of_lt_of_le g.lb h.1, Nat.lt_of_lt_of_le g.lc h.1, g.rb, g.rc, g.bc⟩
theorem GS.setBox (g : GS s r b cc cs n1 n2) (m1 m2 : Int) : GS (s.set b (.lst [.cell cc, .int m1, .int m2])) r b cc cs m1 m2 :=
  ⟨by rw [set_ne g.rb]; exact g.row, set_same, by rw [set_ne (Ne.symm g.bc)]; exact g.cnt, g.lr, g.lb, g.lc, g.rb, g.rc, g.bc⟩
theorem Chg.rb (h : Chg (fun k => k = r) s s') : Chg (RB r b) s s' := h.imp fun _ e => .inl e
variable {tb : Tab} {W : Nat}
theorem takenG (h : LibG tb) {n : Nat} {many : Int} (g : GS s r b cc cs n1 n2) (hm : 0 < many) (hm2 : many < 1073741824) (hn : 2 ≤ n) :
    wp (Run tb W n 43 [.cell r, .int many] s) fun d s' => ∃ v, d = .int v ∧ 0 ≤ v ∧ v < many ∧ GS s' r b cc cs n1 n2 ∧ Chg (RB r b) s s' :=
  wp_mono (taken h g.row hm hm2 hn) fun d s' ⟨v, c', e, h0, h1, hc, es⟩ => by
    subst es
    exact ⟨v, e, h0, h1, g.chg (by rw [set_same]; exact hc) Chg.setr, Chg.setr.rb⟩
theorem lawEG (h : LibG tb) {n : Nat} {sl : Int} (d : Nat) (g : GS s r b cc cs n1 n2) (h0 : 0 ≤ sl) (h1 : sl < 1000) (hn : d + 3 ≤ n) :
    wp (Run tb W n 45 [.cell r, .int sl, .int d] s) fun v s' => ∃ e : Re, v = e.d ∧ e.ok sl d ∧ GS s' r b cc cs n1 n2 ∧ Chg (RB r b) s s' :=
  wp_mono (lawE h d n sl s g.row h0 h1 hn) fun v s' ⟨⟨e, e1, he⟩, c', hc, es⟩ => by
    subst es
    exact ⟨e, e1, he, g.chg (by rw [set_same]; exact hc) Chg.setr, Chg.setr.rb⟩
theorem argsG (h : LibG tb) {n many : Nat} {sl : Int} (g : GS s r b cc cs n1 n2) (h0 : 0 ≤ sl) (h1 : sl < 1000) (hm : many ≤ 100) (hn : 10 ≤ n) :
    wp (Run tb W n 46 [.cell r, .int sl, .int many] s) fun v s' => ∃ as : List Re, v = .tup (as.map Re.d) ∧ as.length = many ∧ (∀ a ∈ as, a.ok sl 3) ∧ GS s' r b cc cs n1 n2 ∧ Chg (RB r b) s s' :=
  wp_mono (lawArgs h g.row g.lr h0 h1 hm hn) fun v s' ⟨⟨as, e, hl, ha⟩, hr, hc⟩ => ⟨as, e, hl, ha, g.chg hr hc, hc.rb⟩
end
theorem Re.dat {T : Nat} (hT : 67 ≤ T) : ∀ (e : Re) {sl : Int} {d : Nat}, e.ok sl d → datD T e.d = true
  | .num i, _, _, _ => by simp only [Re.d, datD, datL]; simp; omega
  | .slot i, _, _, _ => by simp only [Re.d, datD, datL]; simp; omega
  | .pair w a b, _, _, ⟨h1, k, _, ha, hb⟩ => by
    simp only [Re.d, datD, datL, a.dat hT ha, b.dat hT hb]
    simp; omega
theorem datL_map {T : Nat} (hT : 67 ≤ T) {sl : Int} {d : Nat} : ∀ {as : List Re}, (∀ a ∈ as, a.ok sl d) → datL T (as.map Re.d) = true
  | [], _ => rfl
  | a :: as, h => by
    simp only [List.map_cons, datL, a.dat hT (h a List.mem_cons_self), Bool.true_and]
    exact datL_map hT fun x hx => h x (List.mem_cons_of_mem _ hx)
theorem ne_unit {T : List Str} {s : Store} (hT : 67 ≤ T.length) {sl : Int} {d : Nat} {as : List Re} (h : ∀ a ∈ as, a.ok sl d) : eqV' T true (.tup (as.map Re.d)) (.tup []) s = .ok (.bl (!as.isEmpty)) s := by
  unfold eqV'
  simp only [qdr_tupl, datD, datL_map hT h, datL, depD, depL]
  cases as with
  | nil => simp [eqvD, eqvL]
  | cons a as => simp [eqvD, eqvL]
theorem cut_last {xs : List D} : cutD xs none (some (-1)) = xs.dropLast := by
  unfold cutD
  have e1 : HT.sIx xs.length 0 none = 0 := rfl
  have e2 : HT.sIx xs.length xs.length (some (-1)) = xs.length - 1 := by
    show (if (-1 : Int) < 0 then ((-1 : Int) + (xs.length : Int)).toNat else min (-1 : Int).toNat xs.length) = _
    rw [if_pos (by omega)]
    omega
  rw [e1, e2, List.dropLast_eq_take]
  rfl
theorem slc_tup {T : List Str} {c : Bool} {xs : List D} {lo hi : Option Int} {s : Store} : slcV T c (.tup xs) lo hi s = .ok (.tup (cutD xs lo hi)) s := rfl
structure LibB (tb : Tab) : Prop extends LibG tb where
  f47 : tb.fns 47 = some c47
  f48 : tb.fns 48 = some c48
/-- a body without a with -/
def Bd.noW : Bd → Prop
  | .say _ b => b.noW
  | .if_ _ a b => a.noW ∧ b.noW
  | .with_ _ _ _ => False
  | _ => True
/-- what a body is, after -/
def BdQ (s : Store) (r b cc : Nat) (cs : List Int) (n1 n2 : Int) (d : Nat) (sl : Int) (x : Int) (k : Int) (v : D) (s' : Store) : Prop :=
  ∃ bd : Bd, v = bd.d ∧ (∀ wi, wi + d ≤ 6 → bd.ok cs sl wi) ∧ ∃ m1 m2, GS s' r b cc cs m1 m2 ∧ Chg (RB r b) s s' ∧ (bd.parts : Int) = n1 - m1 + x ∧ (n1 - 1 ≤ m1 ∨ k - d ≤ m1) ∧ (n2 ≤ 0 → bd.noW ∧ m2 ≤ 0)
section
variable {tb : Tab} {W : Nat}
def BodyS (tb : Tab) (W n d : Nat) : Prop := ∀ (s : Store) (r b cc : Nat) (cs : List Int) (n1 n2 sl : Int), GS s r b cc cs n1 n2 → CsOk cs → 0 ≤ sl → sl ≤ 8 →
  wp (Run tb W n 48 [.cell r, .cell b, .int sl, .int d] s) (BdQ s r b cc cs n1 n2 d sl 0 3)
def CallS (tb : Tab) (W n d : Nat) : Prop := ∀ (s : Store) (r b cc : Nat) (cs : List Int) (n1 n2 sl : Int), GS s r b cc cs n1 n2 → CsOk cs → 0 ≤ sl → sl ≤ 8 →
  wp (Run tb W n 47 [.cell r, .cell b, .int sl, .int d] s) (BdQ s r b cc cs n1 n2 d sl 1 4)
theorem callStep (h : LibB tb) {m d : Nat} (hm : 12 ≤ m) (hb : 0 < d → BodyS tb W (m + 1) (d - 1)) : CallS tb W (m + 2) d := by
  intro s r b cc cs n1 n2 sl g hcs hs0 hs1
  have hG := h.toLibG
  have hT := h.tg
  rw [run_at h.f47 rfl]
  have l1 : (1 : Int) ≤ cs.length := by have := hcs.len.1; omega
  have l2 : (cs.length : Int) ≤ 5 := by have := hcs.len.2; omega
  simp [c47, g.box, g.cnt, idxC_lst, evA, startE, List.map_cons, List.map_nil, List.length_cons, List.length_nil, List.replicate, List.cons_append, List.nil_append, List.set_cons_zero, List.set_cons_succ, List.getElem?_cons_zero, List.getElem?_cons_succ, Nat.add_sub_cancel, Nat.sub_self, Nat.reduceAdd, Nat.reduceSub, Int.reduceAdd, Int.reduceNeg, decide_true, decide_false, Bool.false_xor, Bool.true_xor, Bool.not_true, Bool.not_false]
  refine wp_mono (takenG hG g (by omega) (by omega) (by omega)) ?_
  rintro _ s1 ⟨v1, rfl, v1a, v1b, g1, ch1⟩
  have hv1 : v1.toNat < cs.length := by omega
  have i1 : atI (cs.map D.int) v1 = some (.int cs[v1.toNat]) := by rw [at_i v1a, List.getElem?_map, List.getElem?_eq_getElem hv1] <;> rfl
  obtain ⟨c0, c1⟩ := hcs.ok _ (List.getElem_mem hv1)
  obtain ⟨cn, ecn⟩ : ∃ cn : Nat, cs[v1.toNat] = cn := ⟨cs[v1.toNat].toNat, by omega⟩
  simp [g1.box, g1.cnt, i1, ecn, evA, startE, List.map_cons, List.map_nil, List.length_cons, List.length_nil, List.replicate, List.cons_append, List.nil_append, List.set_cons_zero, List.set_cons_succ, List.getElem?_cons_zero, List.getElem?_cons_succ, Nat.add_sub_cancel, Nat.sub_self, Nat.reduceAdd, Nat.reduceSub, Int.reduceAdd, Int.reduceNeg, decide_true, decide_false, Bool.false_xor, Bool.true_xor, Bool.not_true, Bool.not_false]
  refine wp_mono (argsG hG g1 hs0 (by omega) (many := cn) (by omega) (by omega)) ?_
  rintro _ s2 ⟨as, rfl, hl, has, g2, ch2⟩
  simp [evA, startE, List.map_cons, List.map_nil, List.length_cons, List.length_nil, List.replicate, List.cons_append, List.nil_append, List.set_cons_zero, List.set_cons_succ, List.getElem?_cons_zero, List.getElem?_cons_succ, Nat.add_sub_cancel, Nat.sub_self, Nat.reduceAdd, Nat.reduceSub, Int.reduceAdd, Int.reduceNeg, decide_true, decide_false, Bool.false_xor, Bool.true_xor, Bool.not_true, Bool.not_false]
  refine wp_mono (takenG hG g2 (by omega) (by omega) (by omega)) ?_
  rintro _ s3 ⟨v3, rfl, v3a, v3b, g3, ch3⟩
  have ao : ArgsOk cs v1 as sl := ⟨v1a, by rw [List.getElem?_eq_getElem hv1, ecn, hl], has⟩
  have ch13 := (ch1.trans ch2).trans ch3
  by_cases t0 : v3 = 0
  · subst t0
    simp [evA, startE, List.map_cons, List.map_nil, List.length_cons, List.length_nil, List.replicate, List.cons_append, List.nil_append, List.set_cons_zero, List.set_cons_succ, List.getElem?_cons_zero, List.getElem?_cons_succ, Nat.add_sub_cancel, Nat.sub_self, Nat.reduceAdd, Nat.reduceSub, Int.reduceAdd, Int.reduceNeg, decide_true, decide_false, Bool.false_xor, Bool.true_xor, Bool.not_true, Bool.not_false]
    refine wp_mono (lawEG hG 1 g3 hs0 (by omega) (by omega)) ?_
    rintro _ s4 ⟨e1, rfl, he1, g4, ch4⟩
    simp [evA, startE, List.map_cons, List.map_nil, List.length_cons, List.length_nil, List.replicate, List.cons_append, List.nil_append, List.set_cons_zero, List.set_cons_succ, List.getElem?_cons_zero, List.getElem?_cons_succ, Nat.add_sub_cancel, Nat.sub_self, Nat.reduceAdd, Nat.reduceSub, Int.reduceAdd, Int.reduceNeg, decide_true, decide_false, Bool.false_xor, Bool.true_xor, Bool.not_true, Bool.not_false]
    refine wp_mono (takenG hG g4 (by omega) (by omega) (by omega)) ?_
    rintro _ s5 ⟨v5, rfl, v5a, v5b, g5, ch5⟩
    obtain ⟨e2, ie, he2⟩ : ∃ e2 : Re, atI [.tup [.tag 13, .int v1], e1.d] (v5 / 2) = some e2.d ∧ e2.ok sl 3 := by
      have : v5 / 2 = 0 ∨ v5 / 2 = 1 := by omega
      rcases this with q | q
      · exact ⟨.num v1, by rw [q]; rfl, v1a, by omega⟩
      · exact ⟨e1, by rw [q]; rfl, e1.mono he1 (by omega)⟩
    simp [fdiv_ii, idx_lst ie, evA, startE, List.map_cons, List.map_nil, List.length_cons, List.length_nil, List.replicate, List.cons_append, List.nil_append, List.set_cons_zero, List.set_cons_succ, List.getElem?_cons_zero, List.getElem?_cons_succ, Nat.add_sub_cancel, Nat.sub_self, Nat.reduceAdd, Nat.reduceSub, Int.reduceAdd, Int.reduceNeg, decide_true, decide_false, Bool.false_xor, Bool.true_xor, Bool.not_true, Bool.not_false]
    refine wp_mono (takenG hG g5 (by omega) (by omega) (by omega)) ?_
    rintro _ s6 ⟨v6, rfl, v6a, v6b, g6, ch6⟩
    have ch16 := ((ch13.trans ch4).trans ch5).trans ch6
    have fin : ∀ (as : List Re) (s' : Store), as.length ≤ 3 → (∀ a ∈ as, a.ok sl 3) → GS s' r b cc cs n1 n2 → Chg (RB r b) s s' → BdQ s r b cc cs n1 n2 d sl 1 4 (.tup [.tag 10, e2.d, .tup (as.map Re.d)]) s' :=
      fun as s' hl ha g' ch' => ⟨.through e2 as, rfl, fun wi hw => ⟨by omega, hs1, hl, he2, ha⟩, n1, n2, g', ch', by simp [Bd.parts], .inl (by omega), fun q => ⟨trivial, q⟩⟩
    by_cases t6 : v6 = 2
    · subst t6
      simp [evA, startE, List.map_cons, List.map_nil, List.length_cons, List.length_nil, List.replicate, List.cons_append, List.nil_append, List.set_cons_zero, List.set_cons_succ, List.getElem?_cons_zero, List.getElem?_cons_succ, Nat.add_sub_cancel, Nat.sub_self, Nat.reduceAdd, Nat.reduceSub, Int.reduceAdd, Int.reduceNeg, decide_true, decide_false, Bool.false_xor, Bool.true_xor, Bool.not_true, Bool.not_false]
      refine wp_mono (takenG hG g6 (by omega) (by omega) (by omega)) ?_
      rintro _ s7 ⟨v7, rfl, v7a, v7b, g7, ch7⟩
      obtain ⟨c7, rfl⟩ : ∃ c7 : Nat, v7 = c7 := ⟨v7.toNat, by omega⟩
      simp [evA, startE, List.map_cons, List.map_nil, List.length_cons, List.length_nil, List.replicate, List.cons_append, List.nil_append, List.set_cons_zero, List.set_cons_succ, List.getElem?_cons_zero, List.getElem?_cons_succ, Nat.add_sub_cancel, Nat.sub_self, Nat.reduceAdd, Nat.reduceSub, Int.reduceAdd, Int.reduceNeg, decide_true, decide_false, Bool.false_xor, Bool.true_xor, Bool.not_true, Bool.not_false]
      refine wp_mono (argsG hG g7 hs0 (by omega) (many := c7) (by omega) (by omega)) ?_
      rintro _ s8 ⟨as2, rfl, hl2, has2, g8, ch8⟩
      have ch18 := (ch16.trans ch7).trans ch8
      simp [ne_unit hT has2, evA, startE, List.map_cons, List.map_nil, List.length_cons, List.length_nil, List.replicate, List.cons_append, List.nil_append, List.set_cons_zero, List.set_cons_succ, List.getElem?_cons_zero, List.getElem?_cons_succ, Nat.add_sub_cancel, Nat.sub_self, Nat.reduceAdd, Nat.reduceSub, Int.reduceAdd, Int.reduceNeg, decide_true, decide_false, Bool.false_xor, Bool.true_xor, Bool.not_true, Bool.not_false]
      cases as2 with
      | nil =>
        simp [evA, startE, List.map_cons, List.map_nil, List.length_cons, List.length_nil, List.replicate, List.cons_append, List.nil_append, List.set_cons_zero, List.set_cons_succ, List.getElem?_cons_zero, List.getElem?_cons_succ, Nat.add_sub_cancel, Nat.sub_self, Nat.reduceAdd, Nat.reduceSub, Int.reduceAdd, Int.reduceNeg, decide_true, decide_false, Bool.false_xor, Bool.true_xor, Bool.not_true, Bool.not_false]
        exact fin [] s8 (by simp) (fun _ h => by cases h) g8 ch18
      | cons a2 as3 =>
        simp [evA, startE, List.map_cons, List.map_nil, List.length_cons, List.length_nil, List.replicate, List.cons_append, List.nil_append, List.set_cons_zero, List.set_cons_succ, List.getElem?_cons_zero, List.getElem?_cons_succ, Nat.add_sub_cancel, Nat.sub_self, Nat.reduceAdd, Nat.reduceSub, Int.reduceAdd, Int.reduceNeg, decide_true, decide_false, Bool.false_xor, Bool.true_xor, Bool.not_true, Bool.not_false]
        refine wp_mono (takenG hG g8 (by omega) (by omega) (by omega)) ?_
        rintro _ s9 ⟨v9, rfl, v9a, v9b, g9, ch9⟩
        have hl3 : (a2 :: as3).length ≤ 3 := by omega
        by_cases t9 : v9 = 1
        · subst t9
          have ovr : Re.ok sl (.pair 3 (.num 1) (.num 0)) 3 := ⟨by omega, 2, rfl, ⟨by omega, by omega⟩, ⟨by omega, by omega⟩⟩
          have e3 : (a2.d :: as3.map Re.d).dropLast ++ [(Re.pair 3 (.num 1) (.num 0)).d] = ((a2 :: as3).dropLast ++ [Re.pair 3 (.num 1) (.num 0)]).map Re.d := by
            rw [List.map_append, List.map_dropLast]; rfl
          have hlim : (a2.d :: as3.map Re.d).dropLast.length + [(Re.pair 3 (.num 1) (.num 0)).d].length ≤ LIM := by
            simp at hl3
            simp [LIM]; omega
          have e4 : D.tup [D.tag 3, D.tup [D.tag 13, D.int 1], D.tup [D.tag 13, D.int 0]] = (Re.pair 3 (.num 1) (.num 0)).d := rfl
          simp only [cut_last, slc_tup, e4, add_tt hlim, e3, decide_eq_true (rfl : (1 : Int) = 1), evA, startE, List.map_cons, List.map_nil, List.length_cons, List.length_nil, List.replicate, List.cons_append, List.nil_append, List.set_cons_zero, List.set_cons_succ, List.getElem?_cons_zero, List.getElem?_cons_succ, Nat.add_sub_cancel, Nat.sub_self, Nat.reduceAdd, Nat.reduceSub, Int.reduceAdd, Int.reduceNeg, decide_true, decide_false, Bool.false_xor, Bool.true_xor, Bool.not_true, Bool.not_false]
          refine fin _ s9 (by simp at hl3 ⊢; omega) (fun a ha => ?_) g9 (ch18.trans ch9)
          rcases List.mem_append.mp ha with q | q
          · exact has2 a ((List.dropLast_sublist _).subset q)
          · rw [List.mem_singleton.mp q]; exact ovr
        · simp [t9, evA, startE, List.map_cons, List.map_nil, List.length_cons, List.length_nil, List.replicate, List.cons_append, List.nil_append, List.set_cons_zero, List.set_cons_succ, List.getElem?_cons_zero, List.getElem?_cons_succ, Nat.add_sub_cancel, Nat.sub_self, Nat.reduceAdd, Nat.reduceSub, Int.reduceAdd, Int.reduceNeg, decide_true, decide_false, Bool.false_xor, Bool.true_xor, Bool.not_true, Bool.not_false]
          exact fin (a2 :: as3) s9 hl3 has2 g9 (ch18.trans ch9)
    · simp [t6, evA, startE, List.map_cons, List.map_nil, List.length_cons, List.length_nil, List.replicate, List.cons_append, List.nil_append, List.set_cons_zero, List.set_cons_succ, List.getElem?_cons_zero, List.getElem?_cons_succ, Nat.add_sub_cancel, Nat.sub_self, Nat.reduceAdd, Nat.reduceSub, Int.reduceAdd, Int.reduceNeg, decide_true, decide_false, Bool.false_xor, Bool.true_xor, Bool.not_true, Bool.not_false]
      exact fin as s6 (by omega) has g6 ch16
  · have turn : BdQ s r b cc cs n1 n2 d sl 1 4 (.tup [.tag 9, .int v1, .tup (as.map Re.d)]) s3 :=
      ⟨.turn v1 as, rfl, fun wi hw => ⟨by omega, hs1, by omega, ao⟩, n1, n2, g3, ch13, by simp [Bd.parts], .inl (by omega), fun q => ⟨trivial, q⟩⟩
    have u : (v3 < 3 ∧ 0 < n2 ∧ 0 < d ∧ sl < 8) ∨ (v3 < 3 ∧ 0 < n2 ∧ 0 < d ∧ ¬ sl < 8) ∨ (v3 < 3 ∧ 0 < n2 ∧ ¬ 0 < d ∧ ¬ 0 < d) ∨ (v3 < 3 ∧ ¬ 0 < n2 ∧ ¬ 0 < n2 ∧ ¬ 0 < n2) ∨ (¬ v3 < 3 ∧ ¬ v3 < 3 ∧ ¬ v3 < 3 ∧ ¬ v3 < 3) := by omega
    rcases u with ⟨u1, u2, u3, u4⟩ | u
    · have ed : (d : Int) - 1 = ((d - 1 : Nat) : Int) := by omega
      have i2 : ixN 3 2 = some 2 := rfl
      simp [t0, u1, u2, u3, u4, g3.box, i2, evA, startE, List.map_cons, List.map_nil, List.length_cons, List.length_nil, List.replicate, List.cons_append, List.nil_append, List.set_cons_zero, List.set_cons_succ, List.getElem?_cons_zero, List.getElem?_cons_succ, Nat.add_sub_cancel, Nat.sub_self, Nat.reduceAdd, Nat.reduceSub, Int.reduceAdd, Int.reduceNeg, decide_true, decide_false, Bool.false_xor, Bool.true_xor, Bool.not_true, Bool.not_false]
      have g4 := g3.setBox n1 (n2 - 1)
      have ch4 : Chg (RB r b) s3 (s3.set b (.lst [.cell cc, .int n1, .int (n2 - 1)])) := Chg.set (.inr rfl)
      have q := hb u3 _ r b cc cs n1 (n2 - 1) (sl + 1) g4 hcs (by omega) (by omega)
      rw [← ed] at q
      refine wp_mono q ?_
      rintro _ s5 ⟨bd, rfl, hbd, m1, m2, g5, ch5, hp, hm1, nw1⟩
      simp [evA, startE, List.map_cons, List.map_nil, List.length_cons, List.length_nil, List.replicate, List.cons_append, List.nil_append, List.set_cons_zero, List.set_cons_succ, List.getElem?_cons_zero, List.getElem?_cons_succ, Nat.add_sub_cancel, Nat.sub_self, Nat.reduceAdd, Nat.reduceSub, Int.reduceAdd, Int.reduceNeg, decide_true, decide_false, Bool.false_xor, Bool.true_xor, Bool.not_true, Bool.not_false]
      refine ⟨.with_ v1 as bd, rfl, fun wi hw => ⟨by omega, by omega, by omega, ao, hbd (wi + 1) (by omega)⟩, m1, m2, g5, (ch13.trans ch4).trans ch5, ?_, ?_, fun q => by omega⟩
      · simp only [Bd.parts]; omega
      · omega
    · rcases u with ⟨u1, u2, u3, u4⟩ | ⟨u1, u2, u3, u4⟩ | ⟨u1, u2, u3, u4⟩ | ⟨u1, u2, u3, u4⟩
      all_goals
        simp [t0, u1, u2, u3, u4, g3.box, evA, startE, List.map_cons, List.map_nil, List.length_cons, List.length_nil, List.replicate, List.cons_append, List.nil_append, List.set_cons_zero, List.set_cons_succ, List.getElem?_cons_zero, List.getElem?_cons_succ, Nat.add_sub_cancel, Nat.sub_self, Nat.reduceAdd, Nat.reduceSub, Int.reduceAdd, Int.reduceNeg, decide_true, decide_false, Bool.false_xor, Bool.true_xor, Bool.not_true, Bool.not_false]
        exact turn
theorem bodyStep (h : LibB tb) {m d : Nat} (hm : 8 ≤ m) (hb : 0 < d → BodyS tb W (m + 1) (d - 1)) (hc : CallS tb W (m + 1) d) : BodyS tb W (m + 2) d := by
  intro s r b cc cs n1 n2 sl g hcs hs0 hs1
  have hG := h.toLibG
  have hT := h.tg
  rw [run_at h.f48 rfl]
  simp [c48, evA, startE, List.map_cons, List.map_nil, List.length_cons, List.length_nil, List.replicate, List.cons_append, List.nil_append, List.set_cons_zero, List.set_cons_succ, List.getElem?_cons_zero, List.getElem?_cons_succ, Nat.add_sub_cancel, Nat.sub_self, Nat.reduceAdd, Nat.reduceSub, Int.reduceAdd, Int.reduceNeg, decide_true, decide_false, Bool.false_xor, Bool.true_xor, Bool.not_true, Bool.not_false]
  refine wp_mono (takenG hG g (by omega) (by omega) (by omega)) ?_
  rintro _ s1 ⟨v1, rfl, v1a, v1b, g1, ch1⟩
  have i1 : ixN 3 1 = some 1 := rfl
  have g2 := g1.setBox (n1 - 1) n2
  have ch2 : Chg (RB r b) s1 (s1.set b (.lst [.cell cc, .int (n1 - 1), .int n2])) := Chg.set (.inr rfl)
  have ch12 := ch1.trans ch2
  simp [g1.box, i1, evA, startE, List.map_cons, List.map_nil, List.length_cons, List.length_nil, List.replicate, List.cons_append, List.nil_append, List.set_cons_zero, List.set_cons_succ, List.getElem?_cons_zero, List.getElem?_cons_succ, Nat.add_sub_cancel, Nat.sub_self, Nat.reduceAdd, Nat.reduceSub, Int.reduceAdd, Int.reduceNeg, decide_true, decide_false, Bool.false_xor, Bool.true_xor, Bool.not_true, Bool.not_false]
  generalize s1.set b (.lst [.cell cc, .int (n1 - 1), .int n2]) = s2 at *
  have u : (d = 0 ∧ d = 0 ∧ d = 0) ∨ (¬ d = 0 ∧ n1 - 1 < 4 ∧ n1 - 1 < 4) ∨ (¬ d = 0 ∧ ¬ n1 - 1 < 4 ∧ v1 = 0) ∨ (¬ d = 0 ∧ ¬ n1 - 1 < 4 ∧ ¬ v1 = 0) := by omega
  rcases u with u | u | u | ⟨u1, u2, u3⟩
  rotate_left 3
  · have ed : (d : Int) - 1 = ((d - 1 : Nat) : Int) := by omega
    have hb' : ∀ (s : Store) (m1 m2 : Int), GS s r b cc cs m1 m2 → wp (Run tb W (m + 1) 48 [.cell r, .cell b, .int sl, .int ((d : Int) - 1)] s) (BdQ s r b cc cs m1 m2 (d - 1) sl 0 3) := fun s m1 m2 g => by
      rw [ed]
      exact hb (by omega) s r b cc cs m1 m2 sl g hcs hs0 hs1
    by_cases t3 : v1 < 3
    · simp [u1, u2, u3, g2.box, t3, evA, startE, List.map_cons, List.map_nil, List.length_cons, List.length_nil, List.replicate, List.cons_append, List.nil_append, List.set_cons_zero, List.set_cons_succ, List.getElem?_cons_zero, List.getElem?_cons_succ, Nat.add_sub_cancel, Nat.sub_self, Nat.reduceAdd, Nat.reduceSub, Int.reduceAdd, Int.reduceNeg, decide_true, decide_false, Bool.false_xor, Bool.true_xor, Bool.not_true, Bool.not_false]
      refine wp_mono (lawEG hG 1 g2 hs0 (by omega) (by omega)) ?_
      rintro _ s3 ⟨e1, rfl, he1, g3, ch3⟩
      simp [evA, startE, List.map_cons, List.map_nil, List.length_cons, List.length_nil, List.replicate, List.cons_append, List.nil_append, List.set_cons_zero, List.set_cons_succ, List.getElem?_cons_zero, List.getElem?_cons_succ, Nat.add_sub_cancel, Nat.sub_self, Nat.reduceAdd, Nat.reduceSub, Int.reduceAdd, Int.reduceNeg, decide_true, decide_false, Bool.false_xor, Bool.true_xor, Bool.not_true, Bool.not_false]
      refine wp_mono (hb' _ _ _ g3) ?_
      rintro _ s4 ⟨bd, rfl, hbd, m1, m2, g4, ch4, hp, hm1, nw1⟩
      simp [evA, startE, List.map_cons, List.map_nil, List.length_cons, List.length_nil, List.replicate, List.cons_append, List.nil_append, List.set_cons_zero, List.set_cons_succ, List.getElem?_cons_zero, List.getElem?_cons_succ, Nat.add_sub_cancel, Nat.sub_self, Nat.reduceAdd, Nat.reduceSub, Int.reduceAdd, Int.reduceNeg, decide_true, decide_false, Bool.false_xor, Bool.true_xor, Bool.not_true, Bool.not_false]
      exact ⟨.say e1 bd, rfl, fun wi hw => ⟨by omega, hs1, e1.mono he1 (by omega), hbd (wi + 1) (by omega)⟩, m1, m2, g4, (ch12.trans ch3).trans ch4, by simp only [Bd.parts]; omega, by omega, nw1⟩
    · by_cases t6 : v1 < 6
      · have fin : ∀ (e1 : Re) (s3 : Store), e1.ok sl 3 → GS s3 r b cc cs (n1 - 1) n2 → Chg (RB r b) s s3 →
          wp (Run tb W (m + 1) 48 [.cell r, .cell b, .int sl, .int ((d : Int) - 1)] s3) fun v4 s4 => ∃ bd : Bd, v4 = bd.d ∧ wp (Run tb W (m + 1) 48 [.cell r, .cell b, .int sl, .int ((d : Int) - 1)] s4) fun v5 s5 => ∃ bd2 : Bd, v5 = bd2.d ∧ BdQ s r b cc cs n1 n2 d sl 0 3 (.tup [.tag 8, e1.d, bd.d, bd2.d]) s5 := fun e1 s3 he1 g3 ch3 => by
          refine wp_mono (hb' _ _ _ g3) ?_
          rintro _ s4 ⟨bd, rfl, hbd, m1, m2, g4, ch4, hp, hm1, nw1⟩
          refine ⟨bd, rfl, wp_mono (hb' _ _ _ g4) ?_⟩
          rintro _ s5 ⟨bd2, rfl, hbd2, k1, k2, g5, ch5, hp2, hm2, nw2⟩
          exact ⟨bd2, rfl, .if_ e1 bd bd2, rfl, fun wi hw => ⟨by omega, hs1, he1, hbd (wi + 1) (by omega), hbd2 (wi + 1) (by omega)⟩, k1, k2, g5, (ch3.trans ch4).trans ch5, by simp only [Bd.parts]; omega, by omega, fun q => ⟨⟨(nw1 q).1, (nw2 (nw1 q).2).1⟩, (nw2 (nw1 q).2).2⟩⟩
        have slotG : ∀ s3 : Store, GS s3 r b cc cs (n1 - 1) n2 → Chg (RB r b) s s3 → wp (Run tb W (m + 1) 45 [.cell r, .int sl, .int 2] s3) fun v s' => ∃ e : Re, v = e.d ∧ e.ok sl 3 ∧ GS s' r b cc cs (n1 - 1) n2 ∧ Chg (RB r b) s s' := fun s3 g3 ch3 =>
          wp_mono (lawEG hG 2 g3 hs0 (by omega) (by omega)) fun v s' ⟨e, e1, he, g', ch'⟩ => ⟨e, e1, e.mono he (by omega), g', ch3.trans ch'⟩
        by_cases t7 : 0 < sl
        · simp [u1, u2, u3, g2.box, t3, t6, t7, evA, startE, List.map_cons, List.map_nil, List.length_cons, List.length_nil, List.replicate, List.cons_append, List.nil_append, List.set_cons_zero, List.set_cons_succ, List.getElem?_cons_zero, List.getElem?_cons_succ, Nat.add_sub_cancel, Nat.sub_self, Nat.reduceAdd, Nat.reduceSub, Int.reduceAdd, Int.reduceNeg, decide_true, decide_false, Bool.false_xor, Bool.true_xor, Bool.not_true, Bool.not_false]
          refine wp_mono (takenG hG g2 (by omega) (by omega) (by omega)) ?_
          rintro _ s3 ⟨v3, rfl, v3a, v3b, g3, ch3⟩
          by_cases t8 : 0 < v3
          · simp [t8, evA, startE, List.map_cons, List.map_nil, List.length_cons, List.length_nil, List.replicate, List.cons_append, List.nil_append, List.set_cons_zero, List.set_cons_succ, List.getElem?_cons_zero, List.getElem?_cons_succ, Nat.add_sub_cancel, Nat.sub_self, Nat.reduceAdd, Nat.reduceSub, Int.reduceAdd, Int.reduceNeg, decide_true, decide_false, Bool.false_xor, Bool.true_xor, Bool.not_true, Bool.not_false]
            refine wp_mono (fin (.slot 0) s3 ⟨by omega, t7⟩ g3 (ch12.trans ch3)) ?_
            rintro _ s4 ⟨bd, rfl, q⟩
            simp [evA, startE, List.map_cons, List.map_nil, List.length_cons, List.length_nil, List.replicate, List.cons_append, List.nil_append, List.set_cons_zero, List.set_cons_succ, List.getElem?_cons_zero, List.getElem?_cons_succ, Nat.add_sub_cancel, Nat.sub_self, Nat.reduceAdd, Nat.reduceSub, Int.reduceAdd, Int.reduceNeg, decide_true, decide_false, Bool.false_xor, Bool.true_xor, Bool.not_true, Bool.not_false]
            refine wp_mono q ?_
            rintro _ s5 ⟨bd2, rfl, q⟩
            simp [evA, startE, List.map_cons, List.map_nil, List.length_cons, List.length_nil, List.replicate, List.cons_append, List.nil_append, List.set_cons_zero, List.set_cons_succ, List.getElem?_cons_zero, List.getElem?_cons_succ, Nat.add_sub_cancel, Nat.sub_self, Nat.reduceAdd, Nat.reduceSub, Int.reduceAdd, Int.reduceNeg, decide_true, decide_false, Bool.false_xor, Bool.true_xor, Bool.not_true, Bool.not_false]
            exact q
          · simp [t8, evA, startE, List.map_cons, List.map_nil, List.length_cons, List.length_nil, List.replicate, List.cons_append, List.nil_append, List.set_cons_zero, List.set_cons_succ, List.getElem?_cons_zero, List.getElem?_cons_succ, Nat.add_sub_cancel, Nat.sub_self, Nat.reduceAdd, Nat.reduceSub, Int.reduceAdd, Int.reduceNeg, decide_true, decide_false, Bool.false_xor, Bool.true_xor, Bool.not_true, Bool.not_false]
            refine wp_mono (slotG s3 g3 (ch12.trans ch3)) ?_
            rintro _ s4 ⟨e1, rfl, he1, g4, ch4⟩
            simp [evA, startE, List.map_cons, List.map_nil, List.length_cons, List.length_nil, List.replicate, List.cons_append, List.nil_append, List.set_cons_zero, List.set_cons_succ, List.getElem?_cons_zero, List.getElem?_cons_succ, Nat.add_sub_cancel, Nat.sub_self, Nat.reduceAdd, Nat.reduceSub, Int.reduceAdd, Int.reduceNeg, decide_true, decide_false, Bool.false_xor, Bool.true_xor, Bool.not_true, Bool.not_false]
            refine wp_mono (fin e1 s4 he1 g4 ch4) ?_
            rintro _ s5 ⟨bd, rfl, q⟩
            simp [evA, startE, List.map_cons, List.map_nil, List.length_cons, List.length_nil, List.replicate, List.cons_append, List.nil_append, List.set_cons_zero, List.set_cons_succ, List.getElem?_cons_zero, List.getElem?_cons_succ, Nat.add_sub_cancel, Nat.sub_self, Nat.reduceAdd, Nat.reduceSub, Int.reduceAdd, Int.reduceNeg, decide_true, decide_false, Bool.false_xor, Bool.true_xor, Bool.not_true, Bool.not_false]
            refine wp_mono q ?_
            rintro _ s6 ⟨bd2, rfl, q⟩
            simp [evA, startE, List.map_cons, List.map_nil, List.length_cons, List.length_nil, List.replicate, List.cons_append, List.nil_append, List.set_cons_zero, List.set_cons_succ, List.getElem?_cons_zero, List.getElem?_cons_succ, Nat.add_sub_cancel, Nat.sub_self, Nat.reduceAdd, Nat.reduceSub, Int.reduceAdd, Int.reduceNeg, decide_true, decide_false, Bool.false_xor, Bool.true_xor, Bool.not_true, Bool.not_false]
            exact q
        · simp [u1, u2, u3, g2.box, t3, t6, t7, evA, startE, List.map_cons, List.map_nil, List.length_cons, List.length_nil, List.replicate, List.cons_append, List.nil_append, List.set_cons_zero, List.set_cons_succ, List.getElem?_cons_zero, List.getElem?_cons_succ, Nat.add_sub_cancel, Nat.sub_self, Nat.reduceAdd, Nat.reduceSub, Int.reduceAdd, Int.reduceNeg, decide_true, decide_false, Bool.false_xor, Bool.true_xor, Bool.not_true, Bool.not_false]
          refine wp_mono (slotG s2 g2 ch12) ?_
          rintro _ s4 ⟨e1, rfl, he1, g4, ch4⟩
          simp [evA, startE, List.map_cons, List.map_nil, List.length_cons, List.length_nil, List.replicate, List.cons_append, List.nil_append, List.set_cons_zero, List.set_cons_succ, List.getElem?_cons_zero, List.getElem?_cons_succ, Nat.add_sub_cancel, Nat.sub_self, Nat.reduceAdd, Nat.reduceSub, Int.reduceAdd, Int.reduceNeg, decide_true, decide_false, Bool.false_xor, Bool.true_xor, Bool.not_true, Bool.not_false]
          refine wp_mono (fin e1 s4 he1 g4 ch4) ?_
          rintro _ s5 ⟨bd, rfl, q⟩
          simp [evA, startE, List.map_cons, List.map_nil, List.length_cons, List.length_nil, List.replicate, List.cons_append, List.nil_append, List.set_cons_zero, List.set_cons_succ, List.getElem?_cons_zero, List.getElem?_cons_succ, Nat.add_sub_cancel, Nat.sub_self, Nat.reduceAdd, Nat.reduceSub, Int.reduceAdd, Int.reduceNeg, decide_true, decide_false, Bool.false_xor, Bool.true_xor, Bool.not_true, Bool.not_false]
          refine wp_mono q ?_
          rintro _ s6 ⟨bd2, rfl, q⟩
          simp [evA, startE, List.map_cons, List.map_nil, List.length_cons, List.length_nil, List.replicate, List.cons_append, List.nil_append, List.set_cons_zero, List.set_cons_succ, List.getElem?_cons_zero, List.getElem?_cons_succ, Nat.add_sub_cancel, Nat.sub_self, Nat.reduceAdd, Nat.reduceSub, Int.reduceAdd, Int.reduceNeg, decide_true, decide_false, Bool.false_xor, Bool.true_xor, Bool.not_true, Bool.not_false]
          exact q
      · simp [u1, u2, u3, g2.box, t3, t6, evA, startE, List.map_cons, List.map_nil, List.length_cons, List.length_nil, List.replicate, List.cons_append, List.nil_append, List.set_cons_zero, List.set_cons_succ, List.getElem?_cons_zero, List.getElem?_cons_succ, Nat.add_sub_cancel, Nat.sub_self, Nat.reduceAdd, Nat.reduceSub, Int.reduceAdd, Int.reduceNeg, decide_true, decide_false, Bool.false_xor, Bool.true_xor, Bool.not_true, Bool.not_false]
        refine wp_mono (hc s2 r b cc cs (n1 - 1) n2 sl g2 hcs hs0 hs1) ?_
        rintro _ s3 ⟨bd, rfl, hbd, m1, m2, g3, ch3, hp, hm1, nw1⟩
        simp [evA, startE, List.map_cons, List.map_nil, List.length_cons, List.length_nil, List.replicate, List.cons_append, List.nil_append, List.set_cons_zero, List.set_cons_succ, List.getElem?_cons_zero, List.getElem?_cons_succ, Nat.add_sub_cancel, Nat.sub_self, Nat.reduceAdd, Nat.reduceSub, Int.reduceAdd, Int.reduceNeg, decide_true, decide_false, Bool.false_xor, Bool.true_xor, Bool.not_true, Bool.not_false]
        exact ⟨bd, rfl, hbd, m1, m2, g3, ch12.trans ch3, by omega, by omega, nw1⟩
  all_goals
    obtain ⟨u1, u2, u3⟩ := u
    simp [u1, u2, u3, g2.box, evA, startE, List.map_cons, List.map_nil, List.length_cons, List.length_nil, List.replicate, List.cons_append, List.nil_append, List.set_cons_zero, List.set_cons_succ, List.getElem?_cons_zero, List.getElem?_cons_succ, Nat.add_sub_cancel, Nat.sub_self, Nat.reduceAdd, Nat.reduceSub, Int.reduceAdd, Int.reduceNeg, decide_true, decide_false, Bool.false_xor, Bool.true_xor, Bool.not_true, Bool.not_false]
    refine wp_mono (takenG hG g2 (by omega) (by omega) (by omega)) ?_
    rintro _ s3 ⟨v3, rfl, v3a, v3b, g3, ch3⟩
    obtain ⟨c3, rfl⟩ : ∃ c3 : Nat, v3 = c3 := ⟨v3.toNat, by omega⟩
    simp [evA, startE, List.map_cons, List.map_nil, List.length_cons, List.length_nil, List.replicate, List.cons_append, List.nil_append, List.set_cons_zero, List.set_cons_succ, List.getElem?_cons_zero, List.getElem?_cons_succ, Nat.add_sub_cancel, Nat.sub_self, Nat.reduceAdd, Nat.reduceSub, Int.reduceAdd, Int.reduceNeg, decide_true, decide_false, Bool.false_xor, Bool.true_xor, Bool.not_true, Bool.not_false]
    refine wp_mono (lawEG hG c3 g3 hs0 (by omega) (by omega)) ?_
    rintro _ s4 ⟨e1, rfl, he1, g4, ch4⟩
    simp [evA, startE, List.map_cons, List.map_nil, List.length_cons, List.length_nil, List.replicate, List.cons_append, List.nil_append, List.set_cons_zero, List.set_cons_succ, List.getElem?_cons_zero, List.getElem?_cons_succ, Nat.add_sub_cancel, Nat.sub_self, Nat.reduceAdd, Nat.reduceSub, Int.reduceAdd, Int.reduceNeg, decide_true, decide_false, Bool.false_xor, Bool.true_xor, Bool.not_true, Bool.not_false]
    exact ⟨.end_ e1, rfl, fun wi hw => ⟨by omega, hs1, e1.mono he1 (by omega)⟩, n1 - 1, n2, g4, (ch12.trans ch3).trans ch4, by simp only [Bd.parts]; omega, by omega, fun q => ⟨trivial, q⟩⟩
theorem bodyAll (h : LibB tb) : ∀ (d n : Nat), 2 * d + 16 ≤ n → BodyS tb W n d := by
  intro d
  induction d with
  | zero =>
    intro n hn
    obtain ⟨m, rfl⟩ : ∃ m, n = m + 3 := ⟨n - 3, by omega⟩
    exact bodyStep h (m := m + 1) (by omega) (fun h0 => absurd h0 (by omega)) (callStep h (m := m) (by omega) fun h0 => absurd h0 (by omega))
  | succ d ih =>
    intro n hn
    obtain ⟨m, rfl⟩ : ∃ m, n = m + 3 := ⟨n - 3, by omega⟩
    exact bodyStep h (m := m + 1) (by omega) (fun _ => ih (m + 2) (by omega)) (callStep h (m := m) (by omega) fun _ => ih (m + 1) (by omega))
theorem callAll (h : LibB tb) (d n : Nat) (hn : 2 * d + 17 ≤ n) : CallS tb W n d := by
  obtain ⟨m, rfl⟩ : ∃ m, n = m + 2 := ⟨n - 2, by omega⟩
  exact callStep h (by omega) fun h0 => bodyAll h (d - 1) (m + 1) (by omega)
end
end PI

namespace PI
open PySem L2
/-- without withs, if none may be -/
def NoWs (waits : Int) (ps : List (Int × Bd)) : Prop := waits ≤ 0 → ∀ p ∈ ps, p.2.noW
structure LibQ (tb : Tab) : Prop extends LibB tb where
  f49 : tb.fns 49 = some c49
section
variable {tb : Tab} {W : Nat}
theorem ints_cs {lo hi : Int} : ∀ {ys : List D}, (∀ y ∈ ys, ∃ c : Int, y = .int c ∧ lo ≤ c ∧ c ≤ hi) → ∃ cs : List Int, ys = cs.map .int ∧ ∀ c ∈ cs, lo ≤ c ∧ c ≤ hi
  | [], _ => ⟨[], rfl, fun _ h => by cases h⟩
  | y :: ys, h => by
    obtain ⟨c, rfl, hc⟩ := h y List.mem_cons_self
    obtain ⟨cs, rfl, ha⟩ := ints_cs (ys := ys) fun z hz => h z (List.mem_cons_of_mem _ hz)
    exact ⟨c :: cs, rfl, fun a h => by
      rcases List.mem_cons.mp h with rfl | h
      · exact hc
      · exact ha a h⟩
theorem at_34 {v : Int} (h0 : 0 ≤ v) (h1 : v < 2) : ∃ w, (w = 3 ∨ w = 4) ∧ atI [.int 3, .int 4] v = some (D.int w) := by
  have : v = 0 ∨ v = 1 := by omega
  rcases this with rfl | rfl
  · exact ⟨3, by simp, rfl⟩
  · exact ⟨4, by simp, rfl⟩
/-- a program's row while it is made -/
structure Mk1 (waits : Int) (s0 s : Store) (r cc ff : Nat) (cs : List Int) (ps : List (Int × Bd)) : Prop where
  row : RowC (s.f r)
  cnt : s.f cc = .lst (cs.map .int)
  fnd : s.f ff = .lst (ps.map fun p => .tup [.int p.1, p.2.d])
  lr : r < s.n
  lc : cc < s.n
  lf : ff < s.n
  rc : r ≠ cc
  rf : r ≠ ff
  cf : cc ≠ ff
  nc : s0.n ≤ cc
  nf : s0.n ≤ ff
  chg : Chg (fun k => k = r) s0 s
  one : ps.map (·.1) = cs.take ps.length
  ok : ∀ p ∈ ps, 0 ≤ p.1 ∧ p.1 ≤ 3 ∧ p.2.ok cs p.1 0 ∧ p.2.parts ≤ 30 ∧ (waits ≤ 0 → p.2.noW)
def c49r : Ss := match c49.code with
  | .cons _ (.cons _ r) => r
  | _ => .nil
def c49b : Ss := match c49.code with
  | .cons _ (.cons _ (.cons _ (.cons (.for_ _ _ b) _))) => b
  | _ => .nil
theorem lawRest (h : LibQ tb) {m r cc : Nat} {cs : List Int} {most waits : Int} {s s5 : Store} (hn : 38 ≤ m) (hcs : CsOk cs) (hr : RowC (s5.f r)) (hc : s5.f cc = .lst (cs.map .int)) (lr : r < s5.n) (lc : cc < s5.n) (rc : r ≠ cc) (nc : s.n ≤ cc) (hrs : r < s.n) (ch : Chg (fun k => k = r) s s5) :
    wp (evalSs (GG tb W m) c49r [some (.cell r), some (.int most), some (.int waits), some (.cell cc), none, none, none, none, none] s5) (wpK finK fun v s' => ∃ ps, v = PrD ps ∧ PrOk ps ∧ RowC (s'.f r) ∧ Chg (fun k => k = r) s s' ∧ NoWs waits ps) := by
  have hB := h.toLibB
  have hG := hB.toLibG
  have hlen : cs.length ≤ 5 := hcs.len.2
  have hlim : -(LIM : Int) ≤ (cs.length : Int) ∧ (cs.length : Int) ≤ (LIM : Int) := by unfold LIM; omega
  have ne1 : cc ≠ s5.n := by omega
  have ne2 : r ≠ s5.n := by omega
  simp [c49r, c49, newLt, new_f, ne1, ne2, hc, rng_ok hlim, evA, startE, List.map_cons, List.map_nil, List.length_cons, List.length_nil, List.replicate, List.cons_append, List.nil_append, List.set_cons_zero, List.set_cons_succ, List.getElem?_cons_zero, List.getElem?_cons_succ, Nat.add_sub_cancel, Nat.sub_self, Nat.reduceAdd, Nat.reduceSub, Int.reduceAdd, Int.reduceNeg, decide_true, decide_false, Bool.false_xor, Bool.true_xor, Bool.not_true, Bool.not_false]
  have loop := for_range_wp (g := bindC (.name 5)) (b := evalSs (GG tb W m) c49b) (N := cs.length) (env := [some (.cell r), some (.int most), some (.int waits), some (.cell cc), some (.cell s5.n), none, none, none, none]) (s := s5.new (.lst []))
    (Inv := fun k env s' => ∃ ps x5 x6 x7, ps.length = k ∧ Mk1 waits s s' r cc s5.n cs ps ∧ env = [some (.cell r), some (.int most), some (.int waits), some (.cell cc), some (.cell s5.n), x5, x6, x7, none]) (fun k env s6 hk hi => ?_)
    ⟨[], none, none, none, rfl, ⟨by rw [new_f, if_neg ne2]; exact hr, by rw [new_f, if_neg ne1]; exact hc, by rw [new_f, if_pos rfl]; rfl, by rw [new_n]; omega, by rw [new_n]; omega, by rw [new_n]; omega, rc, ne2, ne1, nc, ch.1, ch.trans Chg.new, rfl, fun _ h => by cases h⟩, rfl⟩
  · refine wp_mono loop ?_
    rintro _ s6 ⟨_, rfl, ps, x5, x6, x7, hl, k6, rfl⟩
    simp [k6.fnd, evA, startE, List.map_cons, List.map_nil, List.length_cons, List.length_nil, List.replicate, List.cons_append, List.nil_append, List.set_cons_zero, List.set_cons_succ, List.getElem?_cons_zero, List.getElem?_cons_succ, Nat.add_sub_cancel, Nat.sub_self, Nat.reduceAdd, Nat.reduceSub, Int.reduceAdd, Int.reduceNeg, decide_true, decide_false, Bool.false_xor, Bool.true_xor, Bool.not_true, Bool.not_false]
    have hps : ps.map (·.1) = cs := by rw [k6.one, hl, List.take_length]
    refine ⟨ps, rfl, ⟨⟨by rw [hl]; exact hcs.len.1, by rw [hl]; exact hcs.len.2⟩, by rw [hps]; exact fun p hp => ⟨(k6.ok p hp).1, (k6.ok p hp).2.1, (k6.ok p hp).2.2.1, (k6.ok p hp).2.2.2.1⟩⟩, by rw [set_f, if_neg k6.rf]; exact k6.row, k6.chg.setNew k6.nf, fun q p hp => (k6.ok p hp).2.2.2.2 q⟩
  · obtain ⟨ps, x5, x6, x7, hl, k6, rfl⟩ := hi
    refine ⟨_, rfl, ?_⟩
    have ne3 : cc ≠ s6.n := by have := k6.lc; omega
    have ne4 : r ≠ s6.n := by have := k6.lr; omega
    have ne5 : s5.n ≠ s6.n := by have := k6.lf; omega
    have icc : atI (cs.map D.int) (k : Int) = some (.int cs[k]) := by rw [at_nat, List.getElem?_map, List.getElem?_eq_getElem hk] <;> rfl
    obtain ⟨ck0, ck1⟩ := hcs.ok _ (List.getElem_mem hk)
    simp [c49b, c49, newLt, new_f, ne3, ne4, k6.cnt, icc, evA, startE, List.map_cons, List.map_nil, List.length_cons, List.length_nil, List.replicate, List.cons_append, List.nil_append, List.set_cons_zero, List.set_cons_succ, List.getElem?_cons_zero, List.getElem?_cons_succ, Nat.add_sub_cancel, Nat.sub_self, Nat.reduceAdd, Nat.reduceSub, Int.reduceAdd, Int.reduceNeg, decide_true, decide_false, Bool.false_xor, Bool.true_xor, Bool.not_true, Bool.not_false]
    have g7 : GS (s6.new (.lst [.cell cc, .int 24, .int waits])) r s6.n cc cs 24 waits := ⟨by rw [new_f, if_neg ne4]; exact k6.row, by rw [new_f, if_pos rfl], by rw [new_f, if_neg ne3]; exact k6.cnt, by rw [new_n]; have := k6.lr; omega, by rw [new_n]; omega, by rw [new_n]; have := k6.lc; omega, ne4, k6.rc, fun e => ne3 e.symm⟩
    have f7 : (s6.new (.lst [.cell cc, .int 24, .int waits])).f s5.n = .lst (ps.map fun p => .tup [.int p.1, p.2.d]) := by rw [new_f, if_neg ne5]; exact k6.fnd
    have c7 : Chg (fun k => k = r) s (s6.new (.lst [.cell cc, .int 24, .int waits])) := k6.chg.trans Chg.new
    have n7 : s6.n < (s6.new (.lst [.cell cc, .int 24, .int waits])).n := by rw [new_n]; omega
    have nn7 : s5.n < (s6.new (.lst [.cell cc, .int 24, .int waits])).n := by rw [new_n]; have := k6.lf; omega
    have bb : s.n ≤ s6.n := Nat.le_of_lt (Nat.lt_of_le_of_lt k6.nf k6.lf)
    generalize hs7 : s6.new (.lst [.cell cc, .int 24, .int waits]) = s7 at *
    have keep : ∀ {s8 s9 : Store}, Chg (RB r s6.n) s8 s9 → s8.f s5.n = .lst (ps.map fun p => .tup [.int p.1, p.2.d]) → s5.n < s8.n → s9.f s5.n = .lst (ps.map fun p => .tup [.int p.1, p.2.d]) ∧ s5.n < s9.n := fun {s8 s9} c e l => ⟨by
      rw [c.2 s5.n l (by rintro (q | q); exact k6.rf q.symm; exact ne5 q)]; exact e, Nat.lt_of_lt_of_le l c.1⟩
    have chs : ∀ {s8 s9 : Store}, Chg (fun k => k = r) s s8 → Chg (RB r s6.n) s8 s9 → Chg (fun k => k = r) s s9 := fun {s8 s9} a c => ⟨Nat.le_trans a.1 c.1, fun k hk hn => by
      rw [c.2 k (Nat.lt_of_lt_of_le hk a.1) (by rintro (q | q); exact hn q; omega)]; exact a.2 k hk hn⟩
    refine wp_mono (takenG hG g7 (by omega) (by omega) (by omega)) ?_
    rintro _ s8 ⟨v8, rfl, v8a, v8b, g8, ch8⟩
    obtain ⟨f8, nn8⟩ := keep ch8 f7 nn7
    have c8 := chs c7 ch8
    obtain ⟨d8, rfl⟩ : ∃ d8 : Nat, v8 = d8 := ⟨v8.toNat, by omega⟩
    have e2 : (2 : Int) + d8 = ((2 + d8 : Nat) : Int) := by omega
    simp only [e2, evA, startE, List.map_cons, List.map_nil, List.length_cons, List.length_nil, List.replicate, List.cons_append, List.nil_append, List.set_cons_zero, List.set_cons_succ, List.getElem?_cons_zero, List.getElem?_cons_succ, Nat.add_sub_cancel, Nat.sub_self, Nat.reduceAdd, Nat.reduceSub, Int.reduceAdd, Int.reduceNeg, decide_true, decide_false, Bool.false_xor, Bool.true_xor, Bool.not_true, Bool.not_false]
    refine wp_mono (bodyAll hB (2 + d8) (m + 1) (by omega) s8 r s6.n cc cs 24 waits cs[k] g8 hcs ck0 (by omega)) ?_
    rintro _ s9 ⟨bd, rfl, hbd, m1, m2, g9, ch9, hp, hm1, nw1⟩
    obtain ⟨f9, nn9⟩ := keep ch9 f8 nn8
    have c9 := chs c8 ch9
    have last : ∀ (bd : Bd) (s10 : Store) (x7 : Option D) (k1 k2 : Int), bd.ok cs cs[k] 0 → bd.parts ≤ 30 → (waits ≤ 0 → bd.noW) → GS s10 r s6.n cc cs k1 k2 → s10.f s5.n = .lst (ps.map fun p => .tup [.int p.1, p.2.d]) → s5.n < s10.n → Chg (fun k => k = r) s s10 →
        Mk1 waits s (s10.set s5.n (.lst ((ps.map fun p => .tup [.int p.1, p.2.d]) ++ [.tup [.int cs[k], bd.d]]))) r cc s5.n cs (ps ++ [(cs[k], bd)]) := fun bd s10 x7 k1 k2 hb hp nw g f l c =>
      ⟨by rw [set_f, if_neg k6.rf]; exact g.row, by rw [set_f, if_neg k6.cf]; exact g.cnt, by rw [set_same]; simp, g.lr, g.lc, l, k6.rc, k6.rf, k6.cf, k6.nc, k6.nf, c.setNew k6.nf, by
        rw [List.map_append, k6.one, List.length_append, hl]
        simp only [List.map_cons, List.map_nil, List.length_cons, List.length_nil]
        rw [List.take_add_one, List.getElem?_eq_getElem hk]
        rfl, fun p hp' => by
        rcases List.mem_append.mp hp' with q | q
        · exact k6.ok p q
        · rw [List.mem_singleton.mp q]; exact ⟨ck0, ck1, hb, hp, nw⟩⟩
    have hlA : (ps.map fun p => D.tup [.int p.1, p.2.d]).length < LIM := by rw [List.length_map]; unfold LIM; omega
    by_cases t1 : 0 < cs[k]
    · simp [g9.cnt, icc, t1, evA, startE, List.map_cons, List.map_nil, List.length_cons, List.length_nil, List.replicate, List.cons_append, List.nil_append, List.set_cons_zero, List.set_cons_succ, List.getElem?_cons_zero, List.getElem?_cons_succ, Nat.add_sub_cancel, Nat.sub_self, Nat.reduceAdd, Nat.reduceSub, Int.reduceAdd, Int.reduceNeg, decide_true, decide_false, Bool.false_xor, Bool.true_xor, Bool.not_true, Bool.not_false]
      refine wp_mono (takenG hG g9 (by omega) (by omega) (by omega)) ?_
      rintro _ s10 ⟨v10, rfl, v10a, v10b, g10, ch10⟩
      obtain ⟨f10, nn10⟩ := keep ch10 f9 nn9
      have c10 := chs c9 ch10
      by_cases t2 : v10 = 1
      · subst t2
        simp [g10.cnt, icc, evA, startE, List.map_cons, List.map_nil, List.length_cons, List.length_nil, List.replicate, List.cons_append, List.nil_append, List.set_cons_zero, List.set_cons_succ, List.getElem?_cons_zero, List.getElem?_cons_succ, Nat.add_sub_cancel, Nat.sub_self, Nat.reduceAdd, Nat.reduceSub, Int.reduceAdd, Int.reduceNeg, decide_true, decide_false, Bool.false_xor, Bool.true_xor, Bool.not_true, Bool.not_false]
        refine wp_mono (callAll hB 2 (m + 1) (by omega) s10 r s6.n cc cs m1 m2 cs[k] g10 hcs ck0 (by omega)) ?_
        rintro _ s11 ⟨bd2, rfl, hbd2, j1, j2, g11, ch11, hp2, hm2, nw2⟩
        obtain ⟨f11, nn11⟩ := keep ch11 f10 nn10
        have c11 := chs c10 ch11
        simp [g11.cnt, icc, f11, appC_lst hlA, evA, startE, List.map_cons, List.map_nil, List.length_cons, List.length_nil, List.replicate, List.cons_append, List.nil_append, List.set_cons_zero, List.set_cons_succ, List.getElem?_cons_zero, List.getElem?_cons_succ, Nat.add_sub_cancel, Nat.sub_self, Nat.reduceAdd, Nat.reduceSub, Int.reduceAdd, Int.reduceNeg, decide_true, decide_false, Bool.false_xor, Bool.true_xor, Bool.not_true, Bool.not_false]
        refine ⟨ps ++ [(cs[k], Bd.if_ (Re.slot 0) bd2 bd)], by simp [hl], ?_⟩
        exact last (Bd.if_ (Re.slot 0) bd2 bd) s11 none j1 j2 ⟨by omega, by omega, ⟨by omega, t1⟩, hbd2 1 (by omega), hbd 1 (by omega)⟩ (by simp only [Bd.parts]; omega) (fun q => ⟨(nw2 (nw1 q).2).1, (nw1 q).1⟩) g11 f11 nn11 c11
      · simp [t2, g10.cnt, icc, f10, appC_lst hlA, evA, startE, List.map_cons, List.map_nil, List.length_cons, List.length_nil, List.replicate, List.cons_append, List.nil_append, List.set_cons_zero, List.set_cons_succ, List.getElem?_cons_zero, List.getElem?_cons_succ, Nat.add_sub_cancel, Nat.sub_self, Nat.reduceAdd, Nat.reduceSub, Int.reduceAdd, Int.reduceNeg, decide_true, decide_false, Bool.false_xor, Bool.true_xor, Bool.not_true, Bool.not_false]
        exact ⟨ps ++ [(cs[k], bd)], by simp [hl], last bd s10 none m1 m2 (hbd 0 (by omega)) (by omega) (fun q => (nw1 q).1) g10 f10 nn10 c10⟩
    · simp [g9.cnt, icc, t1, f9, appC_lst hlA, evA, startE, List.map_cons, List.map_nil, List.length_cons, List.length_nil, List.replicate, List.cons_append, List.nil_append, List.set_cons_zero, List.set_cons_succ, List.getElem?_cons_zero, List.getElem?_cons_succ, Nat.add_sub_cancel, Nat.sub_self, Nat.reduceAdd, Nat.reduceSub, Int.reduceAdd, Int.reduceNeg, decide_true, decide_false, Bool.false_xor, Bool.true_xor, Bool.not_true, Bool.not_false]
      exact ⟨ps ++ [(cs[k], bd)], by simp [hl], last bd s9 none m1 m2 (hbd 0 (by omega)) (by omega) (fun q => (nw1 q).1) g9 f9 nn9 c9⟩
theorem lawProgramW (h : LibQ tb) {n r : Nat} {most waits : Int} {s : Store} (hr : RowC (s.f r)) (hrn : r < s.n) (hm : 1 ≤ most) (hm5 : most ≤ 5) (hn : 40 ≤ n) :
    wp (Run tb W n 49 [.cell r, .int most, .int waits] s) fun v s' => ∃ ps, v = PrD ps ∧ PrOk ps ∧ RowC (s'.f r) ∧ Chg (fun k => k = r) s s' ∧ NoWs waits ps := by
  obtain ⟨m, rfl⟩ : ∃ m, n = m + 2 := ⟨n - 2, by omega⟩
  have hB := h.toLibB
  have hG := hB.toLibG
  have hT := h.tg
  rw [run_at h.f49 rfl]
  simp [c49, evA, startE, List.map_cons, List.map_nil, List.length_cons, List.length_nil, List.replicate, List.cons_append, List.nil_append, List.set_cons_zero, List.set_cons_succ, List.getElem?_cons_zero, List.getElem?_cons_succ, Nat.add_sub_cancel, Nat.sub_self, Nat.reduceAdd, Nat.reduceSub, Int.reduceAdd, Int.reduceNeg, decide_true, decide_false, Bool.false_xor, Bool.true_xor, Bool.not_true, Bool.not_false]
  refine wp_mono (taken hG hr (by omega) (by omega) (by omega)) ?_
  rintro _ _ ⟨v1, k1, rfl, v1a, v1b, hk1, rfl⟩
  obtain ⟨c1, rfl⟩ : ∃ c1 : Nat, v1 = c1 := ⟨v1.toNat, by omega⟩
  have hlim : -(LIM : Int) ≤ (1 + (c1 : Int)) ∧ (1 + (c1 : Int)) ≤ (LIM : Int) := by unfold LIM; omega
  have e1 : (1 + (c1 : Int)).toNat = c1 + 1 := by omega
  have hL : ((List.range (c1 + 1)).map fun (i : Nat) => D.int (i : Int)).length ≤ LIM := by simp [LIM]; omega
  simp [rng_ok hlim, e1, kCmpr_some hL, evA, startE, List.map_cons, List.map_nil, List.length_cons, List.length_nil, List.replicate, List.cons_append, List.nil_append, List.set_cons_zero, List.set_cons_succ, List.getElem?_cons_zero, List.getElem?_cons_succ, Nat.add_sub_cancel, Nat.sub_self, Nat.reduceAdd, Nat.reduceSub, Int.reduceAdd, Int.reduceNeg, decide_true, decide_false, Bool.false_xor, Bool.true_xor, Bool.not_true, Bool.not_false]
  have cw := comp_wp (g := bindW (.name 8) [8] [some (.cell r), some (.int most), some (.int waits), none, none, none, none, none, none]) (c := evalE (GG tb W m) (.cst (.bl true))) (e := evalE (GG tb W m) (.call 43 (.cons (.var 0) (.cons (.idx (.lst false (.cons (.cst (.int (3))) (.cons (.cst (.int (4))) .nil))) (.call 43 (.cons (.var 0) (.cons (.cst (.int (2))) .nil)))) .nil))))
    (Inv := fun s1 => ∃ c', RowC c' ∧ s1 = s.set r c') (P := fun y => ∃ c : Int, y = .int c ∧ 0 ≤ c ∧ c ≤ 3) (xs := (List.range (c1 + 1)).map fun (i : Nat) => D.int (i : Int)) (s := s.set r k1) (fun x hx s1 hs1 => ?_) ⟨k1, hk1, rfl⟩
  · refine wp_mono cw ?_
    rintro ys _ ⟨hl, hys, k2, hk2, rfl⟩
    obtain ⟨cs, rfl, hcs⟩ := ints_cs hys
    have hl : cs.length = c1 + 1 := by simpa using hl
    have ne1 : r ≠ s.n := by omega
    have ne2 : s.n ≠ r := by omega
    simp [newLt, evA, startE, List.map_cons, List.map_nil, List.length_cons, List.length_nil, List.replicate, List.cons_append, List.nil_append, List.set_cons_zero, List.set_cons_succ, List.getElem?_cons_zero, List.getElem?_cons_succ, Nat.add_sub_cancel, Nat.sub_self, Nat.reduceAdd, Nat.reduceSub, Int.reduceAdd, Int.reduceNeg, decide_true, decide_false, Bool.false_xor, Bool.true_xor, Bool.not_true, Bool.not_false]
    refine wp_mono (taken hG (by simp [new_f, set_f, ne1, evA, startE, List.map_cons, List.map_nil, List.length_cons, List.length_nil, List.replicate, List.cons_append, List.nil_append, List.set_cons_zero, List.set_cons_succ, List.getElem?_cons_zero, List.getElem?_cons_succ, Nat.add_sub_cancel, Nat.sub_self, Nat.reduceAdd, Nat.reduceSub, Int.reduceAdd, Int.reduceNeg, decide_true, decide_false, Bool.false_xor, Bool.true_xor, Bool.not_true, Bool.not_false]; exact hk2) (by omega) (by omega) (by omega)) ?_
    rintro _ _ ⟨v3, k3, rfl, v3a, v3b, hk3, rfl⟩
    have hcs' : CsOk cs := ⟨by omega, hcs⟩
    have ch3 : Chg (fun k => k = r) s (((s.set r k2).new (.lst (cs.map .int))).set r k3) := (Chg.setr.trans Chg.new).trans Chg.setr
    by_cases t3 : 0 < v3
    · simp [t3, evA, startE, List.map_cons, List.map_nil, List.length_cons, List.length_nil, List.replicate, List.cons_append, List.nil_append, List.set_cons_zero, List.set_cons_succ, List.getElem?_cons_zero, List.getElem?_cons_succ, Nat.add_sub_cancel, Nat.sub_self, Nat.reduceAdd, Nat.reduceSub, Int.reduceAdd, Int.reduceNeg, decide_true, decide_false, Bool.false_xor, Bool.true_xor, Bool.not_true, Bool.not_false]
      refine wp_mono (taken hG (by rw [set_same]; exact hk3) (by omega) (by omega) (by omega)) ?_
      rintro _ _ ⟨v4, k4, rfl, v4a, v4b, hk4, rfl⟩
      have hz : ixN cs.length 0 = some 0 := by unfold ixN; rw [if_pos (by omega), if_pos (by omega)]; rfl
      simp [new_f, set_f, ne1, ne2, hz, evA, startE, List.map_cons, List.map_nil, List.length_cons, List.length_nil, List.replicate, List.cons_append, List.nil_append, List.set_cons_zero, List.set_cons_succ, List.getElem?_cons_zero, List.getElem?_cons_succ, Nat.add_sub_cancel, Nat.sub_self, Nat.reduceAdd, Nat.reduceSub, Int.reduceAdd, Int.reduceNeg, decide_true, decide_false, Bool.false_xor, Bool.true_xor, Bool.not_true, Bool.not_false]
      have e5 : (cs.map D.int).set 0 (.int (1 + v4)) = (cs.set 0 (1 + v4)).map .int := by rw [List.map_set]
      rw [e5]
      refine lawRest h (cs := cs.set 0 (1 + v4)) (s := s) (by omega) ⟨by simp; omega, fun c hc => ?_⟩ (by simp [set_f, ne1]; exact hk4) (by simp [set_f]) (by simp [evA, startE, List.map_cons, List.map_nil, List.length_cons, List.length_nil, List.replicate, List.cons_append, List.nil_append, List.set_cons_zero, List.set_cons_succ, List.getElem?_cons_zero, List.getElem?_cons_succ, Nat.add_sub_cancel, Nat.sub_self, Nat.reduceAdd, Nat.reduceSub, Int.reduceAdd, Int.reduceNeg, decide_true, decide_false, Bool.false_xor, Bool.true_xor, Bool.not_true, Bool.not_false]; omega) (by simp [evA, startE, List.map_cons, List.map_nil, List.length_cons, List.length_nil, List.replicate, List.cons_append, List.nil_append, List.set_cons_zero, List.set_cons_succ, List.getElem?_cons_zero, List.getElem?_cons_succ, Nat.add_sub_cancel, Nat.sub_self, Nat.reduceAdd, Nat.reduceSub, Int.reduceAdd, Int.reduceNeg, decide_true, decide_false, Bool.false_xor, Bool.true_xor, Bool.not_true, Bool.not_false]) ne1 (Nat.le_refl _) hrn ?_
      · rcases List.mem_or_eq_of_mem_set hc with q | rfl
        · exact hcs _ q
        · omega
      · exact Chg.setNew ((Chg.setr.trans Chg.new).trans Chg.setr) (Nat.le_refl _)
    · simp [t3, new_f, set_f, ne1, ne2, evA, startE, List.map_cons, List.map_nil, List.length_cons, List.length_nil, List.replicate, List.cons_append, List.nil_append, List.set_cons_zero, List.set_cons_succ, List.getElem?_cons_zero, List.getElem?_cons_succ, Nat.add_sub_cancel, Nat.sub_self, Nat.reduceAdd, Nat.reduceSub, Int.reduceAdd, Int.reduceNeg, decide_true, decide_false, Bool.false_xor, Bool.true_xor, Bool.not_true, Bool.not_false]
      exact lawRest h (cs := cs) (s := s) (by omega) hcs' (by simp [set_f]; exact hk3) (by simp [set_f, new_f, ne2, evA, startE, List.map_cons, List.map_nil, List.length_cons, List.length_nil, List.replicate, List.cons_append, List.nil_append, List.set_cons_zero, List.set_cons_succ, List.getElem?_cons_zero, List.getElem?_cons_succ, Nat.add_sub_cancel, Nat.sub_self, Nat.reduceAdd, Nat.reduceSub, Int.reduceAdd, Int.reduceNeg, decide_true, decide_false, Bool.false_xor, Bool.true_xor, Bool.not_true, Bool.not_false]) (by simp [evA, startE, List.map_cons, List.map_nil, List.length_cons, List.length_nil, List.replicate, List.cons_append, List.nil_append, List.set_cons_zero, List.set_cons_succ, List.getElem?_cons_zero, List.getElem?_cons_succ, Nat.add_sub_cancel, Nat.sub_self, Nat.reduceAdd, Nat.reduceSub, Int.reduceAdd, Int.reduceNeg, decide_true, decide_false, Bool.false_xor, Bool.true_xor, Bool.not_true, Bool.not_false]; omega) (by simp [evA, startE, List.map_cons, List.map_nil, List.length_cons, List.length_nil, List.replicate, List.cons_append, List.nil_append, List.set_cons_zero, List.set_cons_succ, List.getElem?_cons_zero, List.getElem?_cons_succ, Nat.add_sub_cancel, Nat.sub_self, Nat.reduceAdd, Nat.reduceSub, Int.reduceAdd, Int.reduceNeg, decide_true, decide_false, Bool.false_xor, Bool.true_xor, Bool.not_true, Bool.not_false]) ne1 (Nat.le_refl _) hrn ch3
  · obtain ⟨k2, hk2, rfl⟩ := hs1
    refine ⟨_, rfl, by simp [evA, startE, List.map_cons, List.map_nil, List.length_cons, List.length_nil, List.replicate, List.cons_append, List.nil_append, List.set_cons_zero, List.set_cons_succ, List.getElem?_cons_zero, List.getElem?_cons_succ, Nat.add_sub_cancel, Nat.sub_self, Nat.reduceAdd, Nat.reduceSub, Int.reduceAdd, Int.reduceNeg, decide_true, decide_false, Bool.false_xor, Bool.true_xor, Bool.not_true, Bool.not_false], ?_⟩
    simp [wipeD, evA, startE, List.map_cons, List.map_nil, List.length_cons, List.length_nil, List.replicate, List.cons_append, List.nil_append, List.set_cons_zero, List.set_cons_succ, List.getElem?_cons_zero, List.getElem?_cons_succ, Nat.add_sub_cancel, Nat.sub_self, Nat.reduceAdd, Nat.reduceSub, Int.reduceAdd, Int.reduceNeg, decide_true, decide_false, Bool.false_xor, Bool.true_xor, Bool.not_true, Bool.not_false]
    refine wp_mono (taken hG (by rw [set_same]; exact hk2) (by omega) (by omega) (by omega)) ?_
    rintro _ _ ⟨v3, k3, rfl, v3a, v3b, hk3, rfl⟩
    obtain ⟨w, hw, ew⟩ := at_34 v3a v3b
    simp [idx_lst ew, evA, startE, List.map_cons, List.map_nil, List.length_cons, List.length_nil, List.replicate, List.cons_append, List.nil_append, List.set_cons_zero, List.set_cons_succ, List.getElem?_cons_zero, List.getElem?_cons_succ, Nat.add_sub_cancel, Nat.sub_self, Nat.reduceAdd, Nat.reduceSub, Int.reduceAdd, Int.reduceNeg, decide_true, decide_false, Bool.false_xor, Bool.true_xor, Bool.not_true, Bool.not_false]
    refine wp_mono (taken hG (by rw [set_same]; exact hk3) (by omega) (by omega) (by omega)) ?_
    rintro _ _ ⟨v4, k4, rfl, v4a, v4b, hk4, rfl⟩
    exact ⟨⟨v4, rfl, v4a, by omega⟩, k4, hk4, by simp only [set_set]⟩
theorem lawProgram (h : LibQ tb) {n r : Nat} {most waits : Int} {s : Store} (hr : RowC (s.f r)) (hrn : r < s.n) (hm : 1 ≤ most) (hm5 : most ≤ 5) (hn : 40 ≤ n) :
    wp (Run tb W n 49 [.cell r, .int most, .int waits] s) fun v s' => ∃ ps, v = PrD ps ∧ PrOk ps ∧ RowC (s'.f r) ∧ Chg (fun k => k = r) s s' :=
  wp_mono (lawProgramW h hr hrn hm hm5 hn) fun v s' ⟨ps, a, b, c, d, _⟩ => ⟨ps, a, b, c, d⟩
end
end PI

namespace PI
open PySem L2
def pr (w : Nat) (a b : Int) : Option Int :=
  if w = 0 then some ((a + b) % 1000) else if w = 1 then some ((a - b) % 1000) else if w = 2 then some (a * b % 1000) else if w = 3 then (if b = 0 then none else some (a / b))
  else if w = 4 then some (if a < b then 1 else 0) else some (if a = b then 1 else 0)
def ev : Re → List Int → Option Int
  | .num i, _ => some i
  | .slot i, vs => some (vs.getD i.toNat 0)
  | .pair w a b, vs => match ev a vs, ev b vs with
    | some x, some y => pr w x y
    | _, _ => none
def oD : Option Int → D
  | none => .non
  | some i => .int i
theorem oD_none : oD none = .non := rfl
theorem oD_some {i : Int} : oD (some i) = .int i := rfl
def VsOk (vs : List Int) : Prop := ∀ v ∈ vs, 0 ≤ v ∧ v < 1000
theorem pr_ok {w : Nat} {a b v : Int} (ha : 0 ≤ a ∧ a < 1000) (hb : 0 ≤ b ∧ b < 1000) (h : pr w a b = some v) : 0 ≤ v ∧ v < 1000 := by
  unfold pr at h
  split at h
  · cases h; exact ⟨Int.emod_nonneg _ (by omega), Int.emod_lt_of_pos _ (by omega)⟩
  split at h
  · cases h; exact ⟨Int.emod_nonneg _ (by omega), Int.emod_lt_of_pos _ (by omega)⟩
  split at h
  · cases h; exact ⟨Int.emod_nonneg _ (by omega), Int.emod_lt_of_pos _ (by omega)⟩
  split at h
  · split at h
    · cases h
    · cases h
      exact ⟨Int.ediv_nonneg ha.1 hb.1, Int.lt_of_le_of_lt (Int.ediv_le_self _ ha.1) ha.2⟩
  split at h
  · cases h; split <;> omega
  · cases h; split <;> omega
theorem ev_ok {vs : List Int} (hv : VsOk vs) : ∀ (e : Re) {d : Nat} {v : Int}, e.ok vs.length d → ev e vs = some v → 0 ≤ v ∧ v < 1000
  | .num i, d, v, h, q => by cases q; exact h
  | .slot i, d, v, h, q => by
    cases q
    obtain ⟨h0, h1⟩ := h
    have hl : i.toNat < vs.length := by omega
    rw [List.getD_eq_getElem?_getD, List.getElem?_eq_getElem hl]
    exact hv _ (List.getElem_mem hl)
  | .pair w a b, d, v, h, q => by
    obtain ⟨_, k, _, ha, hb⟩ := h
    simp only [ev] at q
    split at q
    · rename_i x y ex ey
      exact pr_ok (ev_ok hv a ha ex) (ev_ok hv b hb ey) q
    · cases q
structure LibE (tb : Tab) : Prop where
  tg : 67 ≤ tb.tg.length
  g0 : tb.gl 0 = some (.int 1000)
  f17 : tb.fns 17 = some c17
  f18 : tb.fns 18 = some c18
  f19 : tb.fns 19 = some c19
structure LibF (tb : Tab) : Prop where
  tg : 67 ≤ tb.tg.length
  f61 : tb.fns 61 = some c61
  f62 : tb.fns 62 = some c62
section
variable {tb : Tab} {W : Nat}
theorem nonI {i : Int} : isNonD (.int i) = false := rfl
theorem nonN : isNonD .non = true := rfl
theorem paired (h : LibE tb) {w n : Nat} {a b : Int} {s : Store} (hw : w < 6) (ha : 0 ≤ a ∧ a < 1000) (hb : 0 ≤ b ∧ b < 1000) (hn : 2 ≤ n) : Run tb W n 17 [.tag w, .int a, .int b] s = .ok (oD (pr w a b)) s := by
  obtain ⟨m, rfl⟩ : ∃ m, n = m + 2 := ⟨n - 2, by omega⟩
  rw [run_at h.f17 rfl]
  have ht := h.tg
  have tg : ∀ i, i < 67 → i < tb.tg.length := fun i hi => by omega
  have m1 : (-(2 ^ 64) < a ∧ a < 2 ^ 64) := by omega
  have cs : w = 0 ∨ w = 1 ∨ w = 2 ∨ w = 3 ∨ w = 4 ∨ w = 5 := by omega
  rcases cs with rfl | rfl | rfl | rfl | rfl | rfl
  · simp [c17, eq_tt (tg 0 (by omega)) (tg 0 (by omega)), h.g0, mod_ii, pr, oD, evA, startE, List.map_cons, List.map_nil, List.length_cons, List.length_nil, List.replicate, List.cons_append, List.nil_append, List.set_cons_zero, List.set_cons_succ, List.getElem?_cons_zero, List.getElem?_cons_succ, Nat.add_sub_cancel, Nat.sub_self, Nat.reduceAdd, Nat.reduceSub, Int.reduceAdd, Int.reduceNeg, decide_true, decide_false, Bool.false_xor, Bool.true_xor, Bool.not_true, Bool.not_false]
  · simp [c17, eq_tt (tg 1 (by omega)) (tg 0 (by omega)), eq_tt (tg 1 (by omega)) (tg 1 (by omega)), h.g0, mod_ii, pr, oD, evA, startE, List.map_cons, List.map_nil, List.length_cons, List.length_nil, List.replicate, List.cons_append, List.nil_append, List.set_cons_zero, List.set_cons_succ, List.getElem?_cons_zero, List.getElem?_cons_succ, Nat.add_sub_cancel, Nat.sub_self, Nat.reduceAdd, Nat.reduceSub, Int.reduceAdd, Int.reduceNeg, decide_true, decide_false, Bool.false_xor, Bool.true_xor, Bool.not_true, Bool.not_false]
  · simp [c17, eq_tt (tg 2 (by omega)) (tg 0 (by omega)), eq_tt (tg 2 (by omega)) (tg 1 (by omega)), eq_tt (tg 2 (by omega)) (tg 2 (by omega)), h.g0, mod_ii, mul_ii (.inl m1), pr, oD, evA, startE, List.map_cons, List.map_nil, List.length_cons, List.length_nil, List.replicate, List.cons_append, List.nil_append, List.set_cons_zero, List.set_cons_succ, List.getElem?_cons_zero, List.getElem?_cons_succ, Nat.add_sub_cancel, Nat.sub_self, Nat.reduceAdd, Nat.reduceSub, Int.reduceAdd, Int.reduceNeg, decide_true, decide_false, Bool.false_xor, Bool.true_xor, Bool.not_true, Bool.not_false]
  · by_cases t : b = 0
    · simp [c17, eq_tt (tg 3 (by omega)) (tg 0 (by omega)), eq_tt (tg 3 (by omega)) (tg 1 (by omega)), eq_tt (tg 3 (by omega)) (tg 2 (by omega)), eq_tt (tg 3 (by omega)) (tg 3 (by omega)), t, pr, oD, evA, startE, List.map_cons, List.map_nil, List.length_cons, List.length_nil, List.replicate, List.cons_append, List.nil_append, List.set_cons_zero, List.set_cons_succ, List.getElem?_cons_zero, List.getElem?_cons_succ, Nat.add_sub_cancel, Nat.sub_self, Nat.reduceAdd, Nat.reduceSub, Int.reduceAdd, Int.reduceNeg, decide_true, decide_false, Bool.false_xor, Bool.true_xor, Bool.not_true, Bool.not_false]
    · have hb' : 0 < b ∧ b < 1073741824 := by omega
      simp [c17, eq_tt (tg 3 (by omega)) (tg 0 (by omega)), eq_tt (tg 3 (by omega)) (tg 1 (by omega)), eq_tt (tg 3 (by omega)) (tg 2 (by omega)), eq_tt (tg 3 (by omega)) (tg 3 (by omega)), t, fdiv_ii hb', pr, oD, evA, startE, List.map_cons, List.map_nil, List.length_cons, List.length_nil, List.replicate, List.cons_append, List.nil_append, List.set_cons_zero, List.set_cons_succ, List.getElem?_cons_zero, List.getElem?_cons_succ, Nat.add_sub_cancel, Nat.sub_self, Nat.reduceAdd, Nat.reduceSub, Int.reduceAdd, Int.reduceNeg, decide_true, decide_false, Bool.false_xor, Bool.true_xor, Bool.not_true, Bool.not_false]
  · by_cases t : a < b
    · simp [c17, eq_tt (tg 4 (by omega)) (tg 0 (by omega)), eq_tt (tg 4 (by omega)) (tg 1 (by omega)), eq_tt (tg 4 (by omega)) (tg 2 (by omega)), eq_tt (tg 4 (by omega)) (tg 3 (by omega)), eq_tt (tg 4 (by omega)) (tg 4 (by omega)), t, b2z, pr, oD, evA, startE, List.map_cons, List.map_nil, List.length_cons, List.length_nil, List.replicate, List.cons_append, List.nil_append, List.set_cons_zero, List.set_cons_succ, List.getElem?_cons_zero, List.getElem?_cons_succ, Nat.add_sub_cancel, Nat.sub_self, Nat.reduceAdd, Nat.reduceSub, Int.reduceAdd, Int.reduceNeg, decide_true, decide_false, Bool.false_xor, Bool.true_xor, Bool.not_true, Bool.not_false]
    · simp [c17, eq_tt (tg 4 (by omega)) (tg 0 (by omega)), eq_tt (tg 4 (by omega)) (tg 1 (by omega)), eq_tt (tg 4 (by omega)) (tg 2 (by omega)), eq_tt (tg 4 (by omega)) (tg 3 (by omega)), eq_tt (tg 4 (by omega)) (tg 4 (by omega)), t, b2z, pr, oD, evA, startE, List.map_cons, List.map_nil, List.length_cons, List.length_nil, List.replicate, List.cons_append, List.nil_append, List.set_cons_zero, List.set_cons_succ, List.getElem?_cons_zero, List.getElem?_cons_succ, Nat.add_sub_cancel, Nat.sub_self, Nat.reduceAdd, Nat.reduceSub, Int.reduceAdd, Int.reduceNeg, decide_true, decide_false, Bool.false_xor, Bool.true_xor, Bool.not_true, Bool.not_false]
  · by_cases t : a = b
    · simp [c17, eq_tt (tg 5 (by omega)) (tg 0 (by omega)), eq_tt (tg 5 (by omega)) (tg 1 (by omega)), eq_tt (tg 5 (by omega)) (tg 2 (by omega)), eq_tt (tg 5 (by omega)) (tg 3 (by omega)), eq_tt (tg 5 (by omega)) (tg 4 (by omega)), t, b2z, pr, oD, evA, startE, List.map_cons, List.map_nil, List.length_cons, List.length_nil, List.replicate, List.cons_append, List.nil_append, List.set_cons_zero, List.set_cons_succ, List.getElem?_cons_zero, List.getElem?_cons_succ, Nat.add_sub_cancel, Nat.sub_self, Nat.reduceAdd, Nat.reduceSub, Int.reduceAdd, Int.reduceNeg, decide_true, decide_false, Bool.false_xor, Bool.true_xor, Bool.not_true, Bool.not_false]
    · simp [c17, eq_tt (tg 5 (by omega)) (tg 0 (by omega)), eq_tt (tg 5 (by omega)) (tg 1 (by omega)), eq_tt (tg 5 (by omega)) (tg 2 (by omega)), eq_tt (tg 5 (by omega)) (tg 3 (by omega)), eq_tt (tg 5 (by omega)) (tg 4 (by omega)), t, b2z, pr, oD, evA, startE, List.map_cons, List.map_nil, List.length_cons, List.length_nil, List.replicate, List.cons_append, List.nil_append, List.set_cons_zero, List.set_cons_succ, List.getElem?_cons_zero, List.getElem?_cons_succ, Nat.add_sub_cancel, Nat.sub_self, Nat.reduceAdd, Nat.reduceSub, Int.reduceAdd, Int.reduceNeg, decide_true, decide_false, Bool.false_xor, Bool.true_xor, Bool.not_true, Bool.not_false]
theorem lawPaired (h : LibF tb) {w n : Nat} {a b : Int} {s : Store} (hw : w < 6) (ha : 0 ≤ a ∧ a < 1000) (hb : 0 ≤ b ∧ b < 1000) (hn : 2 ≤ n) : Run tb W n 61 [.tag w, .int a, .int b] s = .ok (oD (pr w a b)) s := by
  obtain ⟨m, rfl⟩ : ∃ m, n = m + 2 := ⟨n - 2, by omega⟩
  rw [run_at h.f61 rfl]
  have ht := h.tg
  have tg : ∀ i, i < 67 → i < tb.tg.length := fun i hi => by omega
  have m1 : (-(2 ^ 64) < a ∧ a < 2 ^ 64) := by omega
  have cs : w = 0 ∨ w = 1 ∨ w = 2 ∨ w = 3 ∨ w = 4 ∨ w = 5 := by omega
  have tgw : w < tb.tg.length := by omega
  have dic : ∀ x y z : Int, dctK (GG tb W m) false (pairsOf [.tag 0, .int x, .tag 1, .int y, .tag 2, .int z]) s = .ok (.dct [(.tag 0, .int x), (.tag 1, .int y), (.tag 2, .int z)]) s := fun x y z => by
    simp [pairsOf, keyD, dctK, putD, eqvD, newK]
  have dix : ∀ (x y z : Int) (w : Nat) (v : Int), lookD tb.tg (.tag w) [(.tag 0, .int x), (.tag 1, .int y), (.tag 2, .int z)] = some (.int v) → idxV tb.tg (.dct [(.tag 0, .int x), (.tag 1, .int y), (.tag 2, .int z)]) (.tag w) s = .ok (.int v) s := fun x y z w v e => by
    simp [idxV, qdr_dct, keyD, e]
  rcases cs with rfl | rfl | rfl | rfl | rfl | rfl
  · simp [c61, eq_tt tgw (tg 3 (by omega)), nonI, in_tup (T := tb.tg), flatD, eqvD, mul_ii (.inl m1), dic, dix (a + b) (a - b) (a * b) 0 (a + b) (by simp [lookD, eqvD]), mod_ii, pr, oD, evA, startE, List.map_cons, List.map_nil, List.length_cons, List.length_nil, List.replicate, List.cons_append, List.nil_append, List.set_cons_zero, List.set_cons_succ, List.getElem?_cons_zero, List.getElem?_cons_succ, Nat.add_sub_cancel, Nat.sub_self, Nat.reduceAdd, Nat.reduceSub, Int.reduceAdd, Int.reduceNeg, decide_true, decide_false, Bool.false_xor, Bool.true_xor, Bool.not_true, Bool.not_false]
  · simp [c61, eq_tt tgw (tg 3 (by omega)), nonI, in_tup (T := tb.tg), flatD, eqvD, mul_ii (.inl m1), dic, dix (a + b) (a - b) (a * b) 1 (a - b) (by simp [lookD, eqvD]), mod_ii, pr, oD, evA, startE, List.map_cons, List.map_nil, List.length_cons, List.length_nil, List.replicate, List.cons_append, List.nil_append, List.set_cons_zero, List.set_cons_succ, List.getElem?_cons_zero, List.getElem?_cons_succ, Nat.add_sub_cancel, Nat.sub_self, Nat.reduceAdd, Nat.reduceSub, Int.reduceAdd, Int.reduceNeg, decide_true, decide_false, Bool.false_xor, Bool.true_xor, Bool.not_true, Bool.not_false]
  · simp [c61, eq_tt tgw (tg 3 (by omega)), nonI, in_tup (T := tb.tg), flatD, eqvD, mul_ii (.inl m1), dic, dix (a + b) (a - b) (a * b) 2 (a * b) (by simp [lookD, eqvD]), mod_ii, pr, oD, evA, startE, List.map_cons, List.map_nil, List.length_cons, List.length_nil, List.replicate, List.cons_append, List.nil_append, List.set_cons_zero, List.set_cons_succ, List.getElem?_cons_zero, List.getElem?_cons_succ, Nat.add_sub_cancel, Nat.sub_self, Nat.reduceAdd, Nat.reduceSub, Int.reduceAdd, Int.reduceNeg, decide_true, decide_false, Bool.false_xor, Bool.true_xor, Bool.not_true, Bool.not_false]
  · by_cases t : b = 0
    · simp [c61, eq_tt tgw (tg 3 (by omega)), nonI, t, pr, oD, evA, startE, List.map_cons, List.map_nil, List.length_cons, List.length_nil, List.replicate, List.cons_append, List.nil_append, List.set_cons_zero, List.set_cons_succ, List.getElem?_cons_zero, List.getElem?_cons_succ, Nat.add_sub_cancel, Nat.sub_self, Nat.reduceAdd, Nat.reduceSub, Int.reduceAdd, Int.reduceNeg, decide_true, decide_false, Bool.false_xor, Bool.true_xor, Bool.not_true, Bool.not_false]
    · have hb' : 0 < b ∧ b < 1073741824 := by omega
      simp [c61, eq_tt tgw (tg 3 (by omega)), nonI, t, fdiv_ii hb', pr, oD, evA, startE, List.map_cons, List.map_nil, List.length_cons, List.length_nil, List.replicate, List.cons_append, List.nil_append, List.set_cons_zero, List.set_cons_succ, List.getElem?_cons_zero, List.getElem?_cons_succ, Nat.add_sub_cancel, Nat.sub_self, Nat.reduceAdd, Nat.reduceSub, Int.reduceAdd, Int.reduceNeg, decide_true, decide_false, Bool.false_xor, Bool.true_xor, Bool.not_true, Bool.not_false]
  · by_cases t : a < b
    · simp [c61, eq_tt tgw (tg 3 (by omega)), eq_tt tgw (tg 5 (by omega)), nonI, in_tup (T := tb.tg), flatD, eqvD, t, b2z, pr, oD, evA, startE, List.map_cons, List.map_nil, List.length_cons, List.length_nil, List.replicate, List.cons_append, List.nil_append, List.set_cons_zero, List.set_cons_succ, List.getElem?_cons_zero, List.getElem?_cons_succ, Nat.add_sub_cancel, Nat.sub_self, Nat.reduceAdd, Nat.reduceSub, Int.reduceAdd, Int.reduceNeg, decide_true, decide_false, Bool.false_xor, Bool.true_xor, Bool.not_true, Bool.not_false]
    · simp [c61, eq_tt tgw (tg 3 (by omega)), eq_tt tgw (tg 5 (by omega)), nonI, in_tup (T := tb.tg), flatD, eqvD, t, b2z, pr, oD, evA, startE, List.map_cons, List.map_nil, List.length_cons, List.length_nil, List.replicate, List.cons_append, List.nil_append, List.set_cons_zero, List.set_cons_succ, List.getElem?_cons_zero, List.getElem?_cons_succ, Nat.add_sub_cancel, Nat.sub_self, Nat.reduceAdd, Nat.reduceSub, Int.reduceAdd, Int.reduceNeg, decide_true, decide_false, Bool.false_xor, Bool.true_xor, Bool.not_true, Bool.not_false]
  · by_cases t : a = b
    · simp [c61, eq_tt tgw (tg 3 (by omega)), eq_tt tgw (tg 5 (by omega)), nonI, in_tup (T := tb.tg), flatD, eqvD, t, b2z, pr, oD, evA, startE, List.map_cons, List.map_nil, List.length_cons, List.length_nil, List.replicate, List.cons_append, List.nil_append, List.set_cons_zero, List.set_cons_succ, List.getElem?_cons_zero, List.getElem?_cons_succ, Nat.add_sub_cancel, Nat.sub_self, Nat.reduceAdd, Nat.reduceSub, Int.reduceAdd, Int.reduceNeg, decide_true, decide_false, Bool.false_xor, Bool.true_xor, Bool.not_true, Bool.not_false]
    · simp [c61, eq_tt tgw (tg 3 (by omega)), eq_tt tgw (tg 5 (by omega)), nonI, in_tup (T := tb.tg), flatD, eqvD, t, b2z, pr, oD, evA, startE, List.map_cons, List.map_nil, List.length_cons, List.length_nil, List.replicate, List.cons_append, List.nil_append, List.set_cons_zero, List.set_cons_succ, List.getElem?_cons_zero, List.getElem?_cons_succ, Nat.add_sub_cancel, Nat.sub_self, Nat.reduceAdd, Nat.reduceSub, Int.reduceAdd, Int.reduceNeg, decide_true, decide_false, Bool.false_xor, Bool.true_xor, Bool.not_true, Bool.not_false]
theorem slotIx {vs : List Int} {i : Int} (h0 : 0 ≤ i) (h1 : i < vs.length) : atI (vs.map D.int) i = some (.int (vs.getD i.toNat 0)) := by
  have hl : i.toNat < vs.length := by omega
  rw [at_i h0, List.getElem?_map, List.getD_eq_getElem?_getD, List.getElem?_eq_getElem hl] <;> rfl
theorem reckoned (h : LibE tb) {vs : List Int} (hv : VsOk vs) : ∀ (e : Re) (d n : Nat) (s : Store), e.ok vs.length d → d + 4 ≤ n → Run tb W n 18 [e.d, .lst (vs.map .int)] s = .ok (oD (ev e vs)) s := by
  have ht := h.tg
  have tg : ∀ i, i < 67 → i < tb.tg.length := fun i hi => by omega
  intro e
  induction e with
  | num i =>
    intro d n s hk hn
    obtain ⟨m, rfl⟩ : ∃ m, n = m + 2 := ⟨n - 2, by omega⟩
    rw [run_at h.f18 rfl]
    simp [c18, Re.d, eq_tt (tg 13 (by omega)) (tg 13 (by omega)), ev, oD, evA, startE, List.map_cons, List.map_nil, List.length_cons, List.length_nil, List.replicate, List.cons_append, List.nil_append, List.set_cons_zero, List.set_cons_succ, List.getElem?_cons_zero, List.getElem?_cons_succ, Nat.add_sub_cancel, Nat.sub_self, Nat.reduceAdd, Nat.reduceSub, Int.reduceAdd, Int.reduceNeg, decide_true, decide_false, Bool.false_xor, Bool.true_xor, Bool.not_true, Bool.not_false]
  | slot i =>
    intro d n s hk hn
    obtain ⟨m, rfl⟩ : ∃ m, n = m + 2 := ⟨n - 2, by omega⟩
    rw [run_at h.f18 rfl]
    simp [c18, Re.d, eq_tt (tg 14 (by omega)) (tg 13 (by omega)), eq_tt (tg 14 (by omega)) (tg 14 (by omega)), idx_lst (slotIx hk.1 hk.2), ev, oD, evA, startE, List.map_cons, List.map_nil, List.length_cons, List.length_nil, List.replicate, List.cons_append, List.nil_append, List.set_cons_zero, List.set_cons_succ, List.getElem?_cons_zero, List.getElem?_cons_succ, Nat.add_sub_cancel, Nat.sub_self, Nat.reduceAdd, Nat.reduceSub, Int.reduceAdd, Int.reduceNeg, decide_true, decide_false, Bool.false_xor, Bool.true_xor, Bool.not_true, Bool.not_false]
  | pair w a b iha ihb =>
    intro d n s hk hn
    obtain ⟨hw, k, rfl, ka, kb⟩ := hk
    obtain ⟨m, rfl⟩ : ∃ m, n = m + 2 := ⟨n - 2, by omega⟩
    rw [run_at h.f18 rfl]
    have ia := iha k (m + 1) s ka (by omega)
    have ib := ihb k (m + 1) s kb (by omega)
    have w13 : ¬ w = 13 := by omega
    have w14 : ¬ w = 14 := by omega
    simp only [ev]
    cases ea : ev a vs with
    | none =>
      rw [ea] at ia
      simp only [oD] at ia
      simp [c18, Re.d, eq_tt (tg w (by omega)) (tg 13 (by omega)), eq_tt (tg w (by omega)) (tg 14 (by omega)), w13, w14, ia, ib, nonN, oD, evA, startE, List.map_cons, List.map_nil, List.length_cons, List.length_nil, List.replicate, List.cons_append, List.nil_append, List.set_cons_zero, List.set_cons_succ, List.getElem?_cons_zero, List.getElem?_cons_succ, Nat.add_sub_cancel, Nat.sub_self, Nat.reduceAdd, Nat.reduceSub, Int.reduceAdd, Int.reduceNeg, decide_true, decide_false, Bool.false_xor, Bool.true_xor, Bool.not_true, Bool.not_false]
    | some x =>
      rw [ea] at ia
      simp only [oD] at ia
      cases eb : ev b vs with
      | none =>
        rw [eb] at ib
        simp only [oD] at ib
        simp [c18, Re.d, eq_tt (tg w (by omega)) (tg 13 (by omega)), eq_tt (tg w (by omega)) (tg 14 (by omega)), w13, w14, ia, ib, nonN, nonI, oD, evA, startE, List.map_cons, List.map_nil, List.length_cons, List.length_nil, List.replicate, List.cons_append, List.nil_append, List.set_cons_zero, List.set_cons_succ, List.getElem?_cons_zero, List.getElem?_cons_succ, Nat.add_sub_cancel, Nat.sub_self, Nat.reduceAdd, Nat.reduceSub, Int.reduceAdd, Int.reduceNeg, decide_true, decide_false, Bool.false_xor, Bool.true_xor, Bool.not_true, Bool.not_false]
      | some y =>
        rw [eb] at ib
        simp only [oD] at ib
        have pp := paired (W := W) (s := s) h hw (ev_ok hv a ka ea) (ev_ok hv b kb eb) (show 2 ≤ m + 1 by omega)
        simp [c18, Re.d, eq_tt (tg w (by omega)) (tg 13 (by omega)), eq_tt (tg w (by omega)) (tg 14 (by omega)), w13, w14, ia, ib, nonI, pp, evA, startE, List.map_cons, List.map_nil, List.length_cons, List.length_nil, List.replicate, List.cons_append, List.nil_append, List.set_cons_zero, List.set_cons_succ, List.getElem?_cons_zero, List.getElem?_cons_succ, Nat.add_sub_cancel, Nat.sub_self, Nat.reduceAdd, Nat.reduceSub, Int.reduceAdd, Int.reduceNeg, decide_true, decide_false, Bool.false_xor, Bool.true_xor, Bool.not_true, Bool.not_false]
theorem lawNumber (h : LibF tb) {vs : List Int} (hv : VsOk vs) : ∀ (e : Re) (d n : Nat) (s : Store), e.ok vs.length d → d + 4 ≤ n → Run tb W n 62 [e.d, .lst (vs.map .int)] s = .ok (oD (ev e vs)) s := by
  have ht := h.tg
  have tg : ∀ i, i < 67 → i < tb.tg.length := fun i hi => by omega
  intro e
  induction e with
  | num i =>
    intro d n s hk hn
    obtain ⟨m, rfl⟩ : ∃ m, n = m + 2 := ⟨n - 2, by omega⟩
    rw [run_at h.f62 rfl]
    simp [c62, Re.d, eq_tt (tg 13 (by omega)) (tg 13 (by omega)), ev, oD, evA, startE, List.map_cons, List.map_nil, List.length_cons, List.length_nil, List.replicate, List.cons_append, List.nil_append, List.set_cons_zero, List.set_cons_succ, List.getElem?_cons_zero, List.getElem?_cons_succ, Nat.add_sub_cancel, Nat.sub_self, Nat.reduceAdd, Nat.reduceSub, Int.reduceAdd, Int.reduceNeg, decide_true, decide_false, Bool.false_xor, Bool.true_xor, Bool.not_true, Bool.not_false]
  | slot i =>
    intro d n s hk hn
    obtain ⟨m, rfl⟩ : ∃ m, n = m + 2 := ⟨n - 2, by omega⟩
    rw [run_at h.f62 rfl]
    simp [c62, Re.d, eq_tt (tg 14 (by omega)) (tg 13 (by omega)), eq_tt (tg 14 (by omega)) (tg 14 (by omega)), idx_lst (slotIx hk.1 hk.2), ev, oD, evA, startE, List.map_cons, List.map_nil, List.length_cons, List.length_nil, List.replicate, List.cons_append, List.nil_append, List.set_cons_zero, List.set_cons_succ, List.getElem?_cons_zero, List.getElem?_cons_succ, Nat.add_sub_cancel, Nat.sub_self, Nat.reduceAdd, Nat.reduceSub, Int.reduceAdd, Int.reduceNeg, decide_true, decide_false, Bool.false_xor, Bool.true_xor, Bool.not_true, Bool.not_false]
  | pair w a b iha ihb =>
    intro d n s hk hn
    obtain ⟨hw, k, rfl, ka, kb⟩ := hk
    obtain ⟨m, rfl⟩ : ∃ m, n = m + 2 := ⟨n - 2, by omega⟩
    rw [run_at h.f62 rfl]
    have ia := iha k (m + 1) s ka (by omega)
    have ib := ihb k (m + 1) s kb (by omega)
    have w13 : ¬ w = 13 := by omega
    have w14 : ¬ w = 14 := by omega
    have pp : Run tb W (m + 1) 61 [.tag w, oD (ev a vs), oD (ev b vs)] s = .ok (oD (ev (.pair w a b) vs)) s := by
      simp only [ev]
      cases ea : ev a vs with
      | none =>
        obtain ⟨q, hq⟩ : ∃ q, m + 1 = q + 2 := ⟨m - 1, by omega⟩
        rw [hq, run_at h.f61 rfl]
        simp [c61, nonN, oD, evA, startE, List.map_cons, List.map_nil, List.length_cons, List.length_nil, List.replicate, List.cons_append, List.nil_append, List.set_cons_zero, List.set_cons_succ, List.getElem?_cons_zero, List.getElem?_cons_succ, Nat.add_sub_cancel, Nat.sub_self, Nat.reduceAdd, Nat.reduceSub, Int.reduceAdd, Int.reduceNeg, decide_true, decide_false, Bool.false_xor, Bool.true_xor, Bool.not_true, Bool.not_false]
      | some x =>
        cases eb : ev b vs with
        | none =>
          obtain ⟨q, hq⟩ : ∃ q, m + 1 = q + 2 := ⟨m - 1, by omega⟩
          rw [hq, run_at h.f61 rfl]
          simp [c61, nonN, nonI, oD, evA, startE, List.map_cons, List.map_nil, List.length_cons, List.length_nil, List.replicate, List.cons_append, List.nil_append, List.set_cons_zero, List.set_cons_succ, List.getElem?_cons_zero, List.getElem?_cons_succ, Nat.add_sub_cancel, Nat.sub_self, Nat.reduceAdd, Nat.reduceSub, Int.reduceAdd, Int.reduceNeg, decide_true, decide_false, Bool.false_xor, Bool.true_xor, Bool.not_true, Bool.not_false]
        | some y => exact lawPaired h hw (ev_ok hv a ka ea) (ev_ok hv b kb eb) (by omega)
    simp [c62, Re.d, eq_tt (tg w (by omega)) (tg 13 (by omega)), eq_tt (tg w (by omega)) (tg 14 (by omega)), w13, w14, ia, ib, pp, evA, startE, List.map_cons, List.map_nil, List.length_cons, List.length_nil, List.replicate, List.cons_append, List.nil_append, List.set_cons_zero, List.set_cons_succ, List.getElem?_cons_zero, List.getElem?_cons_succ, Nat.add_sub_cancel, Nat.sub_self, Nat.reduceAdd, Nat.reduceSub, Int.reduceAdd, Int.reduceNeg, decide_true, decide_false, Bool.false_xor, Bool.true_xor, Bool.not_true, Bool.not_false]
/-- all of them, or none -/
def evs : List Re → List Int → Option (List Int)
  | [], _ => some []
  | e :: es, vs => match ev e vs, evs es vs with
    | some x, some xs => some (x :: xs)
    | _, _ => none
def oDs : Option (List Int) → D
  | none => .non
  | some xs => .lst (xs.map .int)
theorem any_non {T : List Str} {vs : List Int} : ∀ (as : List Re), (as.map fun e => oD (ev e vs)).any (fun y => eqvD T y .non) = (evs as vs).isNone
  | [] => rfl
  | e :: es => by
    simp only [List.map_cons, List.any_cons, any_non es, evs]
    cases ev e vs with
    | none => simp [oD, eqvD]
    | some x =>
      cases evs es vs with
      | none => simp [oD, eqvD]
      | some xs => simp [oD, eqvD]
theorem evs_some {vs xs : List Int} : ∀ {as : List Re}, evs as vs = some xs → (as.map fun e => oD (ev e vs)) = xs.map .int
  | [], h => by cases h; rfl
  | e :: es, h => by
    simp only [evs] at h
    split at h
    · rename_i x ys ex ey
      cases h
      simp only [List.map_cons, ex, evs_some ey]
      rfl
    · cases h
theorem evs_len {vs xs : List Int} : ∀ {as : List Re}, evs as vs = some xs → xs.length = as.length
  | [], h => by cases h; rfl
  | e :: es, h => by
    simp only [evs] at h
    split at h
    · rename_i x ys ex ey
      cases h
      simp [evs_len ey]
    · cases h
theorem evs_ok {vs xs : List Int} (hv : VsOk vs) {d : Nat} : ∀ {as : List Re}, (∀ a ∈ as, a.ok vs.length d) → evs as vs = some xs → VsOk xs
  | [], _, h => by cases h; exact fun _ h => by cases h
  | e :: es, ha, h => by
    simp only [evs] at h
    split at h
    · rename_i x ys ex ey
      cases h
      intro v hm
      rcases List.mem_cons.mp hm with rfl | hm
      · exact ev_ok hv e (ha e List.mem_cons_self) ex
      · exact evs_ok hv (fun a q => ha a (List.mem_cons_of_mem _ q)) ey v hm
    · cases h
theorem flat_oD {vs : List Int} {as : List Re} : (as.map fun e => oD (ev e vs)).all flatD = true := by
  rw [List.all_map]
  refine List.all_eq_true.mpr fun e _ => ?_
  simp only [Function.comp]
  cases ev e vs <;> rfl
theorem in_lst {T : List Str} {neg : Bool} {x : D} {ys : List D} {s : Store} (h : flatD x = true ∧ ys.all flatD = true) : inV' T neg x (.lst ys) s = .ok (.bl (xor neg (ys.any fun y => eqvD T y x))) s := by simp only [inV', qdr_list, if_pos h]
theorem allReckoned (h : LibE tb) {vs : List Int} (hv : VsOk vs) {as : List Re} {d n : Nat} {s : Store} (ha : ∀ a ∈ as, a.ok vs.length d) (hl : as.length ≤ 30) (hn : d + 6 ≤ n) (k : Bool) :
    Run tb W n 19 [if k then .tup (as.map Re.d) else .lst (as.map Re.d), .lst (vs.map .int)] s = .ok (oDs (evs as vs)) s := by
  obtain ⟨m, rfl⟩ : ∃ m, n = m + 2 := ⟨n - 2, by omega⟩
  rw [run_at h.f19 rfl]
  have hL : (as.map Re.d).length ≤ LIM := by rw [List.length_map]; unfold LIM; omega
  have cw : ∀ x0 : Option D, compL (bindW (.name 3) [3] [x0, some (.lst (vs.map .int)), none, none]) (evalE (GG tb W m) (.cst (.bl true))) (evalE (GG tb W m) (.call 18 (.cons (.var 3) (.cons (.var 1) .nil)))) (as.map Re.d) s = .ok (as.map fun e => oD (ev e vs)) s := fun x0 =>
    comp_all fun e he => ⟨_, rfl, by simp [evA, startE, List.map_cons, List.map_nil, List.length_cons, List.length_nil, List.replicate, List.cons_append, List.nil_append, List.set_cons_zero, List.set_cons_succ, List.getElem?_cons_zero, List.getElem?_cons_succ, Nat.add_sub_cancel, Nat.sub_self, Nat.reduceAdd, Nat.reduceSub, Int.reduceAdd, Int.reduceNeg, decide_true, decide_false, Bool.false_xor, Bool.true_xor, Bool.not_true, Bool.not_false], by simp [wipeD, reckoned h hv e d (m + 1) s (ha e he) (by omega), evA, startE, List.map_cons, List.map_nil, List.length_cons, List.length_nil, List.replicate, List.cons_append, List.nil_append, List.set_cons_zero, List.set_cons_succ, List.getElem?_cons_zero, List.getElem?_cons_succ, Nat.add_sub_cancel, Nat.sub_self, Nat.reduceAdd, Nat.reduceSub, Int.reduceAdd, Int.reduceNeg, decide_true, decide_false, Bool.false_xor, Bool.true_xor, Bool.not_true, Bool.not_false]⟩
  have hin : inV' tb.tg false .non (.lst (as.map fun e => oD (ev e vs))) s = .ok (.bl (evs as vs).isNone) s := by
    rw [in_lst ⟨rfl, flat_oD⟩, any_non]; simp
  cases q : evs as vs with
  | none =>
    rw [q] at hin
    cases k <;> simp [c19, kCmpr_some hL, cw, hin, oDs, evA, startE, List.map_cons, List.map_nil, List.length_cons, List.length_nil, List.replicate, List.cons_append, List.nil_append, List.set_cons_zero, List.set_cons_succ, List.getElem?_cons_zero, List.getElem?_cons_succ, Nat.add_sub_cancel, Nat.sub_self, Nat.reduceAdd, Nat.reduceSub, Int.reduceAdd, Int.reduceNeg, decide_true, decide_false, Bool.false_xor, Bool.true_xor, Bool.not_true, Bool.not_false]
  | some xs =>
    rw [q] at hin
    have e2 := evs_some q
    rw [e2] at hin
    cases k <;> simp [c19, kCmpr_some hL, cw, hin, oDs, e2, evA, startE, List.map_cons, List.map_nil, List.length_cons, List.length_nil, List.replicate, List.cons_append, List.nil_append, List.set_cons_zero, List.set_cons_succ, List.getElem?_cons_zero, List.getElem?_cons_succ, Nat.add_sub_cancel, Nat.sub_self, Nat.reduceAdd, Nat.reduceSub, Int.reduceAdd, Int.reduceNeg, decide_true, decide_false, Bool.false_xor, Bool.true_xor, Bool.not_true, Bool.not_false]
end
end PI

namespace PI
open PySem L2
def callee : Bd → List Int → Option Int
  | .turn n _, _ => some n
  | .with_ n _ _, _ => some n
  | .through e _, vs => ev e vs
  | _, _ => none
def argsOf : Bd → List Re
  | .turn _ as => as
  | .with_ _ as _ => as
  | .through _ as => as
  | _ => []
def isCal : Bd → Bool
  | .turn _ _ => true
  | .with_ _ _ _ => true
  | .through _ _ => true
  | _ => false
def called (ps : List (Int × Bd)) (b : Bd) (vs : List Int) : Nat ⊕ (Int × List Int) := match callee b vs, evs (argsOf b) vs with
  | some v, some xs => if (ps.length : Int) ≤ v then .inl 17 else if (ps.map (·.1)).getD v.toNat 0 ≠ xs.length then .inl 18 else .inr (v, xs)
  | _, _ => .inl 3
def calledD : Nat ⊕ (Int × List Int) → D
  | .inl t => .tag t
  | .inr (v, xs) => .tup [.int v, .lst (xs.map .int)]
structure LibL (tb : Tab) : Prop extends LibF tb where
  f63 : tb.fns 63 = some c63
  f64 : tb.fns 64 = some c64
theorem getPr {ps : List (Int × Bd)} {v : Int} (h0 : 0 ≤ v) (h1 : v < ps.length) : ∃ c b, ps[v.toNat]? = some (c, b) ∧ atI (ps.map fun p => D.tup [.int p.1, p.2.d]) v = some (.tup [.int c, b.d]) ∧ (ps.map (·.1)).getD v.toNat 0 = c := by
  have hl : v.toNat < ps.length := by omega
  refine ⟨ps[v.toNat].1, ps[v.toNat].2, List.getElem?_eq_getElem hl, ?_, ?_⟩
  · rw [at_i h0, List.getElem?_map, List.getElem?_eq_getElem hl] <;> rfl
  · rw [List.getD_eq_getElem?_getD, List.getElem?_map, List.getElem?_eq_getElem hl] <;> rfl
section
variable {tb : Tab} {W : Nat}
def c63r : Ss := match c63.code with
  | .cons _ r => r
  | _ => .nil
def calledN (ps : List (Int × Bd)) (nv : Option Int) (av : Option (List Int)) : Nat ⊕ (Int × List Int) := match nv, av with
  | some v, some xs => if (ps.length : Int) ≤ v then .inl 17 else if (ps.map (·.1)).getD v.toNat 0 ≠ xs.length then .inl 18 else .inr (v, xs)
  | _, _ => .inl 3
theorem calledRest (h : LibL tb) {ps : List (Int × Bd)} {vs : List Int} {as : List Re} {nv : Option Int} {d2 : D} {m : Nat} {s : Store} (hv : VsOk vs) (hnv : ∀ v, nv = some v → 0 ≤ v) (has : ∀ a ∈ as, a.ok vs.length 3) (hal : as.length ≤ 30) (hd : idxV tb.tg d2 (.int 2) s = .ok (.tup (as.map Re.d)) s) (hm : 8 ≤ m) :
    (evalSs (GG tb W m) c63r [some (PrD ps), some d2, some (.lst (vs.map .int)), some (oD nv), none, none] s).bind finK = .ok (calledD (calledN ps nv (evs as vs))) s := by
  have hF := h.toLibF
  have hL : (as.map Re.d).length ≤ LIM := by rw [List.length_map]; unfold LIM; omega
  have cw : ∀ x0 x1 x3 x4 : Option D, compL (bindW (.name 5) [5] [x0, x1, some (.lst (vs.map .int)), x3, x4, none]) (evalE (GG tb W m) (.cst (.bl true))) (evalE (GG tb W m) (.call 62 (.cons (.var 5) (.cons (.var 2) .nil)))) (as.map Re.d) s = .ok (as.map fun e => oD (ev e vs)) s := fun x0 x1 x3 x4 =>
    comp_all fun e he => ⟨_, rfl, by simp [evA, startE, List.map_cons, List.map_nil, List.length_cons, List.length_nil, List.replicate, List.cons_append, List.nil_append, List.set_cons_zero, List.set_cons_succ, List.getElem?_cons_zero, List.getElem?_cons_succ, Nat.add_sub_cancel, Nat.sub_self, Nat.reduceAdd, Nat.reduceSub, Int.reduceAdd, Int.reduceNeg, decide_true, decide_false, Bool.false_xor, Bool.true_xor, Bool.not_true, Bool.not_false], by simp [wipeD, lawNumber hF hv e 3 (m + 1) s (has e he) (by omega), evA, startE, List.map_cons, List.map_nil, List.length_cons, List.length_nil, List.replicate, List.cons_append, List.nil_append, List.set_cons_zero, List.set_cons_succ, List.getElem?_cons_zero, List.getElem?_cons_succ, Nat.add_sub_cancel, Nat.sub_self, Nat.reduceAdd, Nat.reduceSub, Int.reduceAdd, Int.reduceNeg, decide_true, decide_false, Bool.false_xor, Bool.true_xor, Bool.not_true, Bool.not_false]⟩
  have hin : inV' tb.tg false .non (.lst (as.map fun e => oD (ev e vs))) s = .ok (.bl (evs as vs).isNone) s := by
    rw [in_lst ⟨rfl, flat_oD⟩, any_non]; simp
  cases nv with
  | none => simp [c63r, c63, hd, kCmpr_some hL, cw, nonN, oD_none, oD_some, calledN, calledD, evA, startE, List.map_cons, List.map_nil, List.length_cons, List.length_nil, List.replicate, List.cons_append, List.nil_append, List.set_cons_zero, List.set_cons_succ, List.getElem?_cons_zero, List.getElem?_cons_succ, Nat.add_sub_cancel, Nat.sub_self, Nat.reduceAdd, Nat.reduceSub, Int.reduceAdd, Int.reduceNeg, decide_true, decide_false, Bool.false_xor, Bool.true_xor, Bool.not_true, Bool.not_false]
  | some v =>
    cases q : evs as vs with
    | none =>
      rw [q] at hin
      simp [c63r, c63, hd, kCmpr_some hL, cw, nonI, hin, oD_none, oD_some, calledN, calledD, evA, startE, List.map_cons, List.map_nil, List.length_cons, List.length_nil, List.replicate, List.cons_append, List.nil_append, List.set_cons_zero, List.set_cons_succ, List.getElem?_cons_zero, List.getElem?_cons_succ, Nat.add_sub_cancel, Nat.sub_self, Nat.reduceAdd, Nat.reduceSub, Int.reduceAdd, Int.reduceNeg, decide_true, decide_false, Bool.false_xor, Bool.true_xor, Bool.not_true, Bool.not_false]
    | some xs =>
      have e2 := evs_some q
      rw [q, e2] at hin
      have hlen : bltV tb.tg .len false [PrD ps] s = .ok (.int ps.length) s := by unfold PrD; rw [len_lst, List.length_map]
      by_cases t : (ps.length : Int) ≤ v
      · simp [c63r, c63, hd, kCmpr_some hL, cw, nonI, hin, e2, hlen, t, oD_none, oD_some, calledN, calledD, evA, startE, List.map_cons, List.map_nil, List.length_cons, List.length_nil, List.replicate, List.cons_append, List.nil_append, List.set_cons_zero, List.set_cons_succ, List.getElem?_cons_zero, List.getElem?_cons_succ, Nat.add_sub_cancel, Nat.sub_self, Nat.reduceAdd, Nat.reduceSub, Int.reduceAdd, Int.reduceNeg, decide_true, decide_false, Bool.false_xor, Bool.true_xor, Bool.not_true, Bool.not_false]
      · obtain ⟨c, b, e3, e4, e5⟩ := getPr (hnv v rfl) (show v < ps.length by omega)
        have ix : idxV tb.tg (PrD ps) (.int v) s = .ok (.tup [.int c, b.d]) s := idx_lst e4
        by_cases u : c = xs.length
        · simp [c63r, c63, hd, kCmpr_some hL, cw, nonI, hin, e2, hlen, t, ix, u, oD_none, oD_some, calledN, e5, e3, calledD, evA, startE, List.map_cons, List.map_nil, List.length_cons, List.length_nil, List.replicate, List.cons_append, List.nil_append, List.set_cons_zero, List.set_cons_succ, List.getElem?_cons_zero, List.getElem?_cons_succ, Nat.add_sub_cancel, Nat.sub_self, Nat.reduceAdd, Nat.reduceSub, Int.reduceAdd, Int.reduceNeg, decide_true, decide_false, Bool.false_xor, Bool.true_xor, Bool.not_true, Bool.not_false]
        · simp [c63r, c63, hd, kCmpr_some hL, cw, nonI, hin, e2, hlen, t, ix, u, oD_none, oD_some, calledN, e5, e3, calledD, evA, startE, List.map_cons, List.map_nil, List.length_cons, List.length_nil, List.replicate, List.cons_append, List.nil_append, List.set_cons_zero, List.set_cons_succ, List.getElem?_cons_zero, List.getElem?_cons_succ, Nat.add_sub_cancel, Nat.sub_self, Nat.reduceAdd, Nat.reduceSub, Int.reduceAdd, Int.reduceNeg, decide_true, decide_false, Bool.false_xor, Bool.true_xor, Bool.not_true, Bool.not_false]
theorem lawCalled (h : LibL tb) {ps : List (Int × Bd)} {b : Bd} {vs : List Int} {wi n : Nat} {s : Store} (hv : VsOk vs) (hb : b.ok (ps.map (·.1)) vs.length wi) (hc : isCal b = true) (hn : 12 ≤ n) : Run tb W n 63 [PrD ps, b.d, .lst (vs.map .int)] s = .ok (calledD (called ps b vs)) s := by
  obtain ⟨m, rfl⟩ : ∃ m, n = m + 2 := ⟨n - 2, by omega⟩
  rw [run_at h.f63 rfl]
  have ht := h.tg
  have tg : ∀ i, i < 67 → i < tb.tg.length := fun i hi => by omega
  have hF := h.toLibF
  have cd : c63.code = .cons (.asg (.name 3) (.ite (.cmp .eq (.idx (.var 1) (.cst (.int (0)))) (.cst (.tag 10))) (.call 62 (.cons (.idx (.var 1) (.cst (.int (1)))) (.cons (.var 2) .nil))) (.idx (.var 1) (.cst (.int (1)))))) c63r := rfl
  have sl : c63.slots = 6 := rfl
  rw [cd, sl]
  cases b with
  | turn q as =>
    obtain ⟨h1, h2, h3, h4⟩ := hb
    have r := calledRest (W := W) h (ps := ps) (nv := some q) (d2 := (Bd.turn q as).d) (s := s) (m := m) hv (fun v e => by cases e; exact h4.1) h4.2.2 h3 (idx_tup rfl) (by omega)
    simp only [oD] at r
    simp [Bd.d, eq_tt (tg 9 (by omega)) (tg 10 (by omega)), evA, startE, List.map_cons, List.map_nil, List.length_cons, List.length_nil, List.replicate, List.cons_append, List.nil_append, List.set_cons_zero, List.set_cons_succ, List.getElem?_cons_zero, List.getElem?_cons_succ, Nat.add_sub_cancel, Nat.sub_self, Nat.reduceAdd, Nat.reduceSub, Int.reduceAdd, Int.reduceNeg, decide_true, decide_false, Bool.false_xor, Bool.true_xor, Bool.not_true, Bool.not_false]
    exact r
  | with_ q as b =>
    obtain ⟨h1, h2, h3, h4, _⟩ := hb
    have r := calledRest (W := W) h (ps := ps) (nv := some q) (d2 := (Bd.with_ q as b).d) (s := s) (m := m) hv (fun v e => by cases e; exact h4.1) h4.2.2 h3 (idx_tup rfl) (by omega)
    simp only [oD] at r
    simp [Bd.d, eq_tt (tg 11 (by omega)) (tg 10 (by omega)), evA, startE, List.map_cons, List.map_nil, List.length_cons, List.length_nil, List.replicate, List.cons_append, List.nil_append, List.set_cons_zero, List.set_cons_succ, List.getElem?_cons_zero, List.getElem?_cons_succ, Nat.add_sub_cancel, Nat.sub_self, Nat.reduceAdd, Nat.reduceSub, Int.reduceAdd, Int.reduceNeg, decide_true, decide_false, Bool.false_xor, Bool.true_xor, Bool.not_true, Bool.not_false]
    exact r
  | through e as =>
    obtain ⟨h1, h2, h3, h4, h5⟩ := hb
    have r := calledRest (W := W) h (ps := ps) (nv := ev e vs) (d2 := (Bd.through e as).d) (s := s) (m := m) hv (fun v q => (ev_ok hv e h4 q).1) h5 (by omega) (idx_tup rfl) (by omega)
    simp [Bd.d, eq_tt (tg 10 (by omega)) (tg 10 (by omega)), lawNumber hF hv e 3 (m + 1) s h4 (by omega), evA, startE, List.map_cons, List.map_nil, List.length_cons, List.length_nil, List.replicate, List.cons_append, List.nil_append, List.set_cons_zero, List.set_cons_succ, List.getElem?_cons_zero, List.getElem?_cons_succ, Nat.add_sub_cancel, Nat.sub_self, Nat.reduceAdd, Nat.reduceSub, Int.reduceAdd, Int.reduceNeg, decide_true, decide_false, Bool.false_xor, Bool.true_xor, Bool.not_true, Bool.not_false]
    exact r
  | _ => cases hc
structure MS where
  left : Int
  slots : List Int
  body : Bd
  pile : List (List Int × Bd)
  said : List Int
  deep : Int
inductive Out where
  | still | fault (t : Nat) | fin (v : Int)
def Out.d : Out → D
  | .still => .tup [.tag 25]
  | .fault t => .tup [.tag 12, .tag t]
  | .fin v => .tup [.tag 6, .int v]
def resD (ms : MS) (o : Out) : D := .tup [.tup (ms.said.map .int), o.d, .int ms.deep]
def bodyAt (ps : List (Int × Bd)) (v : Int) : Bd := ((ps.map (·.2)).getD v.toNat (.end_ (.num 0)))
def pushM (ms : MS) : MS := match ms.body with
  | .with_ _ _ b => { ms with pile := ms.pile ++ [(ms.slots, b)], deep := if (ms.pile.length + 1 : Int) > ms.deep then (ms.pile.length + 1 : Int) else ms.deep }
  | _ => ms
/-- a step: on, or out -/
def stepM (ps : List (Int × Bd)) (ms : MS) : MS × Option Out := match isCal ms.body with
  | true => (match called ps ms.body ms.slots with
    | .inl t => (ms, some (.fault t))
    | .inr (v, xs) => if ms.left - 1 < 0 then ({ pushM ms with left := ms.left - 1 }, some .still) else ({ pushM ms with left := ms.left - 1, slots := xs, body := bodyAt ps v }, none))
  | false => (match ms.body with
    | .end_ e => (match ev e ms.slots with
      | none => (ms, some (.fault 3))
      | some v => (match ms.pile.getLast? with
        | none => (ms, some (.fin v))
        | some (sl, b) => ({ ms with pile := ms.pile.dropLast, slots := sl ++ [v], body := b }, none)))
    | .say e b => (match ev e ms.slots with
      | none => (ms, some (.fault 3))
      | some v => ({ ms with said := ms.said ++ [v], body := b }, none))
    | .if_ e a b => (match ev e ms.slots with
      | none => (ms, some (.fault 3))
      | some v => ({ ms with body := if v ≠ 0 then a else b }, none))
    | _ => (ms, some .still))
def outM (ps : List (Int × Bd)) : Nat → MS → D
  | 0, _ => .non
  | k + 1, ms => match stepM ps ms with
    | (ms', some o) => resD ms' o
    | (ms', none) => outM ps k ms'
def phi (ms : MS) : Nat := (ms.left.toNat) * 31 + ms.body.parts + (ms.pile.map fun p => p.2.parts).sum
structure MSOk (ps : List (Int × Bd)) (ms : MS) : Prop where
  left : 0 ≤ ms.left
  vs : VsOk ms.slots
  body : ∃ wi, ms.body.ok (ps.map (·.1)) ms.slots.length wi
  pile : ∀ p ∈ ms.pile, VsOk p.1 ∧ ∃ wi, p.2.ok (ps.map (·.1)) (p.1.length + 1 : Nat) wi
  big : ms.said.length + ms.pile.length + phi ms ≤ 200000
theorem parts_pos (b : Bd) : 1 ≤ b.parts := by cases b <;> simp only [Bd.parts] <;> omega
theorem called_inr {ps : List (Int × Bd)} {b : Bd} {vs xs : List Int} {v : Int} {wi : Nat} (hv : VsOk vs) (hp : PrOk ps) (hb : b.ok (ps.map (·.1)) vs.length wi) (hc : isCal b = true) (h : called ps b vs = .inr (v, xs)) :
    0 ≤ v ∧ v < ps.length ∧ VsOk xs ∧ callee b vs = some v ∧ evs (argsOf b) vs = some xs ∧ (bodyAt ps v).ok (ps.map (·.1)) xs.length 0 ∧ (bodyAt ps v).parts ≤ 30 ∧ atI (ps.map fun p => D.tup [.int p.1, p.2.d]) v = some (.tup [.int xs.length, (bodyAt ps v).d]) := by
  have has : ∀ a ∈ argsOf b, a.ok vs.length 3 := by
    cases b with
    | turn q as => exact hb.2.2.2.2.2
    | with_ q as b => exact hb.2.2.2.1.2.2
    | through e as => exact hb.2.2.2.2
    | _ => cases hc
  have hcv : ∀ v, callee b vs = some v → 0 ≤ v := fun v e => by
    cases b with
    | turn q as => cases e; exact hb.2.2.2.1
    | with_ q as b => cases e; exact hb.2.2.2.1.1
    | through e' as => exact (ev_ok hv e' hb.2.2.2.1 e).1
    | _ => cases hc
  unfold called at h
  split at h
  · rename_i v' xs' e1 e2
    split at h
    · cases h
    · rename_i t
      split at h
      · cases h
      · rename_i u
        cases h
        have h0 := hcv _ e1
        obtain ⟨c, bd, e3, e4, e5⟩ := getPr h0 (show v < ps.length by omega)
        have e6 : bodyAt ps v = bd := by unfold bodyAt; rw [List.getD_eq_getElem?_getD, List.getElem?_map, e3] <;> rfl
        have e7 : c = xs.length := by rw [e5] at u; simpa using u
        obtain ⟨o1, o2, o3, o4⟩ := hp.ok _ (List.mem_of_getElem? e3)
        subst e7
        exact ⟨h0, by omega, evs_ok hv has e2, e1, e2, by rw [e6]; exact o3, by rw [e6]; exact o4, by rw [e6]; exact e4⟩
  · cases h
theorem sum_app {l : List (List Int × Bd)} {x : List Int × Bd} : ((l ++ [x]).map fun p => p.2.parts).sum = (l.map fun p => p.2.parts).sum + x.2.parts := by simp
theorem step_ok {ps : List (Int × Bd)} {ms ms' : MS} (hp : PrOk ps) (h : MSOk ps ms) (e : stepM ps ms = (ms', none)) : MSOk ps ms' ∧ phi ms' < phi ms := by
  obtain ⟨left, slots, body, pile, said, deep⟩ := ms
  obtain ⟨hl, hv, ⟨wi, hb⟩, hpl, hbig⟩ := h
  simp only at hl hv hb hpl hbig
  unfold phi at hbig
  simp only at hbig
  have pp := parts_pos body
  unfold stepM at e
  simp only at e
  split at e
  · rename_i hc
    split at e
    · cases e
    · rename_i v xs ec
      obtain ⟨c0, c1, c2, c3, c4, c5, c6, c7⟩ := called_inr hv hp hb hc ec
      split at e
      · cases e
      · rename_i hlt
        cases e
        cases body with
        | with_ q as b =>
          obtain ⟨b1, b2, b3, b4, b5⟩ := hb
          simp only [Bd.parts] at hbig
          refine ⟨⟨by show 0 ≤ left - 1; omega, c2, ⟨0, c5⟩, fun p hm => ?_, ?_⟩, ?_⟩
          · rcases List.mem_append.mp (show p ∈ pile ++ [(slots, b)] from hm) with q | q
            · exact hpl p q
            · rw [List.mem_singleton.mp q]; exact ⟨hv, _, by rw [Int.natCast_add]; exact b5⟩
          · unfold phi pushM
            simp only [sum_app, List.length_append, List.length_cons, List.length_nil]
            omega
          · unfold phi pushM
            simp only [sum_app, Bd.parts]
            omega
        | turn q as =>
          refine ⟨⟨by show 0 ≤ left - 1; omega, c2, ⟨0, c5⟩, hpl, ?_⟩, ?_⟩
          · unfold phi pushM; simp only; omega
          · unfold phi pushM; simp only; omega
        | through q as =>
          refine ⟨⟨by show 0 ≤ left - 1; omega, c2, ⟨0, c5⟩, hpl, ?_⟩, ?_⟩
          · unfold phi pushM; simp only; omega
          · unfold phi pushM; simp only; omega
        | _ => cases hc
  · rename_i hc
    cases body with
    | end_ e' =>
      simp only at e
      split at e
      · cases e
      · rename_i v ev
        split at e
        · cases e
        · rename_i sl b eg
          cases e
          have hpe : pile = pile.dropLast ++ [(sl, b)] := by
            have hne : pile ≠ [] := fun z => by rw [z] at eg; cases eg
            have := List.dropLast_concat_getLast hne
            rw [List.getLast?_eq_some_getLast hne] at eg
            have eg2 := Option.some.inj eg
            rw [eg2] at this
            exact this.symm
          obtain ⟨q1, wi2, q2⟩ := hpl (sl, b) (by rw [hpe]; simp)
          have hsum : (pile.map fun p => p.2.parts).sum = (pile.dropLast.map fun p => p.2.parts).sum + b.parts := by
            conv => lhs; rw [hpe]
            rw [sum_app]
          have hlen : pile.length = pile.dropLast.length + 1 := by
            have := congrArg List.length hpe
            rw [List.length_append] at this
            exact this
          refine ⟨⟨hl, fun x hx => ?_, ⟨wi2, by rw [List.length_append]; exact q2⟩, fun p hm => hpl p ((List.dropLast_sublist _).subset hm), ?_⟩, ?_⟩
          · rcases List.mem_append.mp hx with q | q
            · exact q1 x q
            · rw [List.mem_singleton.mp q]; exact ev_ok hv e' hb.2.2 ev
          · unfold phi; simp only [Bd.parts] at hbig ⊢; omega
          · unfold phi; simp only [Bd.parts]; omega
    | say e' b =>
      simp only at e
      split at e
      · cases e
      · rename_i v ev
        cases e
        simp only [Bd.parts] at hbig
        refine ⟨⟨hl, hv, ⟨_, hb.2.2.2⟩, hpl, ?_⟩, ?_⟩
        · unfold phi; simp only [List.length_append, List.length_cons, List.length_nil]; omega
        · unfold phi; simp only [Bd.parts]; omega
    | if_ e' a b =>
      simp only at e
      split at e
      · cases e
      · rename_i v ev
        cases e
        simp only [Bd.parts] at hbig
        have pa := parts_pos a
        have pb := parts_pos b
        by_cases t : v ≠ 0
        · simp only [if_pos t]
          refine ⟨⟨hl, hv, ⟨_, hb.2.2.2.1⟩, hpl, ?_⟩, ?_⟩
          · unfold phi; simp only; omega
          · unfold phi; simp only [Bd.parts]; omega
        · simp only [if_neg t]
          refine ⟨⟨hl, hv, ⟨_, hb.2.2.2.2⟩, hpl, ?_⟩, ?_⟩
          · unfold phi; simp only; omega
          · unfold phi; simp only [Bd.parts]; omega
    | _ => cases hc
end
end PI

namespace PI
open PySem L2
def c64w : S := match c64.code with
  | .cons _ (.cons _ (.cons _ (.cons _ (.cons _ (.cons _ (.cons w _)))))) => w
  | _ => .never
def c64c : E := match c64w with
  | .whl c _ => c
  | _ => .nop
def c64b : Ss := match c64w with
  | .whl _ b => b
  | _ => .nil
def c64p : Ss := match c64.code with
  | .cons _ (.cons _ (.cons _ (.cons _ (.cons _ (.cons _ (.cons _ p)))))) => p
  | _ => .nil
def pileD (l : List (List Int × Bd)) : List D := l.map fun p => .tup [.lst (p.1.map .int), p.2.d]
theorem pileD_app {l : List (List Int × Bd)} {x : List Int × Bd} : pileD (l ++ [x]) = pileD l ++ [.tup [.lst (x.1.map .int), x.2.d]] := by simp [pileD]
/-- the law's frame stands for ms -/
structure LR (ps : List (Int × Bd)) (s0 s : Store) (w p : Nat) (ms : MS) (env : Env) : Prop where
  env : ∃ x1 x2 x3 x10 x11 x12, env = [some (PrD ps), x1, x2, x3, some (.cell w), some (.cell p), some (.int ms.deep), some (.int ms.left), some (.lst (ms.slots.map .int)), some ms.body.d, x10, x11, x12]
  hw : s.f w = .lst (ms.said.map .int)
  hp : s.f p = .lst (pileD ms.pile)
  hwp : w ≠ p
  nw : s0.n ≤ w
  np : s0.n ≤ p
  chg : Chg (fun _ => False) s0 s
section
variable {tb : Tab} {W : Nat}
theorem max2 {T : List Str} {c : Bool} {i j : Int} {s : Store} : bltV T .max2 c [.int i, .int j] s = .ok (.int (if j > i then j else i)) s := rfl
theorem eq_pile {T : List Str} {neg : Bool} {s : Store} {l : List (List Int × Bd)} {p : Nat} (h : s.f p = .lst (pileD l)) (hd : datL T.length (pileD l) = true) : eqV' T neg (.cell p) (.lst []) s = .ok (.bl (xor neg l.isEmpty)) s := by
  have e : deref s (.cell p) = .lst (pileD l) := by unfold deref; simp only [h]
  unfold eqV'
  simp only [e, qdr_list, datD, hd, datL, depD, depL]
  cases l with
  | nil => simp [pileD, eqvD, eqvL]
  | cons a as => simp [pileD, eqvD, eqvL]
theorem isi_tag {n : Nat} {s : Store} : isiV [2] (.tag n) s = .ok (.bl true) s := rfl
theorem isi_tup {xs : List D} {s : Store} : isiV [2] (.tup xs) s = .ok (.bl false) s := rfl
theorem bd_dat {T : Nat} (hT : 67 ≤ T) {cs : List Int} : ∀ (b : Bd) {sl : Int} {wi : Nat}, b.ok cs sl wi → datD T b.d = true
  | .end_ e, _, _, h => by simp only [Bd.d, datD, datL, e.dat hT h.2.2]; simp; omega
  | .say e b, _, _, h => by simp only [Bd.d, datD, datL, e.dat hT h.2.2.1, bd_dat hT b h.2.2.2]; simp; omega
  | .if_ e a b, _, _, h => by simp only [Bd.d, datD, datL, e.dat hT h.2.2.1, bd_dat hT a h.2.2.2.1, bd_dat hT b h.2.2.2.2]; simp; omega
  | .turn n as, _, _, h => by simp only [Bd.d, datD, datL, datL_map hT h.2.2.2.2.2]; simp; omega
  | .through e as, _, _, h => by simp only [Bd.d, datD, datL, e.dat hT h.2.2.2.1, datL_map hT h.2.2.2.2]; simp; omega
  | .with_ n as b, _, _, h => by simp only [Bd.d, datD, datL, datL_map hT h.2.2.2.1.2.2, bd_dat hT b h.2.2.2.2]; simp; omega
theorem ints_dat {T : Nat} : ∀ {xs : List Int}, datL T (xs.map .int) = true
  | [] => rfl
  | x :: xs => by simp only [List.map_cons, datL, datD, ints_dat, Bool.and_self]
theorem pile_dat {T : Nat} (hT : 67 ≤ T) {cs : List Int} : ∀ {l : List (List Int × Bd)}, (∀ p ∈ l, VsOk p.1 ∧ ∃ wi, p.2.ok cs (p.1.length + 1 : Nat) wi) → datL T (pileD l) = true
  | [], _ => rfl
  | p :: l, h => by
    obtain ⟨_, wi, hb⟩ := h p List.mem_cons_self
    have ih := pile_dat hT (l := l) fun q hq => h q (List.mem_cons_of_mem _ hq)
    simp only [pileD, List.map_cons, datL, datD, ints_dat, bd_dat hT p.2 hb, Bool.and_self, Bool.true_and]
    exact ih
theorem lawLoop (h : LibL tb) {ps : List (Int × Bd)} (hp : PrOk ps) {m : Nat} (hm : 14 ≤ m) {s0 : Store} {w p : Nat} : ∀ (k : Nat) (ms : MS) (env : Env) (s : Store), LR ps s0 s w p ms env → MSOk ps ms → phi ms < k →
    wp (whlL (evalE (GG tb W m) c64c) (evalSs (GG tb W m) c64b) k env s) (wpK (seqK (GG tb W m) c64p) (wpK finK fun d s' => d = outM ps k ms ∧ Chg (fun _ => False) s0 s')) := by
  intro k
  induction k with
  | zero => intro ms env s _ _ h; omega
  | succ k ih =>
    intro ms env s R O hk
    have hT := h.tg
    have hF := h.toLibF
    have tg : ∀ i, i < 67 → i < tb.tg.length := fun i hi => by omega
    obtain ⟨⟨x1, x2, x3, x10, x11, x12, rfl⟩, rw_, rp, rwp, rnw, rnp, rch⟩ := R
    have hph : 1 ≤ phi ms := by have := parts_pos ms.body; unfold phi; omega
    have O0 := O
    obtain ⟨left, slots, body, pile, said, deep⟩ := ms
    obtain ⟨hl, hv, ⟨wi, hb⟩, hpl, hbig⟩ := O
    simp only at hl hv hb hpl hbig rw_ rp
    unfold phi at hbig
    simp only at hbig
    have hsl : (said.map D.int).length < LIM := by rw [List.length_map]; unfold LIM; omega
    have hpL : (pileD pile).length < LIM := by unfold pileD; rw [List.length_map]; unfold LIM; omega
    have pd := pile_dat (T := tb.tg.length) hT hpl
    have ch' : ∀ {c : Cell} {k : Nat}, s0.n ≤ k → Chg (fun _ => False) s0 (s.set k c) := fun hk => rch.setNew hk
    cases body with
    | say e b =>
      have r := lawNumber (W := W) hF hv e 3 (m + 1) s hb.2.2.1 (by omega)
      cases q : ev e slots with
      | none =>
        rw [q] at r
        simp [wh_succ, whK1_app, whT_app, c64c, c64b, c64w, c64p, c64, Bd.d, hl, in_tup (T := tb.tg), flatD, eqvD, r, oD_none, nonN, rw_, whK2_rt, evA, startE, List.map_cons, List.map_nil, List.length_cons, List.length_nil, List.replicate, List.cons_append, List.nil_append, List.set_cons_zero, List.set_cons_succ, List.getElem?_cons_zero, List.getElem?_cons_succ, Nat.add_sub_cancel, Nat.sub_self, Nat.reduceAdd, Nat.reduceSub, Int.reduceAdd, Int.reduceNeg, decide_true, decide_false, Bool.false_xor, Bool.true_xor, Bool.not_true, Bool.not_false]
        exact ⟨by simp [outM, stepM, isCal, q, resD, Out.d], rch⟩
      | some v =>
        rw [q] at r
        have st : stepM ps ⟨left, slots, .say e b, pile, said, deep⟩ = (⟨left, slots, b, pile, said ++ [v], deep⟩, none) := by simp [stepM, isCal, q]
        obtain ⟨O', hph'⟩ := step_ok hp O0 st
        have e1 : outM ps (k + 1) ⟨left, slots, .say e b, pile, said, deep⟩ = outM ps k ⟨left, slots, b, pile, said ++ [v], deep⟩ := by simp only [outM, st]
        simp [wh_succ, whK1_app, whT_app, c64c, c64b, c64w, c64p, c64, Bd.d, hl, in_tup (T := tb.tg), flatD, eqvD, r, oD_some, nonI, rw_, appC_lst hsl, eq_tt (tg 7 (by omega)) (tg 6 (by omega)), eq_tt (tg 7 (by omega)) (tg 7 (by omega)), whK2_nx, evA, startE, List.map_cons, List.map_nil, List.length_cons, List.length_nil, List.replicate, List.cons_append, List.nil_append, List.set_cons_zero, List.set_cons_succ, List.getElem?_cons_zero, List.getElem?_cons_succ, Nat.add_sub_cancel, Nat.sub_self, Nat.reduceAdd, Nat.reduceSub, Int.reduceAdd, Int.reduceNeg, decide_true, decide_false, Bool.false_xor, Bool.true_xor, Bool.not_true, Bool.not_false]
        rw [e1]
        exact ih _ _ _ ⟨⟨_, _, _, _, _, _, rfl⟩, by rw [set_same]; simp, by rw [set_f, if_neg (Ne.symm rwp)]; exact rp, rwp, rnw, rnp, ch' rnw⟩ O' (by omega)
    | if_ e a b =>
      have r := lawNumber (W := W) hF hv e 3 (m + 1) s hb.2.2.1 (by omega)
      cases q : ev e slots with
      | none =>
        rw [q] at r
        simp [wh_succ, whK1_app, whT_app, c64c, c64b, c64w, c64p, c64, Bd.d, hl, in_tup (T := tb.tg), flatD, eqvD, r, oD_none, nonN, rw_, whK2_rt, evA, startE, List.map_cons, List.map_nil, List.length_cons, List.length_nil, List.replicate, List.cons_append, List.nil_append, List.set_cons_zero, List.set_cons_succ, List.getElem?_cons_zero, List.getElem?_cons_succ, Nat.add_sub_cancel, Nat.sub_self, Nat.reduceAdd, Nat.reduceSub, Int.reduceAdd, Int.reduceNeg, decide_true, decide_false, Bool.false_xor, Bool.true_xor, Bool.not_true, Bool.not_false]
        exact ⟨by simp [outM, stepM, isCal, q, resD, Out.d], rch⟩
      | some v =>
        rw [q] at r
        have st : stepM ps ⟨left, slots, .if_ e a b, pile, said, deep⟩ = (⟨left, slots, if v ≠ 0 then a else b, pile, said, deep⟩, none) := by simp [stepM, isCal, q]
        obtain ⟨O', hph'⟩ := step_ok hp O0 st
        have e1 : outM ps (k + 1) ⟨left, slots, .if_ e a b, pile, said, deep⟩ = outM ps k ⟨left, slots, if v ≠ 0 then a else b, pile, said, deep⟩ := by simp only [outM, st]
        rw [e1]
        by_cases t : v = 0
        · simp [wh_succ, whK1_app, whT_app, c64c, c64b, c64w, c64p, c64, Bd.d, hl, in_tup (T := tb.tg), flatD, eqvD, r, oD_some, nonI, t, rw_, eq_tt (tg 8 (by omega)) (tg 6 (by omega)), eq_tt (tg 8 (by omega)) (tg 7 (by omega)), b2z, whK2_nx, evA, startE, List.map_cons, List.map_nil, List.length_cons, List.length_nil, List.replicate, List.cons_append, List.nil_append, List.set_cons_zero, List.set_cons_succ, List.getElem?_cons_zero, List.getElem?_cons_succ, Nat.add_sub_cancel, Nat.sub_self, Nat.reduceAdd, Nat.reduceSub, Int.reduceAdd, Int.reduceNeg, decide_true, decide_false, Bool.false_xor, Bool.true_xor, Bool.not_true, Bool.not_false]
          simp [t] at O' hph'
          exact ih _ _ _ ⟨⟨_, _, _, _, _, _, rfl⟩, rw_, rp, rwp, rnw, rnp, rch⟩ O' (by omega)
        · simp [wh_succ, whK1_app, whT_app, c64c, c64b, c64w, c64p, c64, Bd.d, hl, in_tup (T := tb.tg), flatD, eqvD, r, oD_some, nonI, t, rw_, eq_tt (tg 8 (by omega)) (tg 6 (by omega)), eq_tt (tg 8 (by omega)) (tg 7 (by omega)), b2z, whK2_nx, evA, startE, List.map_cons, List.map_nil, List.length_cons, List.length_nil, List.replicate, List.cons_append, List.nil_append, List.set_cons_zero, List.set_cons_succ, List.getElem?_cons_zero, List.getElem?_cons_succ, Nat.add_sub_cancel, Nat.sub_self, Nat.reduceAdd, Nat.reduceSub, Int.reduceAdd, Int.reduceNeg, decide_true, decide_false, Bool.false_xor, Bool.true_xor, Bool.not_true, Bool.not_false]
          simp [t] at O' hph'
          exact ih _ _ _ ⟨⟨_, _, _, _, _, _, rfl⟩, rw_, rp, rwp, rnw, rnp, rch⟩ O' (by omega)
    | end_ e =>
      have r := lawNumber (W := W) hF hv e 3 (m + 1) s hb.2.2 (by omega)
      cases q : ev e slots with
      | none =>
        rw [q] at r
        simp [wh_succ, whK1_app, whT_app, c64c, c64b, c64w, c64p, c64, Bd.d, hl, in_tup (T := tb.tg), flatD, eqvD, r, oD_none, nonN, rw_, whK2_rt, evA, startE, List.map_cons, List.map_nil, List.length_cons, List.length_nil, List.replicate, List.cons_append, List.nil_append, List.set_cons_zero, List.set_cons_succ, List.getElem?_cons_zero, List.getElem?_cons_succ, Nat.add_sub_cancel, Nat.sub_self, Nat.reduceAdd, Nat.reduceSub, Int.reduceAdd, Int.reduceNeg, decide_true, decide_false, Bool.false_xor, Bool.true_xor, Bool.not_true, Bool.not_false]
        exact ⟨by simp [outM, stepM, isCal, q, resD, Out.d], rch⟩
      | some v =>
        rw [q] at r
        have ep : eqV' tb.tg false (.cell p) (.lst []) s = _ := eq_pile rp pd
        cases hg : pile.getLast? with
        | none =>
          have hp0 : pile = [] := by simpa using hg
          subst hp0
          simp [wh_succ, whK1_app, whT_app, c64c, c64b, c64w, c64p, c64, Bd.d, hl, in_tup (T := tb.tg), flatD, eqvD, r, oD_some, nonI, rw_, ep, eq_tt (tg 6 (by omega)) (tg 6 (by omega)), whK2_rt, evA, startE, List.map_cons, List.map_nil, List.length_cons, List.length_nil, List.replicate, List.cons_append, List.nil_append, List.set_cons_zero, List.set_cons_succ, List.getElem?_cons_zero, List.getElem?_cons_succ, Nat.add_sub_cancel, Nat.sub_self, Nat.reduceAdd, Nat.reduceSub, Int.reduceAdd, Int.reduceNeg, decide_true, decide_false, Bool.false_xor, Bool.true_xor, Bool.not_true, Bool.not_false]
          exact ⟨by simp [outM, stepM, isCal, q, resD, Out.d], rch⟩
        | some pb =>
          obtain ⟨sl, b⟩ := pb
          have hpe : pile = pile.dropLast ++ [(sl, b)] := by
            have hne : pile ≠ [] := fun z => by rw [z] at hg; cases hg
            have := List.dropLast_concat_getLast hne
            rw [List.getLast?_eq_some_getLast hne] at hg
            rw [Option.some.inj hg] at this
            exact this.symm
          have st : stepM ps ⟨left, slots, .end_ e, pile, said, deep⟩ = (⟨left, sl ++ [v], b, pile.dropLast, said, deep⟩, none) := by simp [stepM, isCal, q, hg]
          obtain ⟨O', hph'⟩ := step_ok hp O0 st
          have e1 : outM ps (k + 1) ⟨left, slots, .end_ e, pile, said, deep⟩ = outM ps k ⟨left, sl ++ [v], b, pile.dropLast, said, deep⟩ := by simp only [outM, st]
          have rp2 : s.f p = .lst (pileD pile.dropLast ++ [.tup [.lst (sl.map .int), b.d]]) := by rw [rp]; conv => lhs; rw [hpe, pileD_app]
          have hemp : pile.isEmpty = false := by rw [hpe]; simp
          have hadd : (sl.map D.int).length + [D.int v].length ≤ LIM := by
            have := (hpl (sl, b) (by rw [hpe]; simp)).2
            obtain ⟨wi2, hb2⟩ := this
            have h8 : ((sl.length + 1 : Nat) : Int) ≤ 8 := by
              cases b with
              | with_ q as b => have := hb2.2.1; simp only at this ⊢; omega
              | _ => exact hb2.2.1
            simp [LIM]; omega
          simp [wh_succ, whK1_app, whT_app, c64c, c64b, c64w, c64p, c64, Bd.d, hl, in_tup (T := tb.tg), flatD, eqvD, r, oD_some, nonI, rw_, ep, hemp, rp2, popC_lst, pop_c, kAsgT_tup, eq_tt (tg 6 (by omega)) (tg 6 (by omega)), add_ll hadd, whK2_nx, evA, startE, List.map_cons, List.map_nil, List.length_cons, List.length_nil, List.replicate, List.cons_append, List.nil_append, List.set_cons_zero, List.set_cons_succ, List.getElem?_cons_zero, List.getElem?_cons_succ, Nat.add_sub_cancel, Nat.sub_self, Nat.reduceAdd, Nat.reduceSub, Int.reduceAdd, Int.reduceNeg, decide_true, decide_false, Bool.false_xor, Bool.true_xor, Bool.not_true, Bool.not_false]
          rw [e1]
          exact ih _ _ _ ⟨⟨_, _, _, _, _, _, by rw [List.map_append]; rfl⟩, by rw [set_f, if_neg rwp]; exact rw_, by rw [set_same], rwp, rnw, rnp, ch' rnp⟩ O' (by omega)
    | turn q as =>
      have r := lawCalled (W := W) h (ps := ps) (b := .turn q as) (s := s) (n := m + 1) hv hb rfl (by omega)
      have rw2 : (s.set p (.lst (pileD pile ++ [.tup [.lst (slots.map .int), .non]]))).f w = .lst (said.map .int) := by rw [set_f, if_neg rwp]; exact rw_
      have hpl1 : (pileD pile).length = pile.length := by simp [pileD]
      cases hc : called ps (.turn q as) slots with
      | inl t =>
        rw [hc] at r
        simp only [Bd.d] at r
        simp [wh_succ, whK1_app, whT_app, c64c, c64b, c64w, c64p, c64, Bd.d, hl, in_tup (T := tb.tg), flatD, eqvD, r, calledD, isi_tag, rw_, whK2_rt, evA, startE, List.map_cons, List.map_nil, List.length_cons, List.length_nil, List.replicate, List.cons_append, List.nil_append, List.set_cons_zero, List.set_cons_succ, List.getElem?_cons_zero, List.getElem?_cons_succ, Nat.add_sub_cancel, Nat.sub_self, Nat.reduceAdd, Nat.reduceSub, Int.reduceAdd, Int.reduceNeg, decide_true, decide_false, Bool.false_xor, Bool.true_xor, Bool.not_true, Bool.not_false]
        exact ⟨by simp [outM, stepM, isCal, hc, resD, Out.d], rch⟩
      | inr vx =>
        obtain ⟨v, xs⟩ := vx
        rw [hc] at r
        simp only [Bd.d] at r
        obtain ⟨q0, q1, q2, q3, q4, q5, q6, q7⟩ := called_inr hv hp hb rfl hc
        have ix : ∀ s : Store, idxV tb.tg (PrD ps) (.int v) s = .ok (.tup [.int xs.length, (bodyAt ps v).d]) s := fun s => idx_lst q7
        by_cases hlt : left - 1 < 0
        · obtain ⟨k', rfl⟩ : ∃ k', k = k' + 1 := ⟨k - 1, by omega⟩
          have hlt2 : ¬ 1 ≤ left := by omega
          simp [wh_succ, whK1_app, whT_app, c64c, c64b, c64w, c64p, c64, Bd.d, hl, in_tup (T := tb.tg), flatD, eqvD, r, calledD, isi_tup, ix, hlt2, rw_, rw2, hpl1, eq_tt (tg 9 (by omega)) (tg 11 (by omega)), whK2_nx, whE_app, evA, startE, List.map_cons, List.map_nil, List.length_cons, List.length_nil, List.replicate, List.cons_append, List.nil_append, List.set_cons_zero, List.set_cons_succ, List.getElem?_cons_zero, List.getElem?_cons_succ, Nat.add_sub_cancel, Nat.sub_self, Nat.reduceAdd, Nat.reduceSub, Int.reduceAdd, Int.reduceNeg, decide_true, decide_false, Bool.false_xor, Bool.true_xor, Bool.not_true, Bool.not_false]
          exact ⟨by simp [outM, stepM, isCal, hc, hlt, pushM, resD, Out.d], rch⟩
        · have st : stepM ps ⟨left, slots, .turn q as, pile, said, deep⟩ = (⟨left - 1, xs, bodyAt ps v, pile, said, deep⟩, none) := by simp [stepM, isCal, hc, hlt, pushM]
          obtain ⟨O', hph'⟩ := step_ok hp O0 st
          have e1 : outM ps (k + 1) ⟨left, slots, .turn q as, pile, said, deep⟩ = outM ps k ⟨left - 1, xs, bodyAt ps v, pile, said, deep⟩ := by simp only [outM, st]
          simp [wh_succ, whK1_app, whT_app, c64c, c64b, c64w, c64p, c64, Bd.d, hl, in_tup (T := tb.tg), flatD, eqvD, r, calledD, isi_tup, ix, rw_, hpl1, eq_tt (tg 9 (by omega)) (tg 11 (by omega)), whK2_nx, evA, startE, List.map_cons, List.map_nil, List.length_cons, List.length_nil, List.replicate, List.cons_append, List.nil_append, List.set_cons_zero, List.set_cons_succ, List.getElem?_cons_zero, List.getElem?_cons_succ, Nat.add_sub_cancel, Nat.sub_self, Nat.reduceAdd, Nat.reduceSub, Int.reduceAdd, Int.reduceNeg, decide_true, decide_false, Bool.false_xor, Bool.true_xor, Bool.not_true, Bool.not_false]
          rw [e1]
          exact ih _ _ _ ⟨⟨_, _, _, _, _, _, rfl⟩, rw_, rp, rwp, rnw, rnp, rch⟩ O' (by omega)
    | through e as =>
      have r := lawCalled (W := W) h (ps := ps) (b := .through e as) (s := s) (n := m + 1) hv hb rfl (by omega)
      have rw2 : (s.set p (.lst (pileD pile ++ [.tup [.lst (slots.map .int), .non]]))).f w = .lst (said.map .int) := by rw [set_f, if_neg rwp]; exact rw_
      have hpl1 : (pileD pile).length = pile.length := by simp [pileD]
      cases hc : called ps (.through e as) slots with
      | inl t =>
        rw [hc] at r
        simp only [Bd.d] at r
        simp [wh_succ, whK1_app, whT_app, c64c, c64b, c64w, c64p, c64, Bd.d, hl, in_tup (T := tb.tg), flatD, eqvD, r, calledD, isi_tag, rw_, whK2_rt, evA, startE, List.map_cons, List.map_nil, List.length_cons, List.length_nil, List.replicate, List.cons_append, List.nil_append, List.set_cons_zero, List.set_cons_succ, List.getElem?_cons_zero, List.getElem?_cons_succ, Nat.add_sub_cancel, Nat.sub_self, Nat.reduceAdd, Nat.reduceSub, Int.reduceAdd, Int.reduceNeg, decide_true, decide_false, Bool.false_xor, Bool.true_xor, Bool.not_true, Bool.not_false]
        exact ⟨by simp [outM, stepM, isCal, hc, resD, Out.d], rch⟩
      | inr vx =>
        obtain ⟨v, xs⟩ := vx
        rw [hc] at r
        simp only [Bd.d] at r
        obtain ⟨q0, q1, q2, q3, q4, q5, q6, q7⟩ := called_inr hv hp hb rfl hc
        have ix : ∀ s : Store, idxV tb.tg (PrD ps) (.int v) s = .ok (.tup [.int xs.length, (bodyAt ps v).d]) s := fun s => idx_lst q7
        by_cases hlt : left - 1 < 0
        · obtain ⟨k', rfl⟩ : ∃ k', k = k' + 1 := ⟨k - 1, by omega⟩
          have hlt2 : ¬ 1 ≤ left := by omega
          simp [wh_succ, whK1_app, whT_app, c64c, c64b, c64w, c64p, c64, Bd.d, hl, in_tup (T := tb.tg), flatD, eqvD, r, calledD, isi_tup, ix, hlt2, rw_, rw2, hpl1, eq_tt (tg 10 (by omega)) (tg 11 (by omega)), whK2_nx, whE_app, evA, startE, List.map_cons, List.map_nil, List.length_cons, List.length_nil, List.replicate, List.cons_append, List.nil_append, List.set_cons_zero, List.set_cons_succ, List.getElem?_cons_zero, List.getElem?_cons_succ, Nat.add_sub_cancel, Nat.sub_self, Nat.reduceAdd, Nat.reduceSub, Int.reduceAdd, Int.reduceNeg, decide_true, decide_false, Bool.false_xor, Bool.true_xor, Bool.not_true, Bool.not_false]
          exact ⟨by simp [outM, stepM, isCal, hc, hlt, pushM, resD, Out.d], rch⟩
        · have st : stepM ps ⟨left, slots, .through e as, pile, said, deep⟩ = (⟨left - 1, xs, bodyAt ps v, pile, said, deep⟩, none) := by simp [stepM, isCal, hc, hlt, pushM]
          obtain ⟨O', hph'⟩ := step_ok hp O0 st
          have e1 : outM ps (k + 1) ⟨left, slots, .through e as, pile, said, deep⟩ = outM ps k ⟨left - 1, xs, bodyAt ps v, pile, said, deep⟩ := by simp only [outM, st]
          simp [wh_succ, whK1_app, whT_app, c64c, c64b, c64w, c64p, c64, Bd.d, hl, in_tup (T := tb.tg), flatD, eqvD, r, calledD, isi_tup, ix, rw_, hpl1, eq_tt (tg 10 (by omega)) (tg 11 (by omega)), whK2_nx, evA, startE, List.map_cons, List.map_nil, List.length_cons, List.length_nil, List.replicate, List.cons_append, List.nil_append, List.set_cons_zero, List.set_cons_succ, List.getElem?_cons_zero, List.getElem?_cons_succ, Nat.add_sub_cancel, Nat.sub_self, Nat.reduceAdd, Nat.reduceSub, Int.reduceAdd, Int.reduceNeg, decide_true, decide_false, Bool.false_xor, Bool.true_xor, Bool.not_true, Bool.not_false]
          rw [e1]
          exact ih _ _ _ ⟨⟨_, _, _, _, _, _, rfl⟩, rw_, rp, rwp, rnw, rnp, rch⟩ O' (by omega)
    | with_ q as b =>
      have r := lawCalled (W := W) h (ps := ps) (b := .with_ q as b) (s := s) (n := m + 1) hv hb rfl (by omega)
      have rw2 : (s.set p (.lst (pileD pile ++ [.tup [.lst (slots.map .int), b.d]]))).f w = .lst (said.map .int) := by rw [set_f, if_neg rwp]; exact rw_
      have hpl1 : (pileD pile).length = pile.length := by simp [pileD]
      cases hc : called ps (.with_ q as b) slots with
      | inl t =>
        rw [hc] at r
        simp only [Bd.d] at r
        simp [wh_succ, whK1_app, whT_app, c64c, c64b, c64w, c64p, c64, Bd.d, hl, in_tup (T := tb.tg), flatD, eqvD, r, calledD, isi_tag, rw_, whK2_rt, evA, startE, List.map_cons, List.map_nil, List.length_cons, List.length_nil, List.replicate, List.cons_append, List.nil_append, List.set_cons_zero, List.set_cons_succ, List.getElem?_cons_zero, List.getElem?_cons_succ, Nat.add_sub_cancel, Nat.sub_self, Nat.reduceAdd, Nat.reduceSub, Int.reduceAdd, Int.reduceNeg, decide_true, decide_false, Bool.false_xor, Bool.true_xor, Bool.not_true, Bool.not_false]
        exact ⟨by simp [outM, stepM, isCal, hc, resD, Out.d], rch⟩
      | inr vx =>
        obtain ⟨v, xs⟩ := vx
        rw [hc] at r
        simp only [Bd.d] at r
        obtain ⟨q0, q1, q2, q3, q4, q5, q6, q7⟩ := called_inr hv hp hb rfl hc
        have ix : ∀ s : Store, idxV tb.tg (PrD ps) (.int v) s = .ok (.tup [.int xs.length, (bodyAt ps v).d]) s := fun s => idx_lst q7
        by_cases hlt : left - 1 < 0
        · obtain ⟨k', rfl⟩ : ∃ k', k = k' + 1 := ⟨k - 1, by omega⟩
          have hlt2 : ¬ 1 ≤ left := by omega
          simp [wh_succ, whK1_app, whT_app, c64c, c64b, c64w, c64p, c64, Bd.d, hl, in_tup (T := tb.tg), flatD, eqvD, r, calledD, isi_tup, ix, hlt2, rw_, rw2, hpl1, rp, appC_lst hpL, max2, List.length_append, eq_tt (tg 11 (by omega)) (tg 11 (by omega)), whK2_nx, whE_app, evA, startE, List.map_cons, List.map_nil, List.length_cons, List.length_nil, List.replicate, List.cons_append, List.nil_append, List.set_cons_zero, List.set_cons_succ, List.getElem?_cons_zero, List.getElem?_cons_succ, Nat.add_sub_cancel, Nat.sub_self, Nat.reduceAdd, Nat.reduceSub, Int.reduceAdd, Int.reduceNeg, decide_true, decide_false, Bool.false_xor, Bool.true_xor, Bool.not_true, Bool.not_false]
          exact ⟨by simp [outM, stepM, isCal, hc, hlt, pushM, resD, Out.d], ch' rnp⟩
        · have st : stepM ps ⟨left, slots, .with_ q as b, pile, said, deep⟩ = (⟨left - 1, xs, bodyAt ps v, pile ++ [(slots, b)], said, (if (pile.length + 1 : Int) > deep then (pile.length + 1 : Int) else deep)⟩, none) := by simp [stepM, isCal, hc, hlt, pushM]
          obtain ⟨O', hph'⟩ := step_ok hp O0 st
          have e1 : outM ps (k + 1) ⟨left, slots, .with_ q as b, pile, said, deep⟩ = outM ps k ⟨left - 1, xs, bodyAt ps v, pile ++ [(slots, b)], said, (if (pile.length + 1 : Int) > deep then (pile.length + 1 : Int) else deep)⟩ := by simp only [outM, st]
          simp [wh_succ, whK1_app, whT_app, c64c, c64b, c64w, c64p, c64, Bd.d, hl, in_tup (T := tb.tg), flatD, eqvD, r, calledD, isi_tup, ix, rw_, hpl1, rp, appC_lst hpL, max2, List.length_append, eq_tt (tg 11 (by omega)) (tg 11 (by omega)), whK2_nx, evA, startE, List.map_cons, List.map_nil, List.length_cons, List.length_nil, List.replicate, List.cons_append, List.nil_append, List.set_cons_zero, List.set_cons_succ, List.getElem?_cons_zero, List.getElem?_cons_succ, Nat.add_sub_cancel, Nat.sub_self, Nat.reduceAdd, Nat.reduceSub, Int.reduceAdd, Int.reduceNeg, decide_true, decide_false, Bool.false_xor, Bool.true_xor, Bool.not_true, Bool.not_false]
          rw [e1]
          exact ih _ _ _ ⟨⟨_, _, _, _, _, _, rfl⟩, by rw [set_f, if_neg rwp]; exact rw_, by rw [set_same, pileD_app], rwp, rnw, rnp, ch' rnp⟩ O' (by omega)
/-- the machine from the first call -/
def runD (ps : List (Int × Bd)) (W : Nat) (num : Int) (args : List Int) (most : Int) : D :=
  if most - 1 < 0 then .tup [.tup [], .tup [.tag 25], .int 0] else outM ps W ⟨most - 1, args, bodyAt ps num, [], [], 0⟩
structure AskOk (ps : List (Int × Bd)) (num : Int) (args : List Int) (most : Int) : Prop where
  n0 : 0 ≤ num
  n1 : num < ps.length
  len : (ps.map (·.1)).getD num.toNat 0 = args.length
  vs : VsOk args
  m0 : 0 ≤ most
  m1 : most ≤ 5000
theorem ask_ms {ps : List (Int × Bd)} {num most : Int} {args : List Int} (hp : PrOk ps) (a : AskOk ps num args most) : ∃ b, bodyAt ps num = b ∧ atI (ps.map fun p => D.tup [.int p.1, p.2.d]) num = some (.tup [.int args.length, b.d]) ∧ b.ok (ps.map (·.1)) args.length 0 ∧ b.parts ≤ 30 ∧ args.length ≤ 3 := by
  obtain ⟨c, bd, e3, e4, e5⟩ := getPr a.n0 a.n1
  have e6 : bodyAt ps num = bd := by unfold bodyAt; rw [List.getD_eq_getElem?_getD, List.getElem?_map, e3] <;> rfl
  have e7 : c = args.length := by rw [← e5]; exact a.len
  obtain ⟨o1, o2, o3, o4⟩ := hp.ok _ (List.mem_of_getElem? e3)
  subst e7
  exact ⟨bd, e6, e4, o3, o4, by simp only at o2; omega⟩
theorem ask_ok {ps : List (Int × Bd)} {num most : Int} {args : List Int} (hp : PrOk ps) (a : AskOk ps num args most) (h : ¬ most - 1 < 0) : MSOk ps ⟨most - 1, args, bodyAt ps num, [], [], 0⟩ ∧ phi ⟨most - 1, args, bodyAt ps num, [], [], 0⟩ < 200000 := by
  obtain ⟨b, e1, e2, e3, e4, e5⟩ := ask_ms hp a
  have := a.m1
  rw [e1]
  refine ⟨⟨by show 0 ≤ most - 1; omega, a.vs, ⟨0, e3⟩, (fun _ h => by cases h), ?_⟩, ?_⟩
  · unfold phi; simp; omega
  · unfold phi; simp; omega
theorem lawRun (h : LibL tb) {ps : List (Int × Bd)} (hp : PrOk ps) {num most : Int} {args : List Int} (a : AskOk ps num args most) {n : Nat} {s : Store} (hn : 16 ≤ n) (hW : 200000 ≤ W) :
    wp (Run tb W n 64 [PrD ps, .int num, .lst (args.map .int), .int most] s) fun d s' => d = runD ps W num args most ∧ Chg (fun _ => False) s s' := by
  obtain ⟨m, rfl⟩ : ∃ m, n = m + 2 := ⟨n - 2, by omega⟩
  rw [run_at h.f64 rfl]
  obtain ⟨b, e1, e2, e3, e4, e5⟩ := ask_ms hp a
  have ix : ∀ s : Store, idxV tb.tg (PrD ps) (.int num) s = .ok (.tup [.int args.length, b.d]) s := fun s => idx_lst e2
  have hm0 := a.m0
  have key : ∀ s' : Store, s'.f s.n = .lst [] → s'.f (s.n + 1) = .lst [] → Chg (fun _ => False) s s' → wp (whlL (evalE (GG tb W m) c64c) (evalSs (GG tb W m) c64b) W [some (PrD ps), some (.int num), some (.lst (args.map .int)), some (.int most), some (.cell s.n), some (.cell (s.n + 1)), some (.int 0), some (.int (most - 1)), some (.lst (args.map .int)), some b.d, none, none, none] s') (wpK (seqK (GG tb W m) c64p) (wpK finK fun d s' => d = runD ps W num args most ∧ Chg (fun _ => False) s s')) := fun s' f1 f2 ch => by
    by_cases t : most - 1 < 0
    · have hm1 : most = 0 := by omega
      subst hm1
      obtain ⟨W', rfl⟩ : ∃ W', W = W' + 1 := ⟨W - 1, by omega⟩
      simp [wh_succ, whK1_app, whE_app, c64c, c64w, c64p, c64, f1, evA, startE, List.map_cons, List.map_nil, List.length_cons, List.length_nil, List.replicate, List.cons_append, List.nil_append, List.set_cons_zero, List.set_cons_succ, List.getElem?_cons_zero, List.getElem?_cons_succ, Nat.add_sub_cancel, Nat.sub_self, Nat.reduceAdd, Nat.reduceSub, Int.reduceAdd, Int.reduceNeg, decide_true, decide_false, Bool.false_xor, Bool.true_xor, Bool.not_true, Bool.not_false]
      exact ⟨by simp [runD], ch⟩
    · obtain ⟨O, hph⟩ := ask_ok hp a t
      have q := lawLoop (W := W) h hp (m := m) (by omega) (s0 := s) (w := s.n) (p := s.n + 1) W ⟨most - 1, args, bodyAt ps num, [], [], 0⟩ _ s' ⟨⟨some (.int num), some (.lst (args.map .int)), some (.int most), none, none, none, rfl⟩, f1, f2, by omega, by omega, by omega, ch⟩ O (by omega)
      rw [e1] at q
      have e : runD ps W num args most = outM ps W ⟨most - 1, args, b, [], [], 0⟩ := by unfold runD; rw [if_neg t, e1]
      rw [e]
      exact q
  simp [c64, newLt, list_lst, ix, s_whl, new_f, evA, startE, List.map_cons, List.map_nil, List.length_cons, List.length_nil, List.replicate, List.cons_append, List.nil_append, List.set_cons_zero, List.set_cons_succ, List.getElem?_cons_zero, List.getElem?_cons_succ, Nat.add_sub_cancel, Nat.sub_self, Nat.reduceAdd, Nat.reduceSub, Int.reduceAdd, Int.reduceNeg, decide_true, decide_false, Bool.false_xor, Bool.true_xor, Bool.not_true, Bool.not_false]
  refine key ((s.new (.lst [])).new (.lst [])) ?_ ?_ (Chg.new.trans Chg.new)
  · simp [new_f, evA, startE, List.map_cons, List.map_nil, List.length_cons, List.length_nil, List.replicate, List.cons_append, List.nil_append, List.set_cons_zero, List.set_cons_succ, List.getElem?_cons_zero, List.getElem?_cons_succ, Nat.add_sub_cancel, Nat.sub_self, Nat.reduceAdd, Nat.reduceSub, Int.reduceAdd, Int.reduceNeg, decide_true, decide_false, Bool.false_xor, Bool.true_xor, Bool.not_true, Bool.not_false]
  · simp [new_f, evA, startE, List.map_cons, List.map_nil, List.length_cons, List.length_nil, List.replicate, List.cons_append, List.nil_append, List.set_cons_zero, List.set_cons_succ, List.getElem?_cons_zero, List.getElem?_cons_succ, Nat.add_sub_cancel, Nat.sub_self, Nat.reduceAdd, Nat.reduceSub, Int.reduceAdd, Int.reduceNeg, decide_true, decide_false, Bool.false_xor, Bool.true_xor, Bool.not_true, Bool.not_false]
end
end PI

namespace PI
open PySem L2
def talkC (w : Nat) (left waits deep : Int) : Cell := .ins 0 [(0, .cell w), (1, .int left), (2, .int waits), (3, .int deep)]
def outD : Option Out → D
  | none => .non
  | some o => o.d
def walkC (ps : List (Int × Bd)) (t p : Nat) (slots : List Int) (b : D) (o : D) : Cell := .ins 1 [(5, PrD ps), (6, .lst (ps.map fun q => .int q.1)), (7, .cell t), (8, .cell p), (9, .lst (slots.map .int)), (10, b), (11, o)]
structure LibT (tb : Tab) : Prop where
  i0 : tb.ini 0 = some 22
  m01 : tb.mt 0 1 = some 23
  m02 : tb.mt 0 2 = some 24
  m03 : tb.mt 0 3 = some 25
  f22 : tb.fns 22 = some c22
  f23 : tb.fns 23 = some c23
  f24 : tb.fns 24 = some c24
  f25 : tb.fns 25 = some c25
structure LibW (tb : Tab) : Prop extends LibN tb, LibT tb where
  g9 : tb.gl 9 = some (.int 5000)
  g10 : tb.gl 10 = some (.tup [.tag 12, .tag 3])
  i1 : tb.ini 1 = some 34
  m15 : tb.mt 1 5 = some 35
  m16 : tb.mt 1 6 = some 36
  m17 : tb.mt 1 7 = some 37
  m18 : tb.mt 1 8 = some 38
  f17 : tb.fns 17 = some c17
  f18 : tb.fns 18 = some c18
  f19 : tb.fns 19 = some c19
  f20 : tb.fns 20 = some c20
  f21 : tb.fns 21 = some c21
  f34 : tb.fns 34 = some c34
  f35 : tb.fns 35 = some c35
  f36 : tb.fns 36 = some c36
  f37 : tb.fns 37 = some c37
  f38 : tb.fns 38 = some c38
  f39 : tb.fns 39 = some c39
theorem LibW.e {tb : Tab} (h : LibW tb) : LibE tb := ⟨h.tg, h.g0, h.f17, h.f18, h.f19⟩
section
variable {tb : Tab} {W : Nat}
theorem begin_ (h : LibT tb) {n t w : Nat} {left waits deep : Int} {s : Store} (ht : s.f t = talkC w left waits deep) (hn : 2 ≤ n) : Run tb W n 23 [.cell t] s = .ok (.bl (decide (1 ≤ left))) (s.set t (talkC w (left - 1) waits deep)) := by
  obtain ⟨m, rfl⟩ : ∃ m, n = m + 2 := ⟨n - 2, by omega⟩
  rw [run_at h.f23 rfl]
  unfold talkC at *
  simp [c23, ht, lookN, putN, fldS_ins, evA, startE, List.map_cons, List.map_nil, List.length_cons, List.length_nil, List.replicate, List.cons_append, List.nil_append, List.set_cons_zero, List.set_cons_succ, List.getElem?_cons_zero, List.getElem?_cons_succ, Nat.add_sub_cancel, Nat.sub_self, Nat.reduceAdd, Nat.reduceSub, Int.reduceAdd, Int.reduceNeg, decide_true, decide_false, Bool.false_xor, Bool.true_xor, Bool.not_true, Bool.not_false]
theorem wait_ (h : LibT tb) {n t w : Nat} {left waits deep : Int} {s : Store} (ht : s.f t = talkC w left waits deep) (hn : 2 ≤ n) : Run tb W n 24 [.cell t] s = .ok .non (s.set t (talkC w left (waits + 1) (if deep < waits + 1 then waits + 1 else deep))) := by
  obtain ⟨m, rfl⟩ : ∃ m, n = m + 2 := ⟨n - 2, by omega⟩
  rw [run_at h.f24 rfl]
  unfold talkC at *
  simp [c24, ht, lookN, putN, fldS_ins, max2, evA, startE, List.map_cons, List.map_nil, List.length_cons, List.length_nil, List.replicate, List.cons_append, List.nil_append, List.set_cons_zero, List.set_cons_succ, List.getElem?_cons_zero, List.getElem?_cons_succ, Nat.add_sub_cancel, Nat.sub_self, Nat.reduceAdd, Nat.reduceSub, Int.reduceAdd, Int.reduceNeg, decide_true, decide_false, Bool.false_xor, Bool.true_xor, Bool.not_true, Bool.not_false]
theorem told_ (h : LibT tb) {n t w : Nat} {left waits deep : Int} {xs : List D} {o : D} {s : Store} (ht : s.f t = talkC w left waits deep) (hw : s.f w = .lst xs) (hn : 2 ≤ n) : Run tb W n 25 [.cell t, o] s = .ok (.tup [.tup xs, o, .int deep]) s := by
  obtain ⟨m, rfl⟩ : ∃ m, n = m + 2 := ⟨n - 2, by omega⟩
  rw [run_at h.f25 rfl]
  unfold talkC at *
  simp [c25, ht, hw, lookN, evA, startE, List.map_cons, List.map_nil, List.length_cons, List.length_nil, List.replicate, List.cons_append, List.nil_append, List.set_cons_zero, List.set_cons_succ, List.getElem?_cons_zero, List.getElem?_cons_succ, Nat.add_sub_cancel, Nat.sub_self, Nat.reduceAdd, Nat.reduceSub, Int.reduceAdd, Int.reduceNeg, decide_true, decide_false, Bool.false_xor, Bool.true_xor, Bool.not_true, Bool.not_false]
theorem talkI (h : LibT tb) {n t : Nat} {most : Int} {s : Store} (ht : s.f t = .ins 0 []) (htn : t < s.n) (hn : 2 ≤ n) : Run tb W n 22 [.cell t, .int most] s = .ok .non ((s.new (.lst [])).set t (talkC s.n most 0 0)) := by
  obtain ⟨m, rfl⟩ : ∃ m, n = m + 2 := ⟨n - 2, by omega⟩
  rw [run_at h.f22 rfl]
  unfold talkC at *
  have ne : t ≠ s.n := by omega
  simp [c22, ht, newLt, new_f, ne, putN, fldS_ins, evA, startE, List.map_cons, List.map_nil, List.length_cons, List.length_nil, List.replicate, List.cons_append, List.nil_append, List.set_cons_zero, List.set_cons_succ, List.getElem?_cons_zero, List.getElem?_cons_succ, Nat.add_sub_cancel, Nat.sub_self, Nat.reduceAdd, Nat.reduceSub, Int.reduceAdd, Int.reduceNeg, decide_true, decide_false, Bool.false_xor, Bool.true_xor, Bool.not_true, Bool.not_false]
structure WR (ps : List (Int × Bd)) (s0 s : Store) (w p t k : Nat) (ms : MS) (o : Option Out) : Prop where
  hw : s.f w = .lst (ms.said.map .int)
  hp : s.f p = .lst (pileD ms.pile)
  ht : s.f t = talkC w ms.left ms.pile.length ms.deep
  hk : s.f k = walkC ps t p ms.slots ms.body.d (outD o)
  ne : w ≠ p ∧ w ≠ t ∧ w ≠ k ∧ p ≠ t ∧ p ≠ k ∧ t ≠ k
  n : s0.n ≤ w ∧ s0.n ≤ p ∧ s0.n ≤ t ∧ s0.n ≤ k
  chg : Chg (fun _ => False) s0 s
section
variable {ps : List (Int × Bd)} {s0 s : Store} {w p t k : Nat} {ms : MS}
theorem WR.out (R : WR ps s0 s w p t k ms none) (o : Out) : WR ps s0 (s.set k (walkC ps t p ms.slots ms.body.d o.d)) w p t k ms (some o) := by
  obtain ⟨n1, n2, n3, n4, n5, n6⟩ := R.ne
  exact ⟨by rw [set_f, if_neg n3]; exact R.hw, by rw [set_f, if_neg n5]; exact R.hp, by rw [set_f, if_neg n6]; exact R.ht, by rw [set_same] <;> rfl, R.ne, R.n, R.chg.setNew R.n.2.2.2⟩
theorem WR.call (R : WR ps s0 s w p t k ms none) (xs : List Int) (b : Bd) : WR ps s0 ((s.set t (talkC w (ms.left - 1) ms.pile.length ms.deep)).set k (if 1 ≤ ms.left then walkC ps t p xs b.d .non else walkC ps t p ms.slots ms.body.d Out.still.d)) w p t k
    (if 1 ≤ ms.left then { ms with left := ms.left - 1, slots := xs, body := b } else { ms with left := ms.left - 1 }) (if 1 ≤ ms.left then none else some .still) := by
  obtain ⟨n1, n2, n3, n4, n5, n6⟩ := R.ne
  by_cases q : 1 ≤ ms.left
  · simp only [if_pos q]
    exact ⟨by rw [set_f, if_neg n3, set_f, if_neg n2]; exact R.hw, by rw [set_f, if_neg n5, set_f, if_neg n4]; exact R.hp, by rw [set_f, if_neg n6, set_same], by rw [set_same] <;> rfl, R.ne, R.n, (R.chg.setNew R.n.2.2.1).setNew R.n.2.2.2⟩
  · simp only [if_neg q]
    exact ⟨by rw [set_f, if_neg n3, set_f, if_neg n2]; exact R.hw, by rw [set_f, if_neg n5, set_f, if_neg n4]; exact R.hp, by rw [set_f, if_neg n6, set_same], by rw [set_same] <;> rfl, R.ne, R.n, (R.chg.setNew R.n.2.2.1).setNew R.n.2.2.2⟩
theorem WR.body (R : WR ps s0 s w p t k ms none) (b : Bd) : WR ps s0 (s.set k (walkC ps t p ms.slots b.d .non)) w p t k { ms with body := b } none := by
  obtain ⟨n1, n2, n3, n4, n5, n6⟩ := R.ne
  exact ⟨by rw [set_f, if_neg n3]; exact R.hw, by rw [set_f, if_neg n5]; exact R.hp, by rw [set_f, if_neg n6]; exact R.ht, by rw [set_same] <;> rfl, R.ne, R.n, R.chg.setNew R.n.2.2.2⟩
theorem WR.say (R : WR ps s0 s w p t k ms none) (v : Int) (b : Bd) : WR ps s0 ((s.set w (.lst (ms.said.map .int ++ [.int v]))).set k (walkC ps t p ms.slots b.d .non)) w p t k { ms with said := ms.said ++ [v], body := b } none := by
  obtain ⟨n1, n2, n3, n4, n5, n6⟩ := R.ne
  exact ⟨by rw [set_f, if_neg n3, set_same]; simp, by rw [set_f, if_neg n5, set_f, if_neg (Ne.symm n1)]; exact R.hp, by rw [set_f, if_neg n6, set_f, if_neg (Ne.symm n2)]; exact R.ht, by rw [set_same] <;> rfl, R.ne, R.n, (R.chg.setNew R.n.1).setNew R.n.2.2.2⟩
theorem WR.push (R : WR ps s0 s w p t k ms none) {q : Int} {as : List Re} {b : Bd} (hb : ms.body = .with_ q as b) : WR ps s0 ((s.set p (.lst (pileD ms.pile ++ [.tup [.lst (ms.slots.map .int), b.d]]))).set t (talkC w ms.left (ms.pile.length + 1) (if ms.deep < (ms.pile.length : Int) + 1 then (ms.pile.length : Int) + 1 else ms.deep))) w p t k (pushM ms) none := by
  obtain ⟨n1, n2, n3, n4, n5, n6⟩ := R.ne
  have e : pushM ms = { ms with pile := ms.pile ++ [(ms.slots, b)], deep := if (ms.pile.length + 1 : Int) > ms.deep then (ms.pile.length + 1 : Int) else ms.deep } := by unfold pushM; rw [hb]
  rw [e]
  exact ⟨by rw [set_f, if_neg n2, set_f, if_neg n1]; exact R.hw, by rw [set_f, if_neg n4, set_same, pileD_app], by rw [set_same]; simp, by rw [set_f, if_neg (Ne.symm n6), set_f, if_neg (Ne.symm n5)]; exact R.hk, R.ne, R.n, (R.chg.setNew R.n.2.1).setNew R.n.2.2.1⟩
end
theorem faultOf (h21 : tb.fns 21 = some c21) {ps : List (Int × Bd)} {v : Int} {xs : List Int} {n : Nat} {s : Store} (hv : 0 ≤ v) (hn : 2 ≤ n) :
    Run tb W n 21 [.lst (ps.map fun q => .int q.1), .int v, .lst (xs.map .int)] s = .ok (if (ps.length : Int) ≤ v then .tag 17 else if (ps.map (·.1)).getD v.toNat 0 ≠ xs.length then .tag 18 else .non) s := by
  obtain ⟨m, rfl⟩ : ∃ m, n = m + 2 := ⟨n - 2, by omega⟩
  rw [run_at h21 rfl]
  by_cases t : (ps.length : Int) ≤ v
  · simp [c21, t, evA, startE, List.map_cons, List.map_nil, List.length_cons, List.length_nil, List.replicate, List.cons_append, List.nil_append, List.set_cons_zero, List.set_cons_succ, List.getElem?_cons_zero, List.getElem?_cons_succ, Nat.add_sub_cancel, Nat.sub_self, Nat.reduceAdd, Nat.reduceSub, Int.reduceAdd, Int.reduceNeg, decide_true, decide_false, Bool.false_xor, Bool.true_xor, Bool.not_true, Bool.not_false]
  · obtain ⟨c, b, e3, e4, e5⟩ := getPr hv (show v < ps.length by omega)
    have ix : atI (ps.map fun q => D.int q.1) v = some (.int c) := by rw [at_i hv, List.getElem?_map, e3] <;> rfl
    by_cases u : c = xs.length
    · subst u
      simp [c21, t, idx_lst ix, e3, evA, startE, List.map_cons, List.map_nil, List.length_cons, List.length_nil, List.replicate, List.cons_append, List.nil_append, List.set_cons_zero, List.set_cons_succ, List.getElem?_cons_zero, List.getElem?_cons_succ, Nat.add_sub_cancel, Nat.sub_self, Nat.reduceAdd, Nat.reduceSub, Int.reduceAdd, Int.reduceNeg, decide_true, decide_false, Bool.false_xor, Bool.true_xor, Bool.not_true, Bool.not_false]
    · have u' : ¬ (xs.length : Int) = c := fun e => u e.symm
      simp [c21, t, idx_lst ix, e3, u, u', evA, startE, List.map_cons, List.map_nil, List.length_cons, List.length_nil, List.replicate, List.cons_append, List.nil_append, List.set_cons_zero, List.set_cons_succ, List.getElem?_cons_zero, List.getElem?_cons_succ, Nat.add_sub_cancel, Nat.sub_self, Nat.reduceAdd, Nat.reduceSub, Int.reduceAdd, Int.reduceNeg, decide_true, decide_false, Bool.false_xor, Bool.true_xor, Bool.not_true, Bool.not_false]
theorem WR.pop {ps : List (Int × Bd)} {s0 s : Store} {w p t k : Nat} {ms : MS} (R : WR ps s0 s w p t k ms none) (l : List (List Int × Bd)) (xs : List Int) (b : Bd) : WR ps s0 (((s.set p (.lst (pileD l))).set k (walkC ps t p xs b.d .non)).set t (talkC w ms.left l.length ms.deep)) w p t k { ms with pile := l, slots := xs, body := b } none := by
  obtain ⟨n1, n2, n3, n4, n5, n6⟩ := R.ne
  exact ⟨by rw [set_f, if_neg n2, set_f, if_neg n3, set_f, if_neg n1]; exact R.hw, by rw [set_f, if_neg n4, set_f, if_neg n5, set_same], by rw [set_same], by rw [set_f, if_neg (Ne.symm n6), set_same] <;> rfl, R.ne, R.n, ((R.chg.setNew R.n.2.1).setNew R.n.2.2.2).setNew R.n.2.2.1⟩
/-- a body's word, what it reckons -/
def wordE : Bd → Nat × Re
  | .end_ e => (6, e)
  | .say e _ => (7, e)
  | .if_ e _ _ => (8, e)
  | .through e _ => (10, e)
  | _ => (0, .num 0)
def isPl : Bd → Bool
  | .turn _ _ => false
  | .with_ _ _ _ => false
  | _ => true
theorem calledT {ps : List (Int × Bd)} {q : Int} {as : List Re} {vs : List Int} {b : Bd} (hb : callee b vs = some q) (ha : argsOf b = as) (ao : ArgsOk (ps.map (·.1)) q as vs.length) : called ps b vs = match evs as vs with
    | some xs => .inr (q, xs)
    | none => .inl 3 := by
  unfold called
  rw [hb, ha]
  cases e : evs as vs with
  | none => rfl
  | some xs =>
    obtain ⟨a0, a1, a2⟩ := ao
    have hl := evs_len e
    rw [List.getElem?_map] at a1
    obtain ⟨pr, a3, a4⟩ := Option.map_eq_some_iff.mp a1
    have hlt := (List.getElem?_eq_some_iff.mp a3).1
    have e2 : (ps.map (·.1)).getD q.toNat 0 = xs.length := by rw [List.getD_eq_getElem?_getD, List.getElem?_map, a3, hl]; exact a4
    simp only
    rw [if_neg (by omega), if_neg (by simpa using e2)]
end
end PI

namespace PI
open PySem L2
def c39w : S := match c39.code with
  | .cons _ (.cons _ (.cons _ (.cons _ (.cons _ (.cons w _))))) => w
  | _ => .never
def c39c : E := match c39w with
  | .whl c _ => c
  | _ => .nop
def c39b : Ss := match c39w with
  | .whl _ b => b
  | _ => .nil
section
variable {tb : Tab} {W : Nat}
theorem nonO (o : Out) : isNonD o.d = false := by cases o <;> rfl
theorem ne_nil {T : List Str} {s : Store} : eqV' T true (.lst []) (.lst []) s = .ok (.bl false) s := eq_nil
theorem needAsk (h20 : tb.fns 20 = some c20) (g0 : tb.gl 0 = some (.int 1000)) (g9 : tb.gl 9 = some (.int 5000)) {ps : List (Int × Bd)} {num most : Int} {args : List Int} (a : AskOk ps num args most) {n : Nat} {s : Store} (hl : args.length ≤ 30) (hn : 2 ≤ n) : Run tb W n 20 [.lst (ps.map fun q => .int q.1), .int num, .lst (args.map .int), .int most] s = .ok .non s := by
  obtain ⟨m, rfl⟩ : ∃ m, n = m + 2 := ⟨n - 2, by omega⟩
  rw [run_at h20 rfl]
  obtain ⟨c, b, e3, e4, e5⟩ := getPr a.n0 a.n1
  have e6 : c = args.length := by rw [← e5]; exact a.len
  subst e6
  have ix : atI (ps.map fun q => D.int q.1) num = some (.int args.length) := by rw [at_i a.n0, List.getElem?_map, e3] <;> rfl
  have hL : (args.map D.int).length ≤ LIM := by rw [List.length_map]; unfold LIM; omega
  have cw : ∀ x0 x1 x2 x3 : Option D, compL (bindW (.name 4) [4] [x0, x1, x2, x3, none]) (evalE (GG tb W m) (.not (.chain .le .lt (.cst (.int 0)) (.var 4) (.glob 0)))) (evalE (GG tb W m) (.var 4)) (args.map .int) s = .ok [] s := fun x0 x1 x2 x3 =>
    comp_none fun x hx => by
      obtain ⟨v, hv, rfl⟩ := List.mem_map.mp hx
      obtain ⟨v0, v1⟩ := a.vs v hv
      exact ⟨_, rfl, by simp [wipeD, g0, v0, v1, evA, startE, List.map_cons, List.map_nil, List.length_cons, List.length_nil, List.replicate, List.cons_append, List.nil_append, List.set_cons_zero, List.set_cons_succ, List.getElem?_cons_zero, List.getElem?_cons_succ, Nat.add_sub_cancel, Nat.sub_self, Nat.reduceAdd, Nat.reduceSub, Int.reduceAdd, Int.reduceNeg, decide_true, decide_false, Bool.false_xor, Bool.true_xor, Bool.not_true, Bool.not_false]⟩
  simp [c20, a.n0, a.n1, idx_lst ix, kCmpr_some hL, cw, ne_nil, a.m0, a.m1, g9, evA, startE, List.map_cons, List.map_nil, List.length_cons, List.length_nil, List.replicate, List.cons_append, List.nil_append, List.set_cons_zero, List.set_cons_succ, List.getElem?_cons_zero, List.getElem?_cons_succ, Nat.add_sub_cancel, Nat.sub_self, Nat.reduceAdd, Nat.reduceSub, Int.reduceAdd, Int.reduceNeg, decide_true, decide_false, Bool.false_xor, Bool.true_xor, Bool.not_true, Bool.not_false]
end
end PI

namespace PI
open PySem L2
structure LibA (tb : Tab) : Prop extends LibG tb where
  f65 : tb.fns 65 = some c65
section
variable {tb : Tab} {W : Nat}
theorem lawAsk (h : LibA tb) {ps : List (Int × Bd)} (hp : PrOk ps) {r n : Nat} {s : Store} (hr : RowC (s.f r)) (hn : 4 ≤ n) :
    wp (Run tb W n 65 [.cell r, PrD ps] s) fun v s' => ∃ num args most, v = .tup [.int num, .lst (args.map .int), .int most] ∧ AskOk ps num args most ∧ ∃ c', RowC c' ∧ s' = s.set r c' := by
  obtain ⟨m, rfl⟩ : ∃ m, n = m + 2 := ⟨n - 2, by omega⟩
  rw [run_at h.f65 rfl]
  have hG := h.toLibG
  have hlen : ∀ s : Store, bltV tb.tg .len false [PrD ps] s = .ok (.int ps.length) s := fun s => by unfold PrD; rw [len_lst, List.length_map]
  have l1 := hp.len.1
  have l2 := hp.len.2
  simp [c65, hlen, evA, startE, List.map_cons, List.map_nil, List.length_cons, List.length_nil, List.replicate, List.cons_append, List.nil_append, List.set_cons_zero, List.set_cons_succ, List.getElem?_cons_zero, List.getElem?_cons_succ, Nat.add_sub_cancel, Nat.sub_self, Nat.reduceAdd, Nat.reduceSub, Int.reduceAdd, Int.reduceNeg, decide_true, decide_false, Bool.false_xor, Bool.true_xor, Bool.not_true, Bool.not_false]
  refine wp_mono (taken hG hr (by omega) (by omega) (by omega)) ?_
  rintro _ _ ⟨v1, k1, rfl, v1a, v1b, hk1, rfl⟩
  obtain ⟨c, b, e3, e4, e5⟩ := getPr v1a v1b
  obtain ⟨o1, o2, o3, o4⟩ := hp.ok _ (List.mem_of_getElem? e3)
  simp only at o1 o2
  obtain ⟨cn, rfl⟩ : ∃ cn : Nat, c = cn := ⟨c.toNat, by omega⟩
  have ix : ∀ s : Store, idxV tb.tg (PrD ps) (.int v1) s = .ok (.tup [.int cn, b.d]) s := fun s => idx_lst e4
  have hlim : -(LIM : Int) ≤ (cn : Int) ∧ (cn : Int) ≤ (LIM : Int) := by unfold LIM; omega
  have hL : ((List.range cn).map fun (i : Nat) => D.int (i : Int)).length ≤ LIM := by simp [LIM]; omega
  simp [ix, rng_ok hlim, kCmpr_some hL, evA, startE, List.map_cons, List.map_nil, List.length_cons, List.length_nil, List.replicate, List.cons_append, List.nil_append, List.set_cons_zero, List.set_cons_succ, List.getElem?_cons_zero, List.getElem?_cons_succ, Nat.add_sub_cancel, Nat.sub_self, Nat.reduceAdd, Nat.reduceSub, Int.reduceAdd, Int.reduceNeg, decide_true, decide_false, Bool.false_xor, Bool.true_xor, Bool.not_true, Bool.not_false]
  have cw := comp_wp (g := bindW (.name 4) [4] [some (.cell r), some (PrD ps), some (.int v1), none, none]) (c := evalE (GG tb W m) (.cst (.bl true))) (e := evalE (GG tb W m) (.idx (.lst false (.cons (.call 43 (.cons (.var 0) (.cons (.cst (.int (12))) .nil))) (.cons (.call 43 (.cons (.var 0) (.cons (.cst (.int (1000))) .nil))) .nil))) (.bin .fdiv false (.call 43 (.cons (.var 0) (.cons (.cst (.int (4))) .nil))) (.cst (.int (3))))))
    (Inv := fun s1 => ∃ c', RowC c' ∧ s1 = s.set r c') (P := fun y => ∃ c : Int, y = .int c ∧ 0 ≤ c ∧ c ≤ 999) (xs := (List.range cn).map fun (i : Nat) => D.int (i : Int)) (s := s.set r k1) (fun x hx s1 hs1 => ?_) ⟨k1, hk1, rfl⟩
  · refine wp_mono cw ?_
    rintro ys _ ⟨hl, hys, k2, hk2, rfl⟩
    obtain ⟨args, rfl, hargs⟩ := ints_cs hys
    have hl : args.length = cn := by simpa using hl
    simp [evA, startE, List.map_cons, List.map_nil, List.length_cons, List.length_nil, List.replicate, List.cons_append, List.nil_append, List.set_cons_zero, List.set_cons_succ, List.getElem?_cons_zero, List.getElem?_cons_succ, Nat.add_sub_cancel, Nat.sub_self, Nat.reduceAdd, Nat.reduceSub, Int.reduceAdd, Int.reduceNeg, decide_true, decide_false, Bool.false_xor, Bool.true_xor, Bool.not_true, Bool.not_false]
    refine wp_mono (taken hG (by rw [set_same]; exact hk2) (by omega) (by omega) (by omega)) ?_
    rintro _ _ ⟨v3, k3, rfl, v3a, v3b, hk3, rfl⟩
    simp [evA, startE, List.map_cons, List.map_nil, List.length_cons, List.length_nil, List.replicate, List.cons_append, List.nil_append, List.set_cons_zero, List.set_cons_succ, List.getElem?_cons_zero, List.getElem?_cons_succ, Nat.add_sub_cancel, Nat.sub_self, Nat.reduceAdd, Nat.reduceSub, Int.reduceAdd, Int.reduceNeg, decide_true, decide_false, Bool.false_xor, Bool.true_xor, Bool.not_true, Bool.not_false]
    refine wp_mono (taken hG (by rw [set_same]; exact hk3) (by omega) (by omega) (by omega)) ?_
    rintro _ _ ⟨v4, k4, rfl, v4a, v4b, hk4, rfl⟩
    simp [evA, startE, List.map_cons, List.map_nil, List.length_cons, List.length_nil, List.replicate, List.cons_append, List.nil_append, List.set_cons_zero, List.set_cons_succ, List.getElem?_cons_zero, List.getElem?_cons_succ, Nat.add_sub_cancel, Nat.sub_self, Nat.reduceAdd, Nat.reduceSub, Int.reduceAdd, Int.reduceNeg, decide_true, decide_false, Bool.false_xor, Bool.true_xor, Bool.not_true, Bool.not_false]
    refine wp_mono (taken hG (by rw [set_same]; exact hk4) (by omega) (by omega) (by omega)) ?_
    rintro _ _ ⟨v5, k5, rfl, v5a, v5b, hk5, rfl⟩
    have fin : ∀ most : Int, 0 ≤ most → most ≤ 5000 → ∃ num args' most', D.tup [.int v1, .lst (args.map .int), .int most] = .tup [.int num, .lst (args'.map .int), .int most'] ∧ AskOk ps num args' most' ∧ ∃ c', RowC c' ∧ s.set r k5 = s.set r c' := fun most m0 m1 =>
      ⟨v1, args, most, rfl, ⟨v1a, v1b, by rw [e5, hl], fun v hv => by have := hargs v hv; omega, m0, m1⟩, k5, hk5, rfl⟩
    have c5 : v5 = 0 ∨ v5 = 1 ∨ v5 = 2 := by omega
    rcases c5 with rfl | rfl | rfl
    · simp only [evA, startE, List.map_cons, List.map_nil, List.length_cons, List.length_nil, List.replicate, List.cons_append, List.nil_append, List.set_cons_zero, List.set_cons_succ, List.getElem?_cons_zero, List.getElem?_cons_succ, Nat.add_sub_cancel, Nat.sub_self, Nat.reduceAdd, Nat.reduceSub, Int.reduceAdd, Int.reduceNeg, decide_true, decide_false, Bool.false_xor, Bool.true_xor, Bool.not_true, Bool.not_false]; exact fin _ (by omega) (by omega)
    · simp only [evA, startE, List.map_cons, List.map_nil, List.length_cons, List.length_nil, List.replicate, List.cons_append, List.nil_append, List.set_cons_zero, List.set_cons_succ, List.getElem?_cons_zero, List.getElem?_cons_succ, Nat.add_sub_cancel, Nat.sub_self, Nat.reduceAdd, Nat.reduceSub, Int.reduceAdd, Int.reduceNeg, decide_true, decide_false, Bool.false_xor, Bool.true_xor, Bool.not_true, Bool.not_false]; exact fin _ (by omega) (by omega)
    · simp only [evA, startE, List.map_cons, List.map_nil, List.length_cons, List.length_nil, List.replicate, List.cons_append, List.nil_append, List.set_cons_zero, List.set_cons_succ, List.getElem?_cons_zero, List.getElem?_cons_succ, Nat.add_sub_cancel, Nat.sub_self, Nat.reduceAdd, Nat.reduceSub, Int.reduceAdd, Int.reduceNeg, decide_true, decide_false, Bool.false_xor, Bool.true_xor, Bool.not_true, Bool.not_false]; exact fin _ (by omega) (by omega)
  · obtain ⟨k2, hk2, rfl⟩ := hs1
    refine ⟨_, rfl, by simp [evA, startE, List.map_cons, List.map_nil, List.length_cons, List.length_nil, List.replicate, List.cons_append, List.nil_append, List.set_cons_zero, List.set_cons_succ, List.getElem?_cons_zero, List.getElem?_cons_succ, Nat.add_sub_cancel, Nat.sub_self, Nat.reduceAdd, Nat.reduceSub, Int.reduceAdd, Int.reduceNeg, decide_true, decide_false, Bool.false_xor, Bool.true_xor, Bool.not_true, Bool.not_false], ?_⟩
    simp [wipeD, evA, startE, List.map_cons, List.map_nil, List.length_cons, List.length_nil, List.replicate, List.cons_append, List.nil_append, List.set_cons_zero, List.set_cons_succ, List.getElem?_cons_zero, List.getElem?_cons_succ, Nat.add_sub_cancel, Nat.sub_self, Nat.reduceAdd, Nat.reduceSub, Int.reduceAdd, Int.reduceNeg, decide_true, decide_false, Bool.false_xor, Bool.true_xor, Bool.not_true, Bool.not_false]
    refine wp_mono (taken hG (by rw [set_same]; exact hk2) (by omega) (by omega) (by omega)) ?_
    rintro _ _ ⟨v3, k3, rfl, v3a, v3b, hk3, rfl⟩
    simp [evA, startE, List.map_cons, List.map_nil, List.length_cons, List.length_nil, List.replicate, List.cons_append, List.nil_append, List.set_cons_zero, List.set_cons_succ, List.getElem?_cons_zero, List.getElem?_cons_succ, Nat.add_sub_cancel, Nat.sub_self, Nat.reduceAdd, Nat.reduceSub, Int.reduceAdd, Int.reduceNeg, decide_true, decide_false, Bool.false_xor, Bool.true_xor, Bool.not_true, Bool.not_false]
    refine wp_mono (taken hG (by rw [set_same]; exact hk3) (by omega) (by omega) (by omega)) ?_
    rintro _ _ ⟨v4, k4, rfl, v4a, v4b, hk4, rfl⟩
    simp [evA, startE, List.map_cons, List.map_nil, List.length_cons, List.length_nil, List.replicate, List.cons_append, List.nil_append, List.set_cons_zero, List.set_cons_succ, List.getElem?_cons_zero, List.getElem?_cons_succ, Nat.add_sub_cancel, Nat.sub_self, Nat.reduceAdd, Nat.reduceSub, Int.reduceAdd, Int.reduceNeg, decide_true, decide_false, Bool.false_xor, Bool.true_xor, Bool.not_true, Bool.not_false]
    refine wp_mono (taken hG (by rw [set_same]; exact hk4) (by omega) (by omega) (by omega)) ?_
    rintro _ _ ⟨v5, k5, rfl, v5a, v5b, hk5, rfl⟩
    have c5 : v5 / 3 = 0 ∨ v5 / 3 = 1 := by omega
    rcases c5 with c5 | c5
    · simp only [fdiv_ii (show (0 : Int) < 3 ∧ (3 : Int) < 1073741824 by omega), c5, evA, startE, List.map_cons, List.map_nil, List.length_cons, List.length_nil, List.replicate, List.cons_append, List.nil_append, List.set_cons_zero, List.set_cons_succ, List.getElem?_cons_zero, List.getElem?_cons_succ, Nat.add_sub_cancel, Nat.sub_self, Nat.reduceAdd, Nat.reduceSub, Int.reduceAdd, Int.reduceNeg, decide_true, decide_false, Bool.false_xor, Bool.true_xor, Bool.not_true, Bool.not_false]
      exact ⟨⟨v3, rfl, v3a, by omega⟩, k5, hk5, rfl⟩
    · simp only [fdiv_ii (show (0 : Int) < 3 ∧ (3 : Int) < 1073741824 by omega), c5, evA, startE, List.map_cons, List.map_nil, List.length_cons, List.length_nil, List.replicate, List.cons_append, List.nil_append, List.set_cons_zero, List.set_cons_succ, List.getElem?_cons_zero, List.getElem?_cons_succ, Nat.add_sub_cancel, Nat.sub_self, Nat.reduceAdd, Nat.reduceSub, Int.reduceAdd, Int.reduceNeg, decide_true, decide_false, Bool.false_xor, Bool.true_xor, Bool.not_true, Bool.not_false]
      exact ⟨⟨v4, rfl, v4a, by omega⟩, k5, hk5, rfl⟩
theorem isi_int_4 {s : Store} {i : Int} : isiV [4] (.int i) s = .ok (.bl false) s := rfl
theorem isi_int_3 {s : Store} {i : Int} : isiV [3] (.int i) s = .ok (.bl false) s := rfl
theorem isi_int_2 {s : Store} {i : Int} : isiV [2] (.int i) s = .ok (.bl false) s := rfl
theorem isi_int_1 {s : Store} {i : Int} : isiV [1] (.int i) s = .ok (.bl false) s := rfl
theorem isi_int_0 {s : Store} {i : Int} : isiV [0] (.int i) s = .ok (.bl true) s := rfl
theorem isi_int_43 {s : Store} {i : Int} : isiV [4, 3] (.int i) s = .ok (.bl false) s := rfl
theorem isN_int {i : Int} : isNonD (.int i) = false := rfl
theorem isi_tag_4 {s : Store} {n : Nat} : isiV [4] (.tag n) s = .ok (.bl false) s := rfl
theorem isi_tag_3 {s : Store} {n : Nat} : isiV [3] (.tag n) s = .ok (.bl false) s := rfl
theorem isi_tag_2 {s : Store} {n : Nat} : isiV [2] (.tag n) s = .ok (.bl true) s := rfl
theorem isi_tag_1 {s : Store} {n : Nat} : isiV [1] (.tag n) s = .ok (.bl false) s := rfl
theorem isi_tag_0 {s : Store} {n : Nat} : isiV [0] (.tag n) s = .ok (.bl false) s := rfl
theorem isi_tag_43 {s : Store} {n : Nat} : isiV [4, 3] (.tag n) s = .ok (.bl false) s := rfl
theorem isN_tag {n : Nat} : isNonD (.tag n) = false := rfl
theorem isi_non_4 {s : Store}  : isiV [4] (.non) s = .ok (.bl false) s := rfl
theorem isi_non_3 {s : Store}  : isiV [3] (.non) s = .ok (.bl false) s := rfl
theorem isi_non_2 {s : Store}  : isiV [2] (.non) s = .ok (.bl false) s := rfl
theorem isi_non_1 {s : Store}  : isiV [1] (.non) s = .ok (.bl false) s := rfl
theorem isi_non_0 {s : Store}  : isiV [0] (.non) s = .ok (.bl false) s := rfl
theorem isi_non_43 {s : Store}  : isiV [4, 3] (.non) s = .ok (.bl false) s := rfl
theorem isN_non  : isNonD (.non) = true := rfl
theorem isi_tup_4 {s : Store} {xs : List D} : isiV [4] (.tup xs) s = .ok (.bl true) s := rfl
theorem isi_tup_3 {s : Store} {xs : List D} : isiV [3] (.tup xs) s = .ok (.bl false) s := rfl
theorem isi_tup_2 {s : Store} {xs : List D} : isiV [2] (.tup xs) s = .ok (.bl false) s := rfl
theorem isi_tup_1 {s : Store} {xs : List D} : isiV [1] (.tup xs) s = .ok (.bl false) s := rfl
theorem isi_tup_0 {s : Store} {xs : List D} : isiV [0] (.tup xs) s = .ok (.bl false) s := rfl
theorem isi_tup_43 {s : Store} {xs : List D} : isiV [4, 3] (.tup xs) s = .ok (.bl true) s := rfl
theorem isN_tup {xs : List D} : isNonD (.tup xs) = false := rfl
theorem isi_lst_4 {s : Store} {xs : List D} : isiV [4] (.lst xs) s = .ok (.bl false) s := rfl
theorem isi_lst_3 {s : Store} {xs : List D} : isiV [3] (.lst xs) s = .ok (.bl true) s := rfl
theorem isi_lst_2 {s : Store} {xs : List D} : isiV [2] (.lst xs) s = .ok (.bl false) s := rfl
theorem isi_lst_1 {s : Store} {xs : List D} : isiV [1] (.lst xs) s = .ok (.bl false) s := rfl
theorem isi_lst_0 {s : Store} {xs : List D} : isiV [0] (.lst xs) s = .ok (.bl false) s := rfl
theorem isi_lst_43 {s : Store} {xs : List D} : isiV [4, 3] (.lst xs) s = .ok (.bl true) s := rfl
theorem isN_lst {xs : List D} : isNonD (.lst xs) = false := rfl
theorem isi_bl_4 {s : Store} {b : Bool} : isiV [4] (.bl b) s = .ok (.bl false) s := rfl
theorem isi_bl_3 {s : Store} {b : Bool} : isiV [3] (.bl b) s = .ok (.bl false) s := rfl
theorem isi_bl_2 {s : Store} {b : Bool} : isiV [2] (.bl b) s = .ok (.bl false) s := rfl
theorem isi_bl_1 {s : Store} {b : Bool} : isiV [1] (.bl b) s = .ok (.bl true) s := rfl
theorem isi_bl_0 {s : Store} {b : Bool} : isiV [0] (.bl b) s = .ok (.bl true) s := rfl
theorem isi_bl_43 {s : Store} {b : Bool} : isiV [4, 3] (.bl b) s = .ok (.bl false) s := rfl
theorem isN_bl {b : Bool} : isNonD (.bl b) = false := rfl
inductive Sim (T : Nat) : Nat → D → Prop
  | int {k : Nat} (i : Int) : Sim T k (.int i)
  | tag {k n : Nat} : n < T → Sim T k (.tag n)
  | non {k : Nat} : Sim T k .non
  | tup {k : Nat} {xs : List D} : xs.length ≤ 1000000 → (∀ x ∈ xs, Sim T k x) → Sim T (k + 1) (.tup xs)
  | lst {k : Nat} {xs : List D} : xs.length ≤ 1000000 → (∀ x ∈ xs, Sim T k x) → Sim T (k + 1) (.lst xs)
theorem eq_bb {T : List Str} {neg a b : Bool} {s : Store} : eqV' T neg (.bl a) (.bl b) s = .ok (.bl (xor neg (a == b))) s := by
  simp [eqV', deref, datD, depD, eqvD]
theorem alike (h44 : tb.fns 44 = some c44) (hT : 67 ≤ tb.tg.length) : ∀ (k : Nat) (d : D) (n : Nat) (s : Store), Sim tb.tg.length k d → k + 2 ≤ n → Run tb W n 44 [d, d] s = .ok (.bl true) s := by
  intro k
  have seq : ∀ (xs : List D) (m : Nat) (s : Store) (x0 x1 : D), (∀ i, i < xs.length → idxV tb.tg x0 (.int (i : Nat)) s = .ok (xs.getD i .non) s ∧ idxV tb.tg x1 (.int (i : Nat)) s = .ok (xs.getD i .non) s) → (∀ x ∈ xs, Run tb W (m + 1) 44 [x, x] s = .ok (.bl true) s) →
      compL (bindW (.name 2) [2] [some x0, some x1, none]) (evalE (GG tb W m) (.not (.call 44 (.cons (.idx (.var 0) (.var 2)) (.cons (.idx (.var 1) (.var 2)) .nil))))) (evalE (GG tb W m) (.var 2)) ((List.range xs.length).map fun (i : Nat) => D.int (i : Int)) s = .ok [] s := by
    intro xs m s x0 x1 hi hx
    refine comp_none fun y hy => ?_
    obtain ⟨i, hi', rfl⟩ := List.mem_map.mp hy
    have hlt := List.mem_range.mp hi'
    obtain ⟨a1, a2⟩ := hi i hlt
    have hm : xs.getD i .non ∈ xs := by rw [List.getD_eq_getElem?_getD, List.getElem?_eq_getElem hlt]; exact List.getElem_mem hlt
    have hr := hx _ hm
    generalize xs.getD i .non = y at *
    exact ⟨_, rfl, by simp [wipeD, a1, a2, hr, evA, startE, List.map_cons, List.map_nil, List.length_cons, List.length_nil, List.replicate, List.cons_append, List.nil_append, List.set_cons_zero, List.set_cons_succ, List.getElem?_cons_zero, List.getElem?_cons_succ, Nat.add_sub_cancel, Nat.sub_self, Nat.reduceAdd, Nat.reduceSub, Int.reduceAdd, Int.reduceNeg, decide_true, decide_false, Bool.false_xor, Bool.true_xor, Bool.not_true, Bool.not_false]⟩
  induction k with
  | zero =>
    intro d n s hs hn
    obtain ⟨m, rfl⟩ : ∃ m, n = m + 2 := ⟨n - 2, by omega⟩
    rw [run_at h44 rfl]
    cases hs with
    | int i => simp [c44, isi_int_4, isi_int_3, isi_int_2, isi_int_1, isi_int_0, isi_int_43, isN_int, evA, startE, List.map_cons, List.map_nil, List.length_cons, List.length_nil, List.replicate, List.cons_append, List.nil_append, List.set_cons_zero, List.set_cons_succ, List.getElem?_cons_zero, List.getElem?_cons_succ, Nat.add_sub_cancel, Nat.sub_self, Nat.reduceAdd, Nat.reduceSub, Int.reduceAdd, Int.reduceNeg, decide_true, decide_false, Bool.false_xor, Bool.true_xor, Bool.not_true, Bool.not_false]
    | tag hn => simp [c44, isi_tag_4, isi_tag_3, isi_tag_2, isi_tag_1, isi_tag_0, isi_tag_43, isN_tag, eq_tt hn hn, evA, startE, List.map_cons, List.map_nil, List.length_cons, List.length_nil, List.replicate, List.cons_append, List.nil_append, List.set_cons_zero, List.set_cons_succ, List.getElem?_cons_zero, List.getElem?_cons_succ, Nat.add_sub_cancel, Nat.sub_self, Nat.reduceAdd, Nat.reduceSub, Int.reduceAdd, Int.reduceNeg, decide_true, decide_false, Bool.false_xor, Bool.true_xor, Bool.not_true, Bool.not_false]
    | non => simp [c44, isi_non_4, isi_non_3, isi_non_2, isi_non_1, isi_non_0, isi_non_43, isN_non, evA, startE, List.map_cons, List.map_nil, List.length_cons, List.length_nil, List.replicate, List.cons_append, List.nil_append, List.set_cons_zero, List.set_cons_succ, List.getElem?_cons_zero, List.getElem?_cons_succ, Nat.add_sub_cancel, Nat.sub_self, Nat.reduceAdd, Nat.reduceSub, Int.reduceAdd, Int.reduceNeg, decide_true, decide_false, Bool.false_xor, Bool.true_xor, Bool.not_true, Bool.not_false]
  | succ k ih =>
    intro d n s hs hn
    obtain ⟨m, rfl⟩ : ∃ m, n = m + 2 := ⟨n - 2, by omega⟩
    rw [run_at h44 rfl]
    cases hs with
    | int i => simp [c44, isi_int_4, isi_int_3, isi_int_2, isi_int_1, isi_int_0, isi_int_43, isN_int, evA, startE, List.map_cons, List.map_nil, List.length_cons, List.length_nil, List.replicate, List.cons_append, List.nil_append, List.set_cons_zero, List.set_cons_succ, List.getElem?_cons_zero, List.getElem?_cons_succ, Nat.add_sub_cancel, Nat.sub_self, Nat.reduceAdd, Nat.reduceSub, Int.reduceAdd, Int.reduceNeg, decide_true, decide_false, Bool.false_xor, Bool.true_xor, Bool.not_true, Bool.not_false]
    | tag hn => simp [c44, isi_tag_4, isi_tag_3, isi_tag_2, isi_tag_1, isi_tag_0, isi_tag_43, isN_tag, eq_tt hn hn, evA, startE, List.map_cons, List.map_nil, List.length_cons, List.length_nil, List.replicate, List.cons_append, List.nil_append, List.set_cons_zero, List.set_cons_succ, List.getElem?_cons_zero, List.getElem?_cons_succ, Nat.add_sub_cancel, Nat.sub_self, Nat.reduceAdd, Nat.reduceSub, Int.reduceAdd, Int.reduceNeg, decide_true, decide_false, Bool.false_xor, Bool.true_xor, Bool.not_true, Bool.not_false]
    | non => simp [c44, isi_non_4, isi_non_3, isi_non_2, isi_non_1, isi_non_0, isi_non_43, isN_non, evA, startE, List.map_cons, List.map_nil, List.length_cons, List.length_nil, List.replicate, List.cons_append, List.nil_append, List.set_cons_zero, List.set_cons_succ, List.getElem?_cons_zero, List.getElem?_cons_succ, Nat.add_sub_cancel, Nat.sub_self, Nat.reduceAdd, Nat.reduceSub, Int.reduceAdd, Int.reduceNeg, decide_true, decide_false, Bool.false_xor, Bool.true_xor, Bool.not_true, Bool.not_false]
    | tup hl hx =>
      rename_i xs
      have hlim : -(LIM : Int) ≤ (xs.length : Int) ∧ (xs.length : Int) ≤ (LIM : Int) := by unfold LIM; omega
      have hL : ((List.range xs.length).map fun (i : Nat) => D.int (i : Int)).length ≤ LIM := by simp [LIM]; omega
      have sq := seq xs m s (.tup xs) (.tup xs) (fun i hi => by
        have : atI xs (i : Int) = some (xs.getD i .non) := by rw [at_nat, List.getD_eq_getElem?_getD, List.getElem?_eq_getElem hi] <;> rfl
        exact ⟨idx_tup this, idx_tup this⟩) (fun x hm => ih x (m + 1) s (hx x hm) (by omega))
      simp [c44, isi_tup_4, isi_tup_3, isi_tup_2, isi_tup_1, isi_tup_0, isi_tup_43, isN_tup, eq_bb, rng_ok hlim, kCmpr_some hL, sq, eq_nil, evA, startE, List.map_cons, List.map_nil, List.length_cons, List.length_nil, List.replicate, List.cons_append, List.nil_append, List.set_cons_zero, List.set_cons_succ, List.getElem?_cons_zero, List.getElem?_cons_succ, Nat.add_sub_cancel, Nat.sub_self, Nat.reduceAdd, Nat.reduceSub, Int.reduceAdd, Int.reduceNeg, decide_true, decide_false, Bool.false_xor, Bool.true_xor, Bool.not_true, Bool.not_false]
    | lst hl hx =>
      rename_i xs
      have hlim : -(LIM : Int) ≤ (xs.length : Int) ∧ (xs.length : Int) ≤ (LIM : Int) := by unfold LIM; omega
      have hL : ((List.range xs.length).map fun (i : Nat) => D.int (i : Int)).length ≤ LIM := by simp [LIM]; omega
      have sq := seq xs m s (.lst xs) (.lst xs) (fun i hi => by
        have : atI xs (i : Int) = some (xs.getD i .non) := by rw [at_nat, List.getD_eq_getElem?_getD, List.getElem?_eq_getElem hi] <;> rfl
        exact ⟨idx_lst this, idx_lst this⟩) (fun x hm => ih x (m + 1) s (hx x hm) (by omega))
      simp [c44, isi_lst_4, isi_lst_3, isi_lst_2, isi_lst_1, isi_lst_0, isi_lst_43, isN_lst, eq_bb, rng_ok hlim, kCmpr_some hL, sq, eq_nil, evA, startE, List.map_cons, List.map_nil, List.length_cons, List.length_nil, List.replicate, List.cons_append, List.nil_append, List.set_cons_zero, List.set_cons_succ, List.getElem?_cons_zero, List.getElem?_cons_succ, Nat.add_sub_cancel, Nat.sub_self, Nat.reduceAdd, Nat.reduceSub, Int.reduceAdd, Int.reduceNeg, decide_true, decide_false, Bool.false_xor, Bool.true_xor, Bool.not_true, Bool.not_false]
end
end PI

namespace PI
open PySem L2
/-- the calls of a body, in order -/
def callsIn (cs : List Int) : Bd → List Pk
  | .end_ _ => []
  | .say _ b => callsIn cs b
  | .if_ _ a b => callsIn cs a ++ callsIn cs b
  | .turn n _ => [(n, false)]
  | .through _ as => ((List.range cs.length).filter fun k => decide (cs.getD k 0 = as.length)).map fun (k : Nat) => ((k : Int), false)
  | .with_ n _ b => (n, true) :: callsIn cs b
abbrev Kn := List (List Pk)
def known (ps : List (Int × Bd)) : Kn := ps.map fun p => prSort (callsIn (ps.map (·.1)) p.2)
/-- all calls are of functions that there are -/
structure KnOk (kn : Kn) : Prop where
  len : 1 ≤ kn.length ∧ kn.length ≤ 5
  mem : ∀ l ∈ kn, ∀ p ∈ l, 0 ≤ p.1 ∧ p.1 < kn.length
  few : ∀ l ∈ kn, l.length < 60
def Edge (kn : Kn) (a b : Int) (w : Bool) : Prop := 0 ≤ a ∧ (b, w) ∈ kn.getD a.toNat []
inductive Reach (kn : Kn) : Int → Int → Prop
  | refl (a : Int) : Reach kn a a
  | snoc {a b c : Int} {w : Bool} : Reach kn a b → Edge kn b c w → Reach kn a c
theorem Reach.trans {kn : Kn} {a b c : Int} (h : Reach kn a b) (g : Reach kn b c) : Reach kn a c := by
  induction g with
  | refl => exact h
  | snoc _ e ih => exact .snoc ih e
theorem Reach.cons {kn : Kn} {a b c : Int} {w : Bool} (e : Edge kn a b w) (g : Reach kn b c) : Reach kn a c := (Reach.snoc (.refl a) e).trans g
theorem edge_mem {kn : Kn} {a b : Int} {w : Bool} (h : Edge kn a b w) : a < kn.length ∧ ∃ l ∈ kn, (b, w) ∈ l := by
  obtain ⟨h0, h1⟩ := h
  by_cases q : a.toNat < kn.length
  · rw [List.getD_eq_getElem?_getD, List.getElem?_eq_getElem q] at h1
    exact ⟨by omega, _, List.getElem_mem q, h1⟩
  · rw [List.getD_eq_getElem?_getD, List.getElem?_eq_none (by omega)] at h1
    cases h1
theorem edge_ok {kn : Kn} (ok : KnOk kn) {a b : Int} {w : Bool} (h : Edge kn a b w) : 0 ≤ a ∧ a < kn.length ∧ 0 ≤ b ∧ b < kn.length := by
  obtain ⟨h1, l, hl, hm⟩ := edge_mem h
  have := ok.mem l hl _ hm
  exact ⟨h.1, h1, this.1, this.2⟩
theorem Reach.ok {kn : Kn} (ok : KnOk kn) {a b : Int} (h : Reach kn a b) (ha : 0 ≤ a ∧ a < kn.length) : 0 ≤ b ∧ b < kn.length := by
  cases h with
  | refl => exact ha
  | snoc _ e => exact (edge_ok ok e).2.2
abbrev Tr := Int × Int × Bool
def Path (kn : Kn) : Int → List Tr → Int → Prop
  | a, [], c => a = c
  | a, t :: r, c => t.1 = a ∧ Edge kn t.1 t.2.1 t.2.2 ∧ Path kn t.2.1 r c
theorem Path.snoc {kn : Kn} : ∀ {l : List Tr} {a b c : Int} {w : Bool}, Path kn a l b → Edge kn b c w → Path kn a (l ++ [(b, c, w)]) c
  | [], a, b, c, w, h, e => by
    have h : a = b := h
    subst h
    exact ⟨rfl, e, rfl⟩
  | t :: r, a, b, c, w, h, e => ⟨h.1, h.2.1, Path.snoc h.2.2 e⟩
theorem Path.at {kn : Kn} : ∀ {l : List Tr} {a c : Int}, Path kn a l c → ∀ (k : Nat) (t : Tr), l[k]? = some t → Edge kn t.1 t.2.1 t.2.2 ∧ ((∃ u, l[k + 1]? = some u ∧ u.1 = t.2.1) ∨ (k + 1 = l.length ∧ t.2.1 = c))
  | [], a, c, h, k, t, e => by cases e
  | x :: r, a, c, h, k, t, e => by
    obtain ⟨h1, h2, h3⟩ := h
    cases k with
    | zero =>
      have e : x = t := by simpa using e
      subst e
      refine ⟨h2, ?_⟩
      cases r with
      | nil => exact .inr ⟨rfl, h3⟩
      | cons y r => exact .inl ⟨y, rfl, h3.1⟩
    | succ k =>
      obtain ⟨q1, q2⟩ := Path.at h3 k t (by simpa using e)
      refine ⟨q1, ?_⟩
      rcases q2 with ⟨u, q2, q3⟩ | ⟨q2, q3⟩
      · exact .inl ⟨u, by simpa using q2, q3⟩
      · exact .inr ⟨by simp only [List.length_cons]; omega, q3⟩
end PI

namespace PI
open PySem L2
structure LibC7 (tb : Tab) : Prop extends LibN tb where
  f7 : tb.fns 7 = some c7
structure LibC (tb : Tab) : Prop extends LibC7 tb where
  f8 : tb.fns 8 = some c8
section
variable {tb : Tab} {W : Nat}
theorem Bd.dat {T : Nat} (hT : 67 ≤ T) {cs : List Int} : ∀ (b : Bd) {sl : Int} {wi : Nat}, b.ok cs sl wi → datD T b.d = true
  | .end_ e, sl, wi, h => by simp only [Bd.d, datD, datL, e.dat hT h.2.2]; simp; omega
  | .say e b, sl, wi, h => by simp only [Bd.d, datD, datL, e.dat hT h.2.2.1, b.dat hT h.2.2.2]; simp; omega
  | .if_ e a b, sl, wi, h => by simp only [Bd.d, datD, datL, e.dat hT h.2.2.1, a.dat hT h.2.2.2.1, b.dat hT h.2.2.2.2]; simp; omega
  | .turn n as, sl, wi, h => by simp only [Bd.d, datD, datL, datL_map hT h.2.2.2.2.2]; simp; omega
  | .through e as, sl, wi, h => by simp only [Bd.d, datD, datL, e.dat hT h.2.2.2.1, datL_map hT h.2.2.2.2]; simp; omega
  | .with_ n as b, sl, wi, h => by simp only [Bd.d, datD, datL, datL_map hT h.2.2.2.1.2.2, b.dat hT h.2.2.2.2]; simp; omega
def Bd.hd : Bd → Nat
  | .end_ _ => 6 | .say _ _ => 7 | .if_ _ _ _ => 8 | .turn _ _ => 9 | .through _ _ => 10 | .with_ _ _ _ => 11
structure LibK (tb : Tab) : Prop extends LibC7 tb where
  f66 : tb.fns 66 = some c66
  f67 : tb.fns 67 = some c67
end
end PI

namespace PI
open PySem L2
section
variable {g : D → Option Env} {c e : Env → Store → R D} {s : Store} {G : GE} {env : Env}
end
/-- the known calls as a value -/
def KnL (s : Store) (d : D) (kn : Kn) : Prop := ∃ ds, IsL s d ds ∧ ds.length = kn.length ∧ ∀ (i : Nat) (l : List Pk), kn[i]? = some l → ∃ x, ds[i]? = some x ∧ IsL s x (l.map prD)
theorem KnL.kept {s s' : Store} {d : D} {kn : Kn} (h : KnL s d kn) (k : Kept s s') : KnL s' d kn := by
  obtain ⟨ds, h1, h2, h3⟩ := h
  refine ⟨ds, h1.kept k, h2, fun i l e => ?_⟩
  obtain ⟨x, e1, e2⟩ := h3 i l e
  exact ⟨x, e1, e2.kept k⟩
theorem KnL.len {T : List Str} {s : Store} {d : D} {kn : Kn} {c : Bool} (h : KnL s d kn) : bltV T .len c [d] s = .ok (.int kn.length) s := by
  obtain ⟨ds, h1, h2, _⟩ := h
  rw [h1.len, h2]
theorem KnL.ix {T : List Str} {s : Store} {d : D} {kn : Kn} (h : KnL s d kn) {i : Int} (h0 : 0 ≤ i) (h1 : i < kn.length) : ∃ x, idxV T d (.int i) s = .ok x s ∧ IsL s x ((kn.getD i.toNat []).map prD) := by
  obtain ⟨ds, a1, a2, a3⟩ := h
  have hl : i.toNat < kn.length := by omega
  obtain ⟨x, e1, e2⟩ := a3 i.toNat _ (List.getElem?_eq_getElem hl)
  refine ⟨x, a1.ix (by rw [at_i h0]; exact e1), ?_⟩
  rw [List.getD_eq_getElem?_getD, List.getElem?_eq_getElem hl]
  exact e2
structure LibS (tb : Tab) : Prop extends LibN tb where
  f13 : tb.fns 13 = some c13
section
variable {tb : Tab} {W : Nat}
structure LibI (tb : Tab) : Prop where
  tg : 67 ≤ tb.tg.length
  f70 : tb.fns 70 = some c70
end
end PI

namespace PI
open PySem L2
/-- the same and of the same kinds, lists frozen or cells -/
inductive Sam (T : List Str) (s : Store) : Nat → D → D → Prop
  | int {k : Nat} (i : Int) : Sam T s k (.int i) (.int i)
  | bl {k : Nat} (b : Bool) : Sam T s k (.bl b) (.bl b)
  | non {k : Nat} : Sam T s k .non .non
  | tag {k n : Nat} : n < T.length → Sam T s k (.tag n) (.tag n)
  | str {k : Nat} (x : Str) : Sam T s k (.str x) (.str x)
  | tup {k : Nat} {xs ys : List D} : xs.length ≤ 1000000 → ys.length = xs.length → (∀ i, i < xs.length → Sam T s k (xs.getD i .non) (ys.getD i .non)) → Sam T s (k + 1) (.tup xs) (.tup ys)
  | lst {k : Nat} {a b : D} {xs ys : List D} : IsL s a xs → IsL s b ys → xs.length ≤ 1000000 → ys.length = xs.length → (∀ i, i < xs.length → Sam T s k (xs.getD i .non) (ys.getD i .non)) → Sam T s (k + 1) a b
section
variable {s : Store} {d : D} {xs : List D}
theorem isi_L3 (h : IsL s d xs) : isiV [3] d s = .ok (.bl true) s := by simp [isiV, tyIs, h.der]
theorem isi_L4 (h : IsL s d xs) : isiV [4] d s = .ok (.bl false) s := by simp [isiV, tyIs, h.der]
theorem isi_L43 (h : IsL s d xs) : isiV [4, 3] d s = .ok (.bl true) s := by simp [isiV, tyIs, h.der]
theorem isi_str_4 {x : Str} : isiV [4] (.str x) s = .ok (.bl false) s := rfl
theorem isi_str_3 {x : Str} : isiV [3] (.str x) s = .ok (.bl false) s := rfl
theorem isi_str_2 {x : Str} : isiV [2] (.str x) s = .ok (.bl true) s := rfl
theorem isi_str_1 {x : Str} : isiV [1] (.str x) s = .ok (.bl false) s := rfl
theorem isi_str_0 {x : Str} : isiV [0] (.str x) s = .ok (.bl false) s := rfl
theorem eq_ss {T : List Str} {neg : Bool} {x y : Str} : eqV' T neg (.str x) (.str y) s = .ok (.bl (xor neg (decide (x = y)))) s := by
  simp [eqV', deref, datD, depD, eqvD] <;> rfl
end
section
variable {tb : Tab} {W : Nat}
theorem alike2 (h44 : tb.fns 44 = some c44) (hT : 67 ≤ tb.tg.length) : ∀ (k : Nat) (a b : D) (n : Nat) (s : Store), Sam tb.tg s k a b → k + 2 ≤ n → Run tb W n 44 [a, b] s = .ok (.bl true) s := by
  intro k
  have seq : ∀ (xs ys : List D) (m : Nat) (s : Store) (x0 x1 : D), ys.length = xs.length → (∀ i, i < xs.length → idxV tb.tg x0 (.int (i : Nat)) s = .ok (xs.getD i .non) s ∧ idxV tb.tg x1 (.int (i : Nat)) s = .ok (ys.getD i .non) s) → (∀ i, i < xs.length → Run tb W (m + 1) 44 [xs.getD i .non, ys.getD i .non] s = .ok (.bl true) s) →
      compL (bindW (.name 2) [2] [some x0, some x1, none]) (evalE (GG tb W m) (.not (.call 44 (.cons (.idx (.var 0) (.var 2)) (.cons (.idx (.var 1) (.var 2)) .nil))))) (evalE (GG tb W m) (.var 2)) ((List.range xs.length).map fun (i : Nat) => D.int (i : Int)) s = .ok [] s := by
    intro xs ys m s x0 x1 hl hi hx
    refine comp_none fun y hy => ?_
    obtain ⟨i, hi', rfl⟩ := List.mem_map.mp hy
    have hlt := List.mem_range.mp hi'
    obtain ⟨a1, a2⟩ := hi i hlt
    have hr := hx i hlt
    generalize xs.getD i .non = y at *
    generalize ys.getD i .non = z at *
    exact ⟨_, rfl, by simp only [wipeD, a1, a2, hr, evA, startE, List.map_cons, List.map_nil, List.length_cons, List.length_nil, List.replicate, List.cons_append, List.nil_append, List.set_cons_zero, List.set_cons_succ, List.getElem?_cons_zero, List.getElem?_cons_succ, Nat.add_sub_cancel, Nat.sub_self, Nat.reduceAdd, Nat.reduceSub, Int.reduceAdd, Int.reduceNeg, decide_true, decide_false, Bool.false_xor, Bool.true_xor, Bool.not_true, Bool.not_false]⟩
  have ixt : ∀ (xs : List D) (i : Nat) (s : Store), i < xs.length → idxV tb.tg (.tup xs) (.int i) s = .ok (xs.getD i .non) s := fun xs i s hi => idx_tup (by rw [at_nat, List.getD_eq_getElem?_getD, List.getElem?_eq_getElem hi] <;> rfl)
  have ixl : ∀ (xs : List D) (d : D) (i : Nat) (s : Store), IsL s d xs → i < xs.length → idxV tb.tg d (.int i) s = .ok (xs.getD i .non) s := fun xs d i s hd hi => hd.ix (by rw [at_nat, List.getD_eq_getElem?_getD, List.getElem?_eq_getElem hi] <;> rfl)
  induction k with
  | zero =>
    intro a b n s hs hn
    obtain ⟨m, rfl⟩ : ∃ m, n = m + 2 := ⟨n - 2, by omega⟩
    rw [run_at h44 rfl]
    cases hs with
    | int i => simp [c44, isi_int_4, isi_int_3, isi_int_2, isi_int_1, isi_int_0, isi_int_43, isN_int, evA, startE, List.map_cons, List.map_nil, List.length_cons, List.length_nil, List.replicate, List.cons_append, List.nil_append, List.set_cons_zero, List.set_cons_succ, List.getElem?_cons_zero, List.getElem?_cons_succ, Nat.add_sub_cancel, Nat.sub_self, Nat.reduceAdd, Nat.reduceSub, Int.reduceAdd, Int.reduceNeg, decide_true, decide_false, Bool.false_xor, Bool.true_xor, Bool.not_true, Bool.not_false]
    | bl i => simp [c44, isi_bl_4, isi_bl_3, isi_bl_2, isi_bl_1, isi_bl_0, isi_bl_43, isN_bl, eq_bb, evA, startE, List.map_cons, List.map_nil, List.length_cons, List.length_nil, List.replicate, List.cons_append, List.nil_append, List.set_cons_zero, List.set_cons_succ, List.getElem?_cons_zero, List.getElem?_cons_succ, Nat.add_sub_cancel, Nat.sub_self, Nat.reduceAdd, Nat.reduceSub, Int.reduceAdd, Int.reduceNeg, decide_true, decide_false, Bool.false_xor, Bool.true_xor, Bool.not_true, Bool.not_false]
    | tag hn => simp [c44, isi_tag_4, isi_tag_3, isi_tag_2, isi_tag_1, isi_tag_0, isi_tag_43, isN_tag, eq_tt hn hn, evA, startE, List.map_cons, List.map_nil, List.length_cons, List.length_nil, List.replicate, List.cons_append, List.nil_append, List.set_cons_zero, List.set_cons_succ, List.getElem?_cons_zero, List.getElem?_cons_succ, Nat.add_sub_cancel, Nat.sub_self, Nat.reduceAdd, Nat.reduceSub, Int.reduceAdd, Int.reduceNeg, decide_true, decide_false, Bool.false_xor, Bool.true_xor, Bool.not_true, Bool.not_false]
    | str x => simp [c44, isi_str_4, isi_str_3, isi_str_2, isi_str_1, isi_str_0, isNonD, eq_ss, evA, startE, List.map_cons, List.map_nil, List.length_cons, List.length_nil, List.replicate, List.cons_append, List.nil_append, List.set_cons_zero, List.set_cons_succ, List.getElem?_cons_zero, List.getElem?_cons_succ, Nat.add_sub_cancel, Nat.sub_self, Nat.reduceAdd, Nat.reduceSub, Int.reduceAdd, Int.reduceNeg, decide_true, decide_false, Bool.false_xor, Bool.true_xor, Bool.not_true, Bool.not_false]
    | non => simp [c44, isi_non_4, isi_non_3, isi_non_2, isi_non_1, isi_non_0, isi_non_43, isN_non, evA, startE, List.map_cons, List.map_nil, List.length_cons, List.length_nil, List.replicate, List.cons_append, List.nil_append, List.set_cons_zero, List.set_cons_succ, List.getElem?_cons_zero, List.getElem?_cons_succ, Nat.add_sub_cancel, Nat.sub_self, Nat.reduceAdd, Nat.reduceSub, Int.reduceAdd, Int.reduceNeg, decide_true, decide_false, Bool.false_xor, Bool.true_xor, Bool.not_true, Bool.not_false]
  | succ k ih =>
    intro a b n s hs hn
    obtain ⟨m, rfl⟩ : ∃ m, n = m + 2 := ⟨n - 2, by omega⟩
    rw [run_at h44 rfl]
    cases hs with
    | int i => simp [c44, isi_int_4, isi_int_3, isi_int_2, isi_int_1, isi_int_0, isi_int_43, isN_int, evA, startE, List.map_cons, List.map_nil, List.length_cons, List.length_nil, List.replicate, List.cons_append, List.nil_append, List.set_cons_zero, List.set_cons_succ, List.getElem?_cons_zero, List.getElem?_cons_succ, Nat.add_sub_cancel, Nat.sub_self, Nat.reduceAdd, Nat.reduceSub, Int.reduceAdd, Int.reduceNeg, decide_true, decide_false, Bool.false_xor, Bool.true_xor, Bool.not_true, Bool.not_false]
    | bl i => simp [c44, isi_bl_4, isi_bl_3, isi_bl_2, isi_bl_1, isi_bl_0, isi_bl_43, isN_bl, eq_bb, evA, startE, List.map_cons, List.map_nil, List.length_cons, List.length_nil, List.replicate, List.cons_append, List.nil_append, List.set_cons_zero, List.set_cons_succ, List.getElem?_cons_zero, List.getElem?_cons_succ, Nat.add_sub_cancel, Nat.sub_self, Nat.reduceAdd, Nat.reduceSub, Int.reduceAdd, Int.reduceNeg, decide_true, decide_false, Bool.false_xor, Bool.true_xor, Bool.not_true, Bool.not_false]
    | tag hn => simp [c44, isi_tag_4, isi_tag_3, isi_tag_2, isi_tag_1, isi_tag_0, isi_tag_43, isN_tag, eq_tt hn hn, evA, startE, List.map_cons, List.map_nil, List.length_cons, List.length_nil, List.replicate, List.cons_append, List.nil_append, List.set_cons_zero, List.set_cons_succ, List.getElem?_cons_zero, List.getElem?_cons_succ, Nat.add_sub_cancel, Nat.sub_self, Nat.reduceAdd, Nat.reduceSub, Int.reduceAdd, Int.reduceNeg, decide_true, decide_false, Bool.false_xor, Bool.true_xor, Bool.not_true, Bool.not_false]
    | str x => simp [c44, isi_str_4, isi_str_3, isi_str_2, isi_str_1, isi_str_0, isNonD, eq_ss, evA, startE, List.map_cons, List.map_nil, List.length_cons, List.length_nil, List.replicate, List.cons_append, List.nil_append, List.set_cons_zero, List.set_cons_succ, List.getElem?_cons_zero, List.getElem?_cons_succ, Nat.add_sub_cancel, Nat.sub_self, Nat.reduceAdd, Nat.reduceSub, Int.reduceAdd, Int.reduceNeg, decide_true, decide_false, Bool.false_xor, Bool.true_xor, Bool.not_true, Bool.not_false]
    | non => simp [c44, isi_non_4, isi_non_3, isi_non_2, isi_non_1, isi_non_0, isi_non_43, isN_non, evA, startE, List.map_cons, List.map_nil, List.length_cons, List.length_nil, List.replicate, List.cons_append, List.nil_append, List.set_cons_zero, List.set_cons_succ, List.getElem?_cons_zero, List.getElem?_cons_succ, Nat.add_sub_cancel, Nat.sub_self, Nat.reduceAdd, Nat.reduceSub, Int.reduceAdd, Int.reduceNeg, decide_true, decide_false, Bool.false_xor, Bool.true_xor, Bool.not_true, Bool.not_false]
    | tup hl hl2 hx =>
      rename_i xs ys
      have hlim : -(LIM : Int) ≤ (xs.length : Int) ∧ (xs.length : Int) ≤ (LIM : Int) := by unfold LIM; omega
      have hL : ((List.range xs.length).map fun (i : Nat) => D.int (i : Int)).length ≤ LIM := by simp [LIM]; omega
      have sq := seq xs ys m s (.tup xs) (.tup ys) hl2 (fun i hi => ⟨ixt xs i s hi, ixt ys i s (by omega)⟩) (fun i hi => ih _ _ (m + 1) s (hx i hi) (by omega))
      simp [c44, isi_tup_4, isi_tup_3, isi_tup_2, isi_tup_1, isi_tup_0, isi_tup_43, isN_tup, eq_bb, hl2, rng_ok hlim, kCmpr_some hL, sq, eq_nil, evA, startE, List.map_cons, List.map_nil, List.length_cons, List.length_nil, List.replicate, List.cons_append, List.nil_append, List.set_cons_zero, List.set_cons_succ, List.getElem?_cons_zero, List.getElem?_cons_succ, Nat.add_sub_cancel, Nat.sub_self, Nat.reduceAdd, Nat.reduceSub, Int.reduceAdd, Int.reduceNeg, decide_true, decide_false, Bool.false_xor, Bool.true_xor, Bool.not_true, Bool.not_false]
    | lst ha hb hl hl2 hx =>
      rename_i xs ys
      have hlim : -(LIM : Int) ≤ (xs.length : Int) ∧ (xs.length : Int) ≤ (LIM : Int) := by unfold LIM; omega
      have hL : ((List.range xs.length).map fun (i : Nat) => D.int (i : Int)).length ≤ LIM := by simp [LIM]; omega
      have sq := seq xs ys m s a b hl2 (fun i hi => ⟨ixl xs a i s ha hi, ixl ys b i s hb (by omega)⟩) (fun i hi => ih _ _ (m + 1) s (hx i hi) (by omega))
      simp [c44, isi_L3 hb, isi_L4 hb, isi_L4 ha, isi_L43 ha, ha.len, hb.len, eq_bb, hl2, rng_ok hlim, kCmpr_some hL, sq, eq_nil, evA, startE, List.map_cons, List.map_nil, List.length_cons, List.length_nil, List.replicate, List.cons_append, List.nil_append, List.set_cons_zero, List.set_cons_succ, List.getElem?_cons_zero, List.getElem?_cons_succ, Nat.add_sub_cancel, Nat.sub_self, Nat.reduceAdd, Nat.reduceSub, Int.reduceAdd, Int.reduceNeg, decide_true, decide_false, Bool.false_xor, Bool.true_xor, Bool.not_true, Bool.not_false]
end
mutual
theorem eqvD_refl {T : List Str} {n : Nat} : ∀ d : D, datD n d = true → eqvD T d d = true
  | .non, _ => rfl
  | .bl b, _ => by simp [eqvD]
  | .int i, _ => by simp [eqvD]
  | .str x, _ => by simp [eqvD]
  | .tag k, _ => by simp [eqvD]
  | .tup xs, h => by simp only [eqvD]; exact eqvL_refl xs (by simpa [datD] using h)
  | .lst xs, h => by simp only [eqvD]; exact eqvL_refl xs (by simpa [datD] using h)
  | .frz _, h => by simp [datD] at h
  | .dct _, h => by simp [datD] at h
  | .kdt _, h => by simp [datD] at h
  | .cell _, h => by simp [datD] at h
theorem eqvL_refl {T : List Str} {n : Nat} : ∀ l : List D, datL n l = true → eqvL T l l = true
  | [], _ => rfl
  | x :: xs, h => by
    simp only [datL, Bool.and_eq_true] at h
    simp only [eqvL, eqvD_refl x h.1, eqvL_refl xs h.2, Bool.and_self]
end
end PI

namespace PI
open PySem L2
theorem Out.sim {T : Nat} (hT : 67 ≤ T) : ∀ (o : Out), (∀ t, o = .fault t → t < 67) → Sim T 1 o.d
  | .still, _ => .tup (by simp) fun x hx => by
    simp only [List.mem_singleton] at hx; subst hx; exact .tag (by omega)
  | .fault t, h => .tup (by simp) fun x hx => by
    have := h t rfl
    simp only [List.mem_cons, List.not_mem_nil, or_false] at hx
    rcases hx with rfl | rfl
    · exact .tag (by omega)
    · exact .tag (by omega)
  | .fin v, _ => .tup (by simp) fun x hx => by
    simp only [List.mem_cons, List.not_mem_nil, or_false] at hx
    rcases hx with rfl | rfl
    · exact .tag (by omega)
    · exact .int _
theorem res_sim {T : Nat} (hT : 67 ≤ T) {ms : MS} {o : Out} (h : ∀ t, o = .fault t → t < 67) (hl : ms.said.length ≤ 200000) : Sim T 2 (resD ms o) := by
  refine .tup (by simp) fun x hx => ?_
  simp only [List.mem_cons, List.not_mem_nil, or_false] at hx
  rcases hx with rfl | rfl | rfl
  · refine .tup (by rw [List.length_map]; omega) fun y hy => ?_
    obtain ⟨i, _, rfl⟩ := List.mem_map.mp hy
    exact .int i
  · exact o.sim hT h
  · exact .int _
theorem called_inl {ps : List (Int × Bd)} {b : Bd} {vs : List Int} {t : Nat} (h : called ps b vs = .inl t) : t < 67 := by
  unfold called at h
  split at h
  · split at h
    · cases h; omega
    · split at h
      · cases h; omega
      · cases h
  · cases h; omega
theorem step_out {ps : List (Int × Bd)} {ms ms' : MS} {o : Out} (e : stepM ps ms = (ms', some o)) : ms'.said = ms.said ∧ ∀ t, o = .fault t → t < 67 := by
  unfold stepM at e
  split at e
  · split at e
    · rename_i t ec
      cases e
      exact ⟨rfl, fun t ht => by cases ht; exact called_inl ec⟩
    · split at e
      · cases e
        exact ⟨by unfold pushM; split <;> rfl, fun t ht => by cases ht⟩
      · cases e
  · split at e
    · split at e
      · cases e; exact ⟨rfl, fun t ht => by cases ht; omega⟩
      · split at e
        · cases e; exact ⟨rfl, fun t ht => by cases ht⟩
        · cases e
    · split at e
      · cases e; exact ⟨rfl, fun t ht => by cases ht; omega⟩
      · cases e
    · split at e
      · cases e; exact ⟨rfl, fun t ht => by cases ht; omega⟩
      · cases e
    · cases e; exact ⟨rfl, fun t ht => by cases ht⟩
theorem out_sim {T : Nat} (hT : 67 ≤ T) {ps : List (Int × Bd)} (hp : PrOk ps) : ∀ (k : Nat) (ms : MS), MSOk ps ms → phi ms < k → Sim T 2 (outM ps k ms)
  | 0, _, _, h => by omega
  | k + 1, ms, O, h => by
    simp only [outM]
    cases e : stepM ps ms with
    | mk ms' o =>
      cases o with
      | none =>
        obtain ⟨O', hph⟩ := step_ok hp O e
        exact out_sim hT hp k ms' O' (by omega)
      | some o =>
        obtain ⟨h1, h2⟩ := step_out e
        exact res_sim hT h2 (by rw [h1]; have := O.big; omega)
theorem run_sim {T : Nat} (hT : 67 ≤ T) {ps : List (Int × Bd)} (hp : PrOk ps) {num most : Int} {args : List Int} {W : Nat} (hW : 200000 ≤ W) (a : AskOk ps num args most) : Sim T 2 (runD ps W num args most) := by
  unfold runD
  by_cases z : most - 1 < 0
  · rw [if_pos z]
    exact res_sim (ms := ⟨0, [], .turn 0 [], [], [], 0⟩) (o := .still) hT (fun t ht => by cases ht) (by simp)
  · rw [if_neg z]
    obtain ⟨O, hph⟩ := ask_ok hp a z
    exact out_sim hT hp W _ O (by omega)
structure Lib02 (tb : Tab) : Prop where
  q : LibQ tb
  l : LibL tb
  w : LibW tb
  a : LibA tb
  f44 : tb.fns 44 = some c44
section
variable {tb : Tab} {W : Nat}
end
end PI

namespace PI
open PySem L2
/-- a program, frozen or a cell -/
def IsX (s : Store) (X : D) (ps : List (Int × Bd)) : Prop := IsL s X (ps.map fun p => .tup [.int p.1, p.2.d])
theorem IsX.prd {s : Store} {ps : List (Int × Bd)} : IsX s (PrD ps) ps := .inl rfl
theorem IsX.kept {s s' : Store} {X : D} {ps : List (Int × Bd)} (h : IsX s X ps) (k : Kept s s') : IsX s' X ps := IsL.kept h k
theorem IsX.len {s : Store} {X : D} {ps : List (Int × Bd)} {T : List Str} {c : Bool} (h : IsX s X ps) : bltV T .len c [X] s = .ok (.int ps.length) s := by
  have := IsL.len (T := T) (c := c) h
  rwa [List.length_map] at this
theorem IsX.ix {s : Store} {X : D} {ps : List (Int × Bd)} {T : List Str} {i : Int} {v : D} (h : IsX s X ps) (e : atI (ps.map fun p => D.tup [.int p.1, p.2.d]) i = some v) : idxV T X (.int i) s = .ok v s := IsL.ix h e
theorem comp_cell_all {α : Type} {g : D → Option Env} {c e : Env → Store → R D} {s : Store} {k : Nat} {xs : List α} {d f : α → D} (hk : s.f k = .lst (xs.map d)) (h : ∀ x ∈ xs, ∃ env1, g (d x) = some env1 ∧ c env1 s = .ok (.bl true) s ∧ e env1 s = .ok (f x) s) :
    ∀ (n i : Nat), xs.length - i < n → compC g c e k n i s = .ok ((xs.drop i).map f) s := by
  intro n
  induction n with
  | zero => intro i h; omega
  | succ n ih =>
    intro i hn
    unfold compC
    simp only [hk]
    by_cases hl : i < xs.length
    · have e1 : (xs.map d)[i]? = some (d xs[i]) := by rw [List.getElem?_map, List.getElem?_eq_getElem hl]; rfl
      obtain ⟨env1, h1, h2, h3⟩ := h xs[i] (List.getElem_mem hl)
      simp only [e1, h1, h2, h3, R.noexc, R.bind_ok, boolK_t]
      rw [ih (i + 1) (by omega)]
      rw [List.drop_eq_getElem_cons hl]
      rfl
    · have e1 : (xs.map d)[i]? = none := List.getElem?_eq_none (by rw [List.length_map]; omega)
      simp only [e1]
      rw [List.drop_eq_nil_of_le (by omega)]
      rfl
theorem kCmpr_isL {α : Type} {G : GE} {c : Bool} {vs : List Nat} {t : CT} {t2 e : E} {env : Env} {x : D} {s : Store} {xs : List α} {d f : α → D} (hx : IsL s x (xs.map d)) (hl : xs.length < LIM) (h : ∀ y ∈ xs, ∃ env1, bindW t vs env (d y) = some env1 ∧ evalE G t2 env1 s = .ok (.bl true) s ∧ evalE G e env1 s = .ok (f y) s) :
    kCmpr G c vs t t2 e env x (itemsOf x) s = newL c (xs.map f) s := by
  rcases hx with rfl | ⟨k, rfl, _, e2⟩
  · rw [show itemsOf (.lst (xs.map d)) = some (xs.map d) from rfl, kCmpr_some (by rw [List.length_map]; omega), comp_all h, R.bind_ok]
  · show kCmpr G c vs t t2 e env (.cell k) none s = _
    rw [kCmpr_cell, comp_cell_all e2 h LIM 0 (by omega), R.bind_ok, List.drop_zero]
section
variable {tb : Tab} {W : Nat} {X : D}
theorem areArgsX (h : LibN tb) {ps : List (Int × Bd)} {number : Int} {as : List Re} {sl : Int} {n : Nat} {s : Store} (hX : IsX s X ps) (hA : ArgsOk (ps.map (·.1)) number as sl) (hl : as.length ≤ 30) (hn : 6 ≤ n) :
    Run tb W n 1 [X, .int number, .tup (as.map Re.d), .int sl] s = .ok (.bl true) s := by
  obtain ⟨m, rfl⟩ : ∃ m, n = m + 2 := ⟨n - 2, by omega⟩
  rw [run_at h.f1 rfl]
  obtain ⟨h0, h1, h2⟩ := hA
  rw [List.getElem?_map] at h1
  obtain ⟨⟨c, b⟩, h3, h4⟩ := Option.map_eq_some_iff.mp h1
  have h4 : c = as.length := h4
  have hlt : number.toNat < ps.length := (List.getElem?_eq_some_iff.mp h3).1
  have h5 : number < ps.length := by omega
  have hi : atI (ps.map fun p => D.tup [.int p.1, p.2.d]) number = some (.tup [.int c, b.d]) := by
    rw [at_i h0, List.getElem?_map, h3] <;> rfl
  have hL : (as.map Re.d).length ≤ LIM := by rw [List.length_map]; unfold LIM; omega
  simp [c1, hX.len, h0, h5, hX.ix hi, h4, kCmpr_some hL, argsComp3 h (show 4 ≤ m by omega) h2, eq_nil, evA, startE, List.map_cons, List.map_nil, List.length_cons, List.length_nil, List.replicate, List.cons_append, List.nil_append, List.set_cons_zero, List.set_cons_succ, List.getElem?_cons_zero, List.getElem?_cons_succ, Nat.add_sub_cancel, Nat.sub_self, Nat.reduceAdd, Nat.reduceSub, Int.reduceAdd, Int.reduceNeg, decide_true, decide_false, Bool.false_xor, Bool.true_xor, Bool.not_true, Bool.not_false]
theorem isCallTX (h : LibN tb) {ps : List (Int × Bd)} {number : Int} {as : List Re} {sl : Int} {n w : Nat} {r : List D} {s : Store} (hX : IsX s X ps) (hA : ArgsOk (ps.map (·.1)) number as sl) (hl : as.length ≤ 30) (hn : 7 ≤ n) (hw : w = 9 ∨ w = 11) :
    Run tb W n 2 [X, .tup (.tag w :: .int number :: .tup (as.map Re.d) :: r), .int sl] s = .ok (.bl true) s := by
  obtain ⟨m, rfl⟩ : ∃ m, n = m + 2 := ⟨n - 2, by omega⟩
  rw [run_at h.f2 rfl]
  have ht := h.tg
  have e : ¬ w = 10 := by omega
  have r1 := areArgsX (W := W) (s := s) h hX hA hl (show 6 ≤ m + 1 by omega)
  simp [c2, eq_tt (show w < tb.tg.length by omega) (show 10 < tb.tg.length by omega), e, r1, evA, startE, List.map_cons, List.map_nil, List.length_cons, List.length_nil, List.replicate, List.cons_append, List.nil_append, List.set_cons_zero, List.set_cons_succ, List.getElem?_cons_zero, List.getElem?_cons_succ, Nat.add_sub_cancel, Nat.sub_self, Nat.reduceAdd, Nat.reduceSub, Int.reduceAdd, Int.reduceNeg, decide_true, decide_false, Bool.false_xor, Bool.true_xor, Bool.not_true, Bool.not_false]
theorem isCallHX (h : LibN tb) {ps : List (Int × Bd)} {as : List Re} {e : Re} {sl : Int} {n : Nat} {s : Store} (he : e.ok sl 3) (hA : ∀ a ∈ as, a.ok sl 3) (hl : as.length ≤ 3) (hn : 7 ≤ n) :
    Run tb W n 2 [X, .tup [.tag 10, e.d, .tup (as.map Re.d)], .int sl] s = .ok (.bl true) s := by
  obtain ⟨m, rfl⟩ : ∃ m, n = m + 2 := ⟨n - 2, by omega⟩
  rw [run_at h.f2 rfl]
  have ht := h.tg
  have r1 := isrk3 (W := W) (s := s) h he (show 5 ≤ m + 1 by omega)
  have hL : (as.map Re.d).length ≤ LIM := by rw [List.length_map]; unfold LIM; omega
  have h3 : (as.length : Int) ≤ 3 := by omega
  simp [c2, eq_tt (show 10 < tb.tg.length by omega) (show 10 < tb.tg.length by omega), h.g2, h.g6, h3, r1, kCmpr_some hL, argsComp2 h (show 4 ≤ m by omega) hA, eq_nil, evA, startE, List.map_cons, List.map_nil, List.length_cons, List.length_nil, List.replicate, List.cons_append, List.nil_append, List.set_cons_zero, List.set_cons_succ, List.getElem?_cons_zero, List.getElem?_cons_succ, Nat.add_sub_cancel, Nat.sub_self, Nat.reduceAdd, Nat.reduceSub, Int.reduceAdd, Int.reduceNeg, decide_true, decide_false, Bool.false_xor, Bool.true_xor, Bool.not_true, Bool.not_false]
theorem isBodyX (h : LibN tb) {ps : List (Int × Bd)} : ∀ (k : Nat) (b : Bd) (sl : Int) (wi n : Nat) (s : Store), IsX s X ps → b.dep ≤ k → b.ok (ps.map (·.1)) sl wi → k + 9 ≤ n → Run tb W n 4 [X, b.d, .int sl, .int wi] s = .ok (.bl true) s := by
  intro k
  have step : ∀ (b : Bd) (sl : Int) (wi m : Nat) (s : Store), IsX s X ps → b.ok (ps.map (·.1)) sl wi → 7 ≤ m → (∀ x ∈ b.inner, Run tb W (m + 1) 4 [X, x.d, .int (b.slIn sl), .int ((wi : Int) + 1)] s = .ok (.bl true) s) → Run tb W (m + 2) 4 [X, b.d, .int sl, .int wi] s = .ok (.bl true) s := by
    intro b sl wi m s hX hb hm ih
    rw [run_at h.f4 rfl]
    have ht := h.tg
    have tg : ∀ i, i < 67 → i < tb.tg.length := fun i hi => by omega
    have iof := innerOf (W := W) h b (s := s) (show 2 ≤ m + 1 by omega)
    have hL : (b.inner.map Bd.d).length ≤ LIM := by have := inner_len b; rw [List.length_map]; unfold LIM; omega
    have bc := bodyComp ih (x1 := some b.d) (x2 := some (.int sl)) (x5 := none)
    cases b with
    | end_ e =>
      obtain ⟨h1, h2, h3⟩ := hb
      have ix : idxV tb.tg (.kdt [(.tag 6, .int 2), (.tag 7, .int 3), (.tag 8, .int 4), (.tag 9, .int 3), (.tag 10, .int 3), (.tag 11, .int 4)]) (.tag 6) s = .ok (.int 2) s := idx_kdt (tg 6 (by omega)) (by simp [lookD, eqvD])
      have e1 : ¬ (6 : Int) < wi := by omega
      have e2 : ¬ (8 : Int) < sl := by omega
      have r1 := isrk3 (W := W) (s := s) h h3 (show 5 ≤ m + 1 by omega)
      simp only [Bd.d, Bd.slIn, Bd.inner, List.map_cons, List.map_nil] at iof bc hL
      simp [c4, Bd.d, h.g3, h.g5, h.g6, h.g8, flatD, lookD, eqvD, e1, e2, r1, iof, kCmpr_some hL, bc, eq_nil, b2z, in_tup (T := tb.tg), in_kdt (tg 6 (by omega)), ix, eq_tt (tg 6 (by omega)) (tg 11 (by omega)), evA, startE, List.map_cons, List.map_nil, List.length_cons, List.length_nil, List.replicate, List.cons_append, List.nil_append, List.set_cons_zero, List.set_cons_succ, List.getElem?_cons_zero, List.getElem?_cons_succ, Nat.add_sub_cancel, Nat.sub_self, Nat.reduceAdd, Nat.reduceSub, Int.reduceAdd, Int.reduceNeg, decide_true, decide_false, Bool.false_xor, Bool.true_xor, Bool.not_true, Bool.not_false]
    | say e b =>
      obtain ⟨h1, h2, h3, _⟩ := hb
      have ix : idxV tb.tg (.kdt [(.tag 6, .int 2), (.tag 7, .int 3), (.tag 8, .int 4), (.tag 9, .int 3), (.tag 10, .int 3), (.tag 11, .int 4)]) (.tag 7) s = .ok (.int 3) s := idx_kdt (tg 7 (by omega)) (by simp [lookD, eqvD])
      have e1 : ¬ (6 : Int) < wi := by omega
      have e2 : ¬ (8 : Int) < sl := by omega
      have r1 := isrk3 (W := W) (s := s) h h3 (show 5 ≤ m + 1 by omega)
      simp only [Bd.d, Bd.slIn, Bd.inner, List.map_cons, List.map_nil] at iof bc hL
      simp [c4, Bd.d, h.g3, h.g5, h.g6, h.g8, flatD, lookD, eqvD, e1, e2, r1, iof, kCmpr_some hL, bc, eq_nil, b2z, in_tup (T := tb.tg), in_kdt (tg 7 (by omega)), ix, eq_tt (tg 7 (by omega)) (tg 11 (by omega)), evA, startE, List.map_cons, List.map_nil, List.length_cons, List.length_nil, List.replicate, List.cons_append, List.nil_append, List.set_cons_zero, List.set_cons_succ, List.getElem?_cons_zero, List.getElem?_cons_succ, Nat.add_sub_cancel, Nat.sub_self, Nat.reduceAdd, Nat.reduceSub, Int.reduceAdd, Int.reduceNeg, decide_true, decide_false, Bool.false_xor, Bool.true_xor, Bool.not_true, Bool.not_false]
    | if_ e a b =>
      obtain ⟨h1, h2, h3, _⟩ := hb
      have ix : idxV tb.tg (.kdt [(.tag 6, .int 2), (.tag 7, .int 3), (.tag 8, .int 4), (.tag 9, .int 3), (.tag 10, .int 3), (.tag 11, .int 4)]) (.tag 8) s = .ok (.int 4) s := idx_kdt (tg 8 (by omega)) (by simp [lookD, eqvD])
      have e1 : ¬ (6 : Int) < wi := by omega
      have e2 : ¬ (8 : Int) < sl := by omega
      have r1 := isrk3 (W := W) (s := s) h h3 (show 5 ≤ m + 1 by omega)
      simp only [Bd.d, Bd.slIn, Bd.inner, List.map_cons, List.map_nil] at iof bc hL
      simp [c4, Bd.d, h.g3, h.g5, h.g6, h.g8, flatD, lookD, eqvD, e1, e2, r1, iof, kCmpr_some hL, bc, eq_nil, b2z, in_tup (T := tb.tg), in_kdt (tg 8 (by omega)), ix, eq_tt (tg 8 (by omega)) (tg 11 (by omega)), evA, startE, List.map_cons, List.map_nil, List.length_cons, List.length_nil, List.replicate, List.cons_append, List.nil_append, List.set_cons_zero, List.set_cons_succ, List.getElem?_cons_zero, List.getElem?_cons_succ, Nat.add_sub_cancel, Nat.sub_self, Nat.reduceAdd, Nat.reduceSub, Int.reduceAdd, Int.reduceNeg, decide_true, decide_false, Bool.false_xor, Bool.true_xor, Bool.not_true, Bool.not_false]
    | turn q as =>
      obtain ⟨h1, h2, h3, h4⟩ := hb
      have ix : idxV tb.tg (.kdt [(.tag 6, .int 2), (.tag 7, .int 3), (.tag 8, .int 4), (.tag 9, .int 3), (.tag 10, .int 3), (.tag 11, .int 4)]) (.tag 9) s = .ok (.int 3) s := idx_kdt (tg 9 (by omega)) (by simp [lookD, eqvD])
      have e1 : ¬ (6 : Int) < wi := by omega
      have e2 : ¬ (8 : Int) < sl := by omega
      have r1 := isCallTX (W := W) (s := s) (w := 9) (r := []) h hX h4 h3 (show 7 ≤ m + 1 by omega) (.inl rfl)
      simp only [Bd.d, Bd.slIn, Bd.inner, List.map_cons, List.map_nil] at iof bc hL
      simp [c4, Bd.d, h.g3, h.g5, h.g6, h.g8, flatD, lookD, eqvD, e1, e2, r1, iof, kCmpr_some hL, bc, eq_nil, b2z, in_tup (T := tb.tg), in_kdt (tg 9 (by omega)), ix, eq_tt (tg 9 (by omega)) (tg 11 (by omega)), evA, startE, List.map_cons, List.map_nil, List.length_cons, List.length_nil, List.replicate, List.cons_append, List.nil_append, List.set_cons_zero, List.set_cons_succ, List.getElem?_cons_zero, List.getElem?_cons_succ, Nat.add_sub_cancel, Nat.sub_self, Nat.reduceAdd, Nat.reduceSub, Int.reduceAdd, Int.reduceNeg, decide_true, decide_false, Bool.false_xor, Bool.true_xor, Bool.not_true, Bool.not_false]
    | through e as =>
      obtain ⟨h1, h2, h3, h4, h5⟩ := hb
      have ix : idxV tb.tg (.kdt [(.tag 6, .int 2), (.tag 7, .int 3), (.tag 8, .int 4), (.tag 9, .int 3), (.tag 10, .int 3), (.tag 11, .int 4)]) (.tag 10) s = .ok (.int 3) s := idx_kdt (tg 10 (by omega)) (by simp [lookD, eqvD])
      have e1 : ¬ (6 : Int) < wi := by omega
      have e2 : ¬ (8 : Int) < sl := by omega
      have r1 := isCallHX (W := W) (s := s) (X := X) (ps := ps) h h4 h5 h3 (show 7 ≤ m + 1 by omega)
      simp only [Bd.d, Bd.slIn, Bd.inner, List.map_cons, List.map_nil] at iof bc hL
      simp [c4, Bd.d, h.g3, h.g5, h.g6, h.g8, flatD, lookD, eqvD, e1, e2, r1, iof, kCmpr_some hL, bc, eq_nil, b2z, in_tup (T := tb.tg), in_kdt (tg 10 (by omega)), ix, eq_tt (tg 10 (by omega)) (tg 11 (by omega)), evA, startE, List.map_cons, List.map_nil, List.length_cons, List.length_nil, List.replicate, List.cons_append, List.nil_append, List.set_cons_zero, List.set_cons_succ, List.getElem?_cons_zero, List.getElem?_cons_succ, Nat.add_sub_cancel, Nat.sub_self, Nat.reduceAdd, Nat.reduceSub, Int.reduceAdd, Int.reduceNeg, decide_true, decide_false, Bool.false_xor, Bool.true_xor, Bool.not_true, Bool.not_false]
    | with_ q as b =>
      obtain ⟨h1, h2, h3, h4, _⟩ := hb
      have ix : idxV tb.tg (.kdt [(.tag 6, .int 2), (.tag 7, .int 3), (.tag 8, .int 4), (.tag 9, .int 3), (.tag 10, .int 3), (.tag 11, .int 4)]) (.tag 11) s = .ok (.int 4) s := idx_kdt (tg 11 (by omega)) (by simp [lookD, eqvD])
      have e1 : ¬ (6 : Int) < wi := by omega
      have e2 : ¬ (8 : Int) < sl + 1 := by omega
      have r1 := isCallTX (W := W) (s := s) (w := 11) (r := [b.d]) h hX h4 h3 (show 7 ≤ m + 1 by omega) (.inr rfl)
      simp only [Bd.d, Bd.slIn, Bd.inner, List.map_cons, List.map_nil] at iof bc hL
      simp [c4, Bd.d, h.g3, h.g5, h.g6, h.g8, flatD, lookD, eqvD, e1, e2, r1, iof, kCmpr_some hL, bc, eq_nil, b2z, in_tup (T := tb.tg), in_kdt (tg 11 (by omega)), ix, eq_tt (tg 11 (by omega)) (tg 11 (by omega)), evA, startE, List.map_cons, List.map_nil, List.length_cons, List.length_nil, List.replicate, List.cons_append, List.nil_append, List.set_cons_zero, List.set_cons_succ, List.getElem?_cons_zero, List.getElem?_cons_succ, Nat.add_sub_cancel, Nat.sub_self, Nat.reduceAdd, Nat.reduceSub, Int.reduceAdd, Int.reduceNeg, decide_true, decide_false, Bool.false_xor, Bool.true_xor, Bool.not_true, Bool.not_false]
  induction k with
  | zero =>
    intro b sl wi n s hX hd hb hn
    obtain ⟨m, rfl⟩ : ∃ m, n = m + 2 := ⟨n - 2, by omega⟩
    exact step b sl wi m s hX hb (by omega) fun x hx => by have := inner_dep hx; omega
  | succ k ih =>
    intro b sl wi n s hX hd hb hn
    obtain ⟨m, rfl⟩ : ∃ m, n = m + 2 := ⟨n - 2, by omega⟩
    refine step b sl wi m s hX hb (by omega) fun x hx => ?_
    have := inner_dep hx
    exact ih x _ (wi + 1) (m + 1) s hX (by omega) (inner_ok hb x hx) (by omega)
theorem needProgramX (h : LibN tb) {ps : List (Int × Bd)} (hp : PrOk ps) {n : Nat} {s : Store} (hX : IsX s X ps) (hn : 20 ≤ n) : Run tb W n 6 [X] s = .ok .non s := by
  obtain ⟨m, rfl⟩ : ∃ m, n = m + 2 := ⟨n - 2, by omega⟩
  rw [run_at h.f6 rfl]
  obtain ⟨⟨l1, l2⟩, ok⟩ := hp
  have l1' : (1 : Int) ≤ ps.length := by omega
  have l2' : (ps.length : Int) ≤ 5 := by omega
  have lim : -(LIM : Int) ≤ (ps.length : Int) ∧ (ps.length : Int) ≤ (LIM : Int) := by unfold LIM; omega
  have loop : ∀ (ks : List Nat), (∀ k ∈ ks, k < ps.length) → ∀ (x1 x2 x3 : Option D), ∃ y1 y2 y3, forL (bindC (.name 1)) (evalSs (GG tb W m) (.cons (.asgT [(.name 2), (.name 3)] (.idx (.var 0) (.var 1))) (.cons (.ite (.or (.not (.chain .le .le (.cst (.int (0))) (.var 2) (.glob 2))) (.or (.not (.call 4 (.cons (.var 0) (.cons (.var 3) (.cons (.var 2) (.cons (.cst (.int (0))) .nil)))))) (.cmp .gt (.call 5 (.cons (.var 3) .nil)) (.glob 4)))) (.cons .never .nil) .nil) .nil))) (ks.map fun (i : Nat) => D.int (i : Int)) [some X, x1, x2, x3] s = .ok (.nx [some X, y1, y2, y3]) s := by
    intro ks
    induction ks with
    | nil => intro _ x1 x2 x3; exact ⟨x1, x2, x3, rfl⟩
    | cons k ks ih =>
      intro hk x1 x2 x3
      have hk1 := hk k List.mem_cons_self
      obtain ⟨y1, y2, y3, e⟩ := ih (fun j hj => hk j (List.mem_cons_of_mem _ hj)) (some (.int k)) (some (.int ps[k].1)) (some ps[k].2.d)
      refine ⟨y1, y2, y3, ?_⟩
      obtain ⟨p1, p2, p3, p4⟩ := ok ps[k] (List.getElem_mem hk1)
      have hi : atI (ps.map fun p => D.tup [.int p.1, p.2.d]) (k : Int) = some (.tup [.int ps[k].1, ps[k].2.d]) := by
        rw [at_nat, List.getElem?_map, List.getElem?_eq_getElem hk1] <;> rfl
      have hd := ok_dep _ _ _ p3
      have r1 := isBodyX (W := W) h (ps := ps) 6 ps[k].2 ps[k].1 0 (m + 1) s hX (by omega) p3 (by omega)
      have r2 := partsIn (W := W) h 6 ps[k].2 (m + 1) s (by omega) (by omega)
      have p4' : ¬ (30 : Int) < ps[k].2.parts := by omega
      rw [List.map_cons, for_cons (env1 := [some X, some (.int k), x2, x3]) rfl]
      have ix : idxV tb.tg X (.int k) s = .ok (.tup [.int ps[k].1, ps[k].2.d]) s := hX.ix hi
      have r1' : Run tb W (m + 1) 4 [X, ps[k].2.d, .int ps[k].1, .int 0] s = .ok (.bl true) s := r1
      simp [ix, kAsgT_tup, p1, p2, r1', r2, p4', h.g2, h.g4, forK1_nx, e, evA, startE, List.map_cons, List.map_nil, List.length_cons, List.length_nil, List.replicate, List.cons_append, List.nil_append, List.set_cons_zero, List.set_cons_succ, List.getElem?_cons_zero, List.getElem?_cons_succ, Nat.add_sub_cancel, Nat.sub_self, Nat.reduceAdd, Nat.reduceSub, Int.reduceAdd, Int.reduceNeg, decide_true, decide_false, Bool.false_xor, Bool.true_xor, Bool.not_true, Bool.not_false]
  obtain ⟨y1, y2, y3, e⟩ := loop (List.range ps.length) (fun k hk => List.mem_range.mp hk) none none none
  have hlen : bltV tb.tg .len false [X] s = .ok (.int ps.length) s := hX.len
  simp [c6, h.g1, hlen, l1', l2', rng_ok lim, e, evA, startE, List.map_cons, List.map_nil, List.length_cons, List.length_nil, List.replicate, List.cons_append, List.nil_append, List.set_cons_zero, List.set_cons_succ, List.getElem?_cons_zero, List.getElem?_cons_succ, Nat.add_sub_cancel, Nat.sub_self, Nat.reduceAdd, Nat.reduceSub, Int.reduceAdd, Int.reduceNeg, decide_true, decide_false, Bool.false_xor, Bool.true_xor, Bool.not_true, Bool.not_false]
def walkX (X : D) (ps : List (Int × Bd)) (t p : Nat) (slots : List Int) (b : D) (o : D) : Cell := .ins 1 [(5, X), (6, .lst (ps.map fun q => .int q.1)), (7, .cell t), (8, .cell p), (9, .lst (slots.map .int)), (10, b), (11, o)]
theorem walkIX (h : LibW tb) {n k t : Nat} {ps : List (Int × Bd)} {s : Store} (hX : ∀ c, IsX (s.set k c) X ps) (hl : ps.length ≤ 5) (hk : s.f k = .ins 1 []) (hkn : k < s.n) (hn : 2 ≤ n) : Run tb W n 34 [.cell k, X, .cell t] s = .ok .non ((s.new (.lst [])).set k (walkX X ps t s.n [] .non .non)) := by
  obtain ⟨m, rfl⟩ : ∃ m, n = m + 2 := ⟨n - 2, by omega⟩
  rw [run_at h.f34 rfl]
  unfold walkX at *
  have ne : k ≠ s.n := by omega
  have cw : ∀ (x0 x1 x2 : Option D) (c : Cell), kCmpr (GG tb W m) false [3] (.name 3) (.cst (.bl true)) (.idx (.var 3) (.cst (.int 0))) [x0, x1, x2, none] X (itemsOf X) (s.set k c) = newL false (ps.map fun q => .int q.1) (s.set k c) := fun x0 x1 x2 c =>
    kCmpr_isL (xs := ps) (d := fun (p : Int × Bd) => D.tup [.int p.1, p.2.d]) (f := fun (q : Int × Bd) => .int q.1) (hX c) (by unfold LIM; omega) fun e he => ⟨_, rfl, by simp [evA, startE, List.map_cons, List.map_nil, List.length_cons, List.length_nil, List.replicate, List.cons_append, List.nil_append, List.set_cons_zero, List.set_cons_succ, List.getElem?_cons_zero, List.getElem?_cons_succ, Nat.add_sub_cancel, Nat.sub_self, Nat.reduceAdd, Nat.reduceSub, Int.reduceAdd, Int.reduceNeg, decide_true, decide_false, Bool.false_xor, Bool.true_xor, Bool.not_true, Bool.not_false], by simp [wipeD, evA, startE, List.map_cons, List.map_nil, List.length_cons, List.length_nil, List.replicate, List.cons_append, List.nil_append, List.set_cons_zero, List.set_cons_succ, List.getElem?_cons_zero, List.getElem?_cons_succ, Nat.add_sub_cancel, Nat.sub_self, Nat.reduceAdd, Nat.reduceSub, Int.reduceAdd, Int.reduceNeg, decide_true, decide_false, Bool.false_xor, Bool.true_xor, Bool.not_true, Bool.not_false]⟩
  simp [c34, hk, newLt, new_f, ne, putN, fldS_ins, cw, set_new ne, evA, startE, List.map_cons, List.map_nil, List.length_cons, List.length_nil, List.replicate, List.cons_append, List.nil_append, List.set_cons_zero, List.set_cons_succ, List.getElem?_cons_zero, List.getElem?_cons_succ, Nat.add_sub_cancel, Nat.sub_self, Nat.reduceAdd, Nat.reduceSub, Int.reduceAdd, Int.reduceNeg, decide_true, decide_false, Bool.false_xor, Bool.true_xor, Bool.not_true, Bool.not_false]
theorem callWX (h : LibW tb) {ps : List (Int × Bd)} {n k t p w : Nat} {slots xs : List Int} {b o : D} {left waits deep v : Int} {l : Int} {b2 : D} {s : Store} (hX : ∀ c c2, IsX ((s.set t c).set k c2) X ps) (hk : s.f k = walkX X ps t p slots b o) (ht : s.f t = talkC w left waits deep) (htk : t ≠ k) (hv : atI (ps.map fun p => D.tup [.int p.1, p.2.d]) v = some (.tup [.int l, b2])) (hn : 3 ≤ n) :
    Run tb W n 35 [.cell k, .int v, .lst (xs.map .int)] s = .ok .non ((s.set t (talkC w (left - 1) waits deep)).set k (if 1 ≤ left then walkX X ps t p xs b2 o else walkX X ps t p slots b Out.still.d)) := by
  obtain ⟨m, rfl⟩ : ∃ m, n = m + 2 := ⟨n - 2, by omega⟩
  rw [run_at h.f35 rfl]
  have bg := begin_ (W := W) h.toLibT ht (show 2 ≤ m + 1 by omega)
  have ix : ∀ c c2, idxV tb.tg X (.int v) ((s.set t c).set k c2) = .ok (.tup [.int l, b2]) ((s.set t c).set k c2) := fun c c2 => (hX c c2).ix hv
  have ne2 : k ≠ t := fun e => htk e.symm
  by_cases q : 1 ≤ left
  · rw [decide_eq_true q] at bg
    unfold walkX at *
    unfold talkC at *
    simp [c35, hk, lookN, putN, ht, h.m01, fldS_ins, set_f, ne2, q, ix, list_lst, bg, evA, startE, List.map_cons, List.map_nil, List.length_cons, List.length_nil, List.replicate, List.cons_append, List.nil_append, List.set_cons_zero, List.set_cons_succ, List.getElem?_cons_zero, List.getElem?_cons_succ, Nat.add_sub_cancel, Nat.sub_self, Nat.reduceAdd, Nat.reduceSub, Int.reduceAdd, Int.reduceNeg, decide_true, decide_false, Bool.false_xor, Bool.true_xor, Bool.not_true, Bool.not_false]
  · rw [decide_eq_false q] at bg
    unfold walkX at *
    unfold talkC at *
    simp [c35, hk, lookN, putN, ht, h.m01, fldS_ins, set_f, ne2, q, ix, list_lst, bg, Out.d, evA, startE, List.map_cons, List.map_nil, List.length_cons, List.length_nil, List.replicate, List.cons_append, List.nil_append, List.set_cons_zero, List.set_cons_succ, List.getElem?_cons_zero, List.getElem?_cons_succ, Nat.add_sub_cancel, Nat.sub_self, Nat.reduceAdd, Nat.reduceSub, Int.reduceAdd, Int.reduceNeg, decide_true, decide_false, Bool.false_xor, Bool.true_xor, Bool.not_true, Bool.not_false]
structure WRX (X : D) (ps : List (Int × Bd)) (s0 s : Store) (w p t k : Nat) (ms : MS) (o : Option Out) : Prop where
  hw : s.f w = .lst (ms.said.map .int)
  hp : s.f p = .lst (pileD ms.pile)
  ht : s.f t = talkC w ms.left ms.pile.length ms.deep
  hk : s.f k = walkX X ps t p ms.slots ms.body.d (outD o)
  ne : w ≠ p ∧ w ≠ t ∧ w ≠ k ∧ p ≠ t ∧ p ≠ k ∧ t ≠ k
  n : s0.n ≤ w ∧ s0.n ≤ p ∧ s0.n ≤ t ∧ s0.n ≤ k
  chg : Chg (fun _ => False) s0 s
section
variable {ps : List (Int × Bd)} {s0 s : Store} {w p t k : Nat} {ms : MS}
theorem WRX.out (R : WRX X ps s0 s w p t k ms none) (o : Out) : WRX X ps s0 (s.set k (walkX X ps t p ms.slots ms.body.d o.d)) w p t k ms (some o) := by
  obtain ⟨n1, n2, n3, n4, n5, n6⟩ := R.ne
  exact ⟨by rw [set_f, if_neg n3]; exact R.hw, by rw [set_f, if_neg n5]; exact R.hp, by rw [set_f, if_neg n6]; exact R.ht, by rw [set_same] <;> rfl, R.ne, R.n, R.chg.setNew R.n.2.2.2⟩
theorem WRX.call (R : WRX X ps s0 s w p t k ms none) (xs : List Int) (b : Bd) : WRX X ps s0 ((s.set t (talkC w (ms.left - 1) ms.pile.length ms.deep)).set k (if 1 ≤ ms.left then walkX X ps t p xs b.d .non else walkX X ps t p ms.slots ms.body.d Out.still.d)) w p t k
    (if 1 ≤ ms.left then { ms with left := ms.left - 1, slots := xs, body := b } else { ms with left := ms.left - 1 }) (if 1 ≤ ms.left then none else some .still) := by
  obtain ⟨n1, n2, n3, n4, n5, n6⟩ := R.ne
  by_cases q : 1 ≤ ms.left
  · simp only [if_pos q]
    exact ⟨by rw [set_f, if_neg n3, set_f, if_neg n2]; exact R.hw, by rw [set_f, if_neg n5, set_f, if_neg n4]; exact R.hp, by rw [set_f, if_neg n6, set_same], by rw [set_same] <;> rfl, R.ne, R.n, (R.chg.setNew R.n.2.2.1).setNew R.n.2.2.2⟩
  · simp only [if_neg q]
    exact ⟨by rw [set_f, if_neg n3, set_f, if_neg n2]; exact R.hw, by rw [set_f, if_neg n5, set_f, if_neg n4]; exact R.hp, by rw [set_f, if_neg n6, set_same], by rw [set_same] <;> rfl, R.ne, R.n, (R.chg.setNew R.n.2.2.1).setNew R.n.2.2.2⟩
theorem WRX.body (R : WRX X ps s0 s w p t k ms none) (b : Bd) : WRX X ps s0 (s.set k (walkX X ps t p ms.slots b.d .non)) w p t k { ms with body := b } none := by
  obtain ⟨n1, n2, n3, n4, n5, n6⟩ := R.ne
  exact ⟨by rw [set_f, if_neg n3]; exact R.hw, by rw [set_f, if_neg n5]; exact R.hp, by rw [set_f, if_neg n6]; exact R.ht, by rw [set_same] <;> rfl, R.ne, R.n, R.chg.setNew R.n.2.2.2⟩
theorem WRX.say (R : WRX X ps s0 s w p t k ms none) (v : Int) (b : Bd) : WRX X ps s0 ((s.set w (.lst (ms.said.map .int ++ [.int v]))).set k (walkX X ps t p ms.slots b.d .non)) w p t k { ms with said := ms.said ++ [v], body := b } none := by
  obtain ⟨n1, n2, n3, n4, n5, n6⟩ := R.ne
  exact ⟨by rw [set_f, if_neg n3, set_same]; simp, by rw [set_f, if_neg n5, set_f, if_neg (Ne.symm n1)]; exact R.hp, by rw [set_f, if_neg n6, set_f, if_neg (Ne.symm n2)]; exact R.ht, by rw [set_same] <;> rfl, R.ne, R.n, (R.chg.setNew R.n.1).setNew R.n.2.2.2⟩
theorem WRX.push (R : WRX X ps s0 s w p t k ms none) {q : Int} {as : List Re} {b : Bd} (hb : ms.body = .with_ q as b) : WRX X ps s0 ((s.set p (.lst (pileD ms.pile ++ [.tup [.lst (ms.slots.map .int), b.d]]))).set t (talkC w ms.left (ms.pile.length + 1) (if ms.deep < (ms.pile.length : Int) + 1 then (ms.pile.length : Int) + 1 else ms.deep))) w p t k (pushM ms) none := by
  obtain ⟨n1, n2, n3, n4, n5, n6⟩ := R.ne
  have e : pushM ms = { ms with pile := ms.pile ++ [(ms.slots, b)], deep := if (ms.pile.length + 1 : Int) > ms.deep then (ms.pile.length + 1 : Int) else ms.deep } := by unfold pushM; rw [hb]
  rw [e]
  exact ⟨by rw [set_f, if_neg n2, set_f, if_neg n1]; exact R.hw, by rw [set_f, if_neg n4, set_same, pileD_app], by rw [set_same]; simp, by rw [set_f, if_neg (Ne.symm n6), set_f, if_neg (Ne.symm n5)]; exact R.hk, R.ne, R.n, (R.chg.setNew R.n.2.1).setNew R.n.2.2.1⟩
end
theorem WRX.pop {ps : List (Int × Bd)} {s0 s : Store} {w p t k : Nat} {ms : MS} (R : WRX X ps s0 s w p t k ms none) (l : List (List Int × Bd)) (xs : List Int) (b : Bd) : WRX X ps s0 (((s.set p (.lst (pileD l))).set k (walkX X ps t p xs b.d .non)).set t (talkC w ms.left l.length ms.deep)) w p t k { ms with pile := l, slots := xs, body := b } none := by
  obtain ⟨n1, n2, n3, n4, n5, n6⟩ := R.ne
  exact ⟨by rw [set_f, if_neg n2, set_f, if_neg n3, set_f, if_neg n1]; exact R.hw, by rw [set_f, if_neg n4, set_f, if_neg n5, set_same], by rw [set_same], by rw [set_f, if_neg (Ne.symm n6), set_same] <;> rfl, R.ne, R.n, ((R.chg.setNew R.n.2.1).setNew R.n.2.2.2).setNew R.n.2.2.1⟩
theorem throughX (h : LibW tb) {ps : List (Int × Bd)} (hp : PrOk ps) {s0 s : Store} {w p t k n : Nat} {ms : MS} {e : Re} {as : List Re} {v : Int} (hX : IsX s0 X ps) (R : WRX X ps s0 s w p t k ms none) (O : MSOk ps ms) (hb : ms.body = .through e as) (hv : ev e ms.slots = some v) (hn : 12 ≤ n) :
    wp (Run tb W n 38 [.cell k, .int v] s) fun d s' => d = .non ∧ WRX X ps s0 s' w p t k (stepM ps ms).1 (stepM ps ms).2 := by
  obtain ⟨m, rfl⟩ : ∃ m, n = m + 2 := ⟨n - 2, by omega⟩
  rw [run_at h.f38 rfl]
  obtain ⟨n1, n2, n3, n4, n5, n6⟩ := R.ne
  obtain ⟨wi, ob⟩ := O.body
  rw [hb] at ob
  obtain ⟨o1, o2, o3, o4, o5⟩ := ob
  have v0 := (ev_ok O.vs e o4 hv).1
  have hk := R.hk
  rw [hb] at hk
  have ar := allReckoned (W := W) (s := s) (n := m + 1) h.e O.vs o5 (by omega) (by omega) true
  simp only [if_true] at ar
  have cl : called ps ms.body ms.slots = calledN ps (some v) (evs as ms.slots) := by rw [hb]; simp only [called, callee, argsOf, hv, calledN]
  have isc : isCal ms.body = true := by rw [hb]; rfl
  have setk : ∀ (o : D), s.set k (walkX X ps t p ms.slots (Bd.through e as).d o) = s.set k (walkX X ps t p ms.slots ms.body.d o) := fun o => by rw [hb]
  cases q : evs as ms.slots with
  | none =>
    rw [q] at ar cl
    simp only [oDs] at ar
    have st : stepM ps ms = (ms, some (.fault 3)) := by unfold stepM; rw [isc]; simp only [cl, calledN]
    rw [st]
    have ro := R.out (.fault 3)
    rw [hb] at ro
    unfold walkX at hk ro
    simp [c38, hk, lookN, putN, Bd.d, ar, nonN, h.g10, fldS_ins, evA, startE, List.map_cons, List.map_nil, List.length_cons, List.length_nil, List.replicate, List.cons_append, List.nil_append, List.set_cons_zero, List.set_cons_succ, List.getElem?_cons_zero, List.getElem?_cons_succ, Nat.add_sub_cancel, Nat.sub_self, Nat.reduceAdd, Nat.reduceSub, Int.reduceAdd, Int.reduceNeg, decide_true, decide_false, Bool.false_xor, Bool.true_xor, Bool.not_true, Bool.not_false]
    exact ro
  | some xs =>
    rw [q] at ar cl
    simp only [oDs] at ar
    have fo := faultOf (W := W) (s := s) (ps := ps) (xs := xs) (n := m + 1) h.f21 v0 (by omega)
    by_cases t1 : (ps.length : Int) ≤ v
    · have st : stepM ps ms = (ms, some (.fault 17)) := by unfold stepM; rw [isc]; simp only [cl, calledN, if_pos t1]
      rw [st]
      rw [if_pos t1] at fo
      have ro := R.out (.fault 17)
      rw [hb] at ro
      unfold walkX at hk ro
      simp [c38, hk, lookN, putN, Bd.d, ar, fo, isNonD, fldS_ins, evA, startE, List.map_cons, List.map_nil, List.length_cons, List.length_nil, List.replicate, List.cons_append, List.nil_append, List.set_cons_zero, List.set_cons_succ, List.getElem?_cons_zero, List.getElem?_cons_succ, Nat.add_sub_cancel, Nat.sub_self, Nat.reduceAdd, Nat.reduceSub, Int.reduceAdd, Int.reduceNeg, decide_true, decide_false, Bool.false_xor, Bool.true_xor, Bool.not_true, Bool.not_false]
      exact ro
    · rw [if_neg t1] at fo
      by_cases t2 : (ps.map (·.1)).getD v.toNat 0 ≠ xs.length
      · have st : stepM ps ms = (ms, some (.fault 18)) := by unfold stepM; rw [isc]; simp only [cl, calledN, if_neg t1, if_pos t2]
        rw [st]
        rw [if_pos t2] at fo
        have ro := R.out (.fault 18)
        rw [hb] at ro
        unfold walkX at hk ro
        simp [c38, hk, lookN, putN, Bd.d, ar, fo, isNonD, fldS_ins, evA, startE, List.map_cons, List.map_nil, List.length_cons, List.length_nil, List.replicate, List.cons_append, List.nil_append, List.set_cons_zero, List.set_cons_succ, List.getElem?_cons_zero, List.getElem?_cons_succ, Nat.add_sub_cancel, Nat.sub_self, Nat.reduceAdd, Nat.reduceSub, Int.reduceAdd, Int.reduceNeg, decide_true, decide_false, Bool.false_xor, Bool.true_xor, Bool.not_true, Bool.not_false]
        exact ro
      · rw [if_neg t2] at fo
        have cl2 : called ps ms.body ms.slots = .inr (v, xs) := by rw [cl]; simp only [calledN, if_neg t1, if_neg t2]
        obtain ⟨q0, q1, q2, q3, q4, q5, q6, q7⟩ := called_inr O.vs hp (by rw [hb]; exact ⟨o1, o2, o3, o4, o5⟩ : ms.body.ok (ps.map (·.1)) ms.slots.length wi) isc cl2
        have cw := callWX (W := W) (n := m + 1) h (fun c c2 => hX.kept ((R.chg.setNew R.n.2.2.1).setNew R.n.2.2.2)) R.hk R.ht n6 q7 (xs := xs) (by omega)
        have rc := R.call xs (bodyAt ps v)
        have st : stepM ps ms = ((if 1 ≤ ms.left then { ms with left := ms.left - 1, slots := xs, body := bodyAt ps v } else { ms with left := ms.left - 1 }), (if 1 ≤ ms.left then none else some .still)) := by
          unfold stepM
          rw [isc]
          simp only [cl2]
          have pm : pushM ms = ms := by unfold pushM; rw [hb]
          by_cases z : 1 ≤ ms.left
          · rw [if_neg (by omega), if_pos z, if_pos z, pm]
          · rw [if_pos (by omega), if_neg z, if_neg z, pm]
        rw [st]
        have hk2 := hk
        unfold walkX at hk2
        simp [c38, hk2, lookN, putN, Bd.d, ar, fo, isNonD, mthC_ins, h.m15, cw, outD, evA, startE, List.map_cons, List.map_nil, List.length_cons, List.length_nil, List.replicate, List.cons_append, List.nil_append, List.set_cons_zero, List.set_cons_succ, List.getElem?_cons_zero, List.getElem?_cons_succ, Nat.add_sub_cancel, Nat.sub_self, Nat.reduceAdd, Nat.reduceSub, Int.reduceAdd, Int.reduceNeg, decide_true, decide_false, Bool.false_xor, Bool.true_xor, Bool.not_true, Bool.not_false]
        exact rc
theorem plainX (h : LibW tb) {ps : List (Int × Bd)} (hp : PrOk ps) {s0 s : Store} {w p t k n : Nat} {ms : MS} {v : Int} (hX : IsX s0 X ps) (R : WRX X ps s0 s w p t k ms none) (O : MSOk ps ms) (hb : isPl ms.body = true) (hv : ev (wordE ms.body).2 ms.slots = some v) (hn : 13 ≤ n) :
    wp (Run tb W n 37 [.cell k, .tag (wordE ms.body).1, .int v] s) fun d s' => d = .non ∧ WRX X ps s0 s' w p t k (stepM ps ms).1 (stepM ps ms).2 := by
  obtain ⟨m, rfl⟩ : ∃ m, n = m + 2 := ⟨n - 2, by omega⟩
  rw [run_at h.f37 rfl]
  obtain ⟨n1, n2, n3, n4, n5, n6⟩ := R.ne
  have ht := h.tg
  have tg : ∀ i, i < 67 → i < tb.tg.length := fun i hi => by omega
  have hT := h.tg
  have hsl : (ms.said.map D.int).length < LIM := by have := O.big; rw [List.length_map]; unfold LIM; omega
  obtain ⟨wi, ob⟩ := O.body
  have hk := R.hk
  have htt := R.ht
  have hw := R.hw
  have hpp := R.hp
  have pd := pile_dat (T := tb.tg.length) hT O.pile
  cases hbd : ms.body with
  | turn q as => rw [hbd] at hb; cases hb
  | with_ q as b => rw [hbd] at hb; cases hb
  | through e as =>
    rw [hbd] at hv
    have q := throughX (W := W) h hp (n := m + 1) hX R O hbd hv (by omega)
    have hk2 := hk
    unfold walkX at hk2
    simp [c37, wordE, eq_tt (tg 10 (by omega)) (tg 7 (by omega)), eq_tt (tg 10 (by omega)) (tg 8 (by omega)), eq_tt (tg 10 (by omega)) (tg 10 (by omega)), hk2, mthC_ins, h.m18, evA, startE, List.map_cons, List.map_nil, List.length_cons, List.length_nil, List.replicate, List.cons_append, List.nil_append, List.set_cons_zero, List.set_cons_succ, List.getElem?_cons_zero, List.getElem?_cons_succ, Nat.add_sub_cancel, Nat.sub_self, Nat.reduceAdd, Nat.reduceSub, Int.reduceAdd, Int.reduceNeg, decide_true, decide_false, Bool.false_xor, Bool.true_xor, Bool.not_true, Bool.not_false]
    refine wp_mono q ?_
    rintro _ s1 ⟨rfl, r⟩
    simp [evA, startE, List.map_cons, List.map_nil, List.length_cons, List.length_nil, List.replicate, List.cons_append, List.nil_append, List.set_cons_zero, List.set_cons_succ, List.getElem?_cons_zero, List.getElem?_cons_succ, Nat.add_sub_cancel, Nat.sub_self, Nat.reduceAdd, Nat.reduceSub, Int.reduceAdd, Int.reduceNeg, decide_true, decide_false, Bool.false_xor, Bool.true_xor, Bool.not_true, Bool.not_false]
    exact r
  | say e b =>
    rw [hbd] at hv hk
    simp only [wordE] at hv
    have rs := R.say v b
    have st : stepM ps ms = ({ ms with said := ms.said ++ [v], body := b }, none) := by unfold stepM; rw [hbd]; simp only [isCal, hv]
    rw [st]
    unfold walkX at hk rs
    unfold talkC at htt
    simp [c37, wordE, eq_tt (tg 7 (by omega)) (tg 7 (by omega)), hk, htt, hw, lookN, putN, fldS_ins, appC_lst hsl, set_f, n3, Ne.symm n3, Bd.d, outD, evA, startE, List.map_cons, List.map_nil, List.length_cons, List.length_nil, List.replicate, List.cons_append, List.nil_append, List.set_cons_zero, List.set_cons_succ, List.getElem?_cons_zero, List.getElem?_cons_succ, Nat.add_sub_cancel, Nat.sub_self, Nat.reduceAdd, Nat.reduceSub, Int.reduceAdd, Int.reduceNeg, decide_true, decide_false, Bool.false_xor, Bool.true_xor, Bool.not_true, Bool.not_false]
    exact rs
  | if_ e a b =>
    rw [hbd] at hv hk
    simp only [wordE] at hv
    have rs := R.body (if v ≠ 0 then a else b)
    have st : stepM ps ms = ({ ms with body := if v ≠ 0 then a else b }, none) := by unfold stepM; rw [hbd]; simp only [isCal, hv]
    rw [st]
    unfold walkX at hk rs
    by_cases z : v = 0
    · rw [if_neg (by simpa using z)] at rs ⊢
      simp [c37, wordE, eq_tt (tg 8 (by omega)) (tg 7 (by omega)), eq_tt (tg 8 (by omega)) (tg 8 (by omega)), hk, z, lookN, putN, fldS_ins, Bd.d, outD, evA, startE, List.map_cons, List.map_nil, List.length_cons, List.length_nil, List.replicate, List.cons_append, List.nil_append, List.set_cons_zero, List.set_cons_succ, List.getElem?_cons_zero, List.getElem?_cons_succ, Nat.add_sub_cancel, Nat.sub_self, Nat.reduceAdd, Nat.reduceSub, Int.reduceAdd, Int.reduceNeg, decide_true, decide_false, Bool.false_xor, Bool.true_xor, Bool.not_true, Bool.not_false]
      exact rs
    · rw [if_pos z] at rs ⊢
      simp [c37, wordE, eq_tt (tg 8 (by omega)) (tg 7 (by omega)), eq_tt (tg 8 (by omega)) (tg 8 (by omega)), hk, z, lookN, putN, fldS_ins, Bd.d, outD, evA, startE, List.map_cons, List.map_nil, List.length_cons, List.length_nil, List.replicate, List.cons_append, List.nil_append, List.set_cons_zero, List.set_cons_succ, List.getElem?_cons_zero, List.getElem?_cons_succ, Nat.add_sub_cancel, Nat.sub_self, Nat.reduceAdd, Nat.reduceSub, Int.reduceAdd, Int.reduceNeg, decide_true, decide_false, Bool.false_xor, Bool.true_xor, Bool.not_true, Bool.not_false]
      exact rs
  | end_ e =>
    rw [hbd] at hv hk
    simp only [wordE] at hv
    have ep : eqV' tb.tg false (.cell p) (.lst []) s = _ := eq_pile hpp pd
    cases hg : ms.pile.getLast? with
    | none =>
      have hp0 : ms.pile = [] := by simpa using hg
      have rs := R.out (.fin v)
      have st : stepM ps ms = (ms, some (.fin v)) := by unfold stepM; rw [hbd]; simp only [isCal, hv, hg]
      rw [st]
      rw [hbd] at rs
      rw [hp0] at ep
      unfold walkX at hk rs
      simp [c37, wordE, eq_tt (tg 6 (by omega)) (tg 7 (by omega)), eq_tt (tg 6 (by omega)) (tg 8 (by omega)), eq_tt (tg 6 (by omega)) (tg 10 (by omega)), hk, ep, lookN, putN, fldS_ins, Bd.d, outD, evA, startE, List.map_cons, List.map_nil, List.length_cons, List.length_nil, List.replicate, List.cons_append, List.nil_append, List.set_cons_zero, List.set_cons_succ, List.getElem?_cons_zero, List.getElem?_cons_succ, Nat.add_sub_cancel, Nat.sub_self, Nat.reduceAdd, Nat.reduceSub, Int.reduceAdd, Int.reduceNeg, decide_true, decide_false, Bool.false_xor, Bool.true_xor, Bool.not_true, Bool.not_false]
      exact rs
    | some pb =>
      obtain ⟨sl, b⟩ := pb
      have hpe : ms.pile = ms.pile.dropLast ++ [(sl, b)] := by
        have hne : ms.pile ≠ [] := fun z => by rw [z] at hg; cases hg
        have := List.dropLast_concat_getLast hne
        rw [List.getLast?_eq_some_getLast hne] at hg
        rw [Option.some.inj hg] at this
        exact this.symm
      have st : stepM ps ms = ({ ms with pile := ms.pile.dropLast, slots := sl ++ [v], body := b }, none) := by unfold stepM; rw [hbd]; simp only [isCal, hv, hg]
      rw [st]
      have rs := R.pop ms.pile.dropLast (sl ++ [v]) b
      have rp2 : s.f p = .lst (pileD ms.pile.dropLast ++ [.tup [.lst (sl.map .int), b.d]]) := by rw [hpp]; conv => lhs; rw [hpe, pileD_app]
      have hemp : ms.pile.isEmpty = false := by rw [hpe]; simp
      have hlen : (ms.pile.length : Int) - 1 = ms.pile.dropLast.length := by
        have := congrArg List.length hpe
        rw [List.length_append] at this
        simp only [List.length_cons, List.length_nil] at this
        omega
      have hadd : (sl.map D.int).length + [D.int v].length ≤ LIM := by
        have := (O.pile (sl, b) (by rw [hpe]; simp)).2
        obtain ⟨wi2, hb2⟩ := this
        have h8 : ((sl.length + 1 : Nat) : Int) ≤ 8 := by
          cases b with
          | with_ q as b => have := hb2.2.1; simp only at this ⊢; omega
          | _ => exact hb2.2.1
        simp [LIM]; omega
      unfold walkX at hk rs
      unfold talkC at htt rs
      simp [c37, wordE, eq_tt (tg 6 (by omega)) (tg 7 (by omega)), eq_tt (tg 6 (by omega)) (tg 8 (by omega)), eq_tt (tg 6 (by omega)) (tg 10 (by omega)), hk, htt, ep, hemp, rp2, popC_lst, pop_c, kAsgT_tup, lookN, putN, fldS_ins, set_f, n4, n5, n6, Ne.symm n4, Ne.symm n5, Ne.symm n6, add_ll hadd, Bd.d, outD, hlen, evA, startE, List.map_cons, List.map_nil, List.length_cons, List.length_nil, List.replicate, List.cons_append, List.nil_append, List.set_cons_zero, List.set_cons_succ, List.getElem?_cons_zero, List.getElem?_cons_succ, Nat.add_sub_cancel, Nat.sub_self, Nat.reduceAdd, Nat.reduceSub, Int.reduceAdd, Int.reduceNeg, decide_true, decide_false, Bool.false_xor, Bool.true_xor, Bool.not_true, Bool.not_false]
      rw [List.map_append, List.length_dropLast] at rs
      exact rs
theorem stepX (h : LibW tb) {ps : List (Int × Bd)} (hp : PrOk ps) {s0 s : Store} {w p t k n : Nat} {ms : MS} (hX : IsX s0 X ps) (R : WRX X ps s0 s w p t k ms none) (O : MSOk ps ms) (hn : 15 ≤ n) :
    wp (Run tb W n 36 [.cell k] s) fun d s' => d = .non ∧ WRX X ps s0 s' w p t k (stepM ps ms).1 (stepM ps ms).2 := by
  obtain ⟨m, rfl⟩ : ∃ m, n = m + 2 := ⟨n - 2, by omega⟩
  rw [run_at h.f36 rfl]
  obtain ⟨n1, n2, n3, n4, n5, n6⟩ := R.ne
  have ht := h.tg
  have tg : ∀ i, i < 67 → i < tb.tg.length := fun i hi => by omega
  obtain ⟨wi, ob⟩ := O.body
  have hk := R.hk
  have htt := R.ht
  have hpp := R.hp
  have hpL : (pileD ms.pile).length < LIM := by have := O.big; unfold pileD; rw [List.length_map]; unfold LIM; omega
  by_cases hpl : isPl ms.body = true
  · have pl := fun v hv => plainX (W := W) (v := v) (n := m + 1) h hp hX R O hpl hv (by omega)
    have re : Run tb W (m + 1) 18 [(wordE ms.body).2.d, .lst (ms.slots.map .int)] s = .ok (oD (ev (wordE ms.body).2 ms.slots)) s := by
      refine reckoned h.e O.vs _ 3 (m + 1) s ?_ (by omega)
      cases hbd : ms.body with
      | end_ e => rw [hbd] at ob; exact ob.2.2
      | say e b => rw [hbd] at ob; exact ob.2.2.1
      | if_ e a b => rw [hbd] at ob; exact ob.2.2.1
      | through e as => rw [hbd] at ob; exact ob.2.2.2.1
      | turn q as => rw [hbd] at hpl; cases hpl
      | with_ q as b => rw [hbd] at hpl; cases hpl
    have fin : ∀ (wd : Nat) (e : Re) (r : List D) (hd : ms.body.d = .tup (.tag wd :: e.d :: r)) (hw : wordE ms.body = (wd, e)) (h9 : wd ≠ 9) (h11 : wd ≠ 11) (hf : ev e ms.slots = none → stepM ps ms = (ms, some (.fault 3))),
        wp ((evalSs (GG tb W m) c36.code (startE c36.slots [.cell k]) s).bind finK) fun d s' => d = .non ∧ WRX X ps s0 s' w p t k (stepM ps ms).1 (stepM ps ms).2 := by
      intro wd e r hd hw h9 h11 hf
      rw [hw] at re pl
      simp only at re pl
      rw [hd] at hk
      have b9 : (9 == wd) = false := beq_eq_false_iff_ne.mpr fun e => h9 e.symm
      have b11 : (11 == wd) = false := beq_eq_false_iff_ne.mpr fun e => h11 e.symm
      cases q : ev e ms.slots with
      | none =>
        rw [q] at re
        simp only [oD_none] at re
        rw [hf q]
        have ro := R.out (.fault 3)
        rw [hd] at ro
        unfold walkX at hk ro
        simp [c36, hk, lookN, putN, re, nonN, in_tup (T := tb.tg), flatD, eqvD, b9, b11, h.g10, fldS_ins, outD, evA, startE, List.map_cons, List.map_nil, List.length_cons, List.length_nil, List.replicate, List.cons_append, List.nil_append, List.set_cons_zero, List.set_cons_succ, List.getElem?_cons_zero, List.getElem?_cons_succ, Nat.add_sub_cancel, Nat.sub_self, Nat.reduceAdd, Nat.reduceSub, Int.reduceAdd, Int.reduceNeg, decide_true, decide_false, Bool.false_xor, Bool.true_xor, Bool.not_true, Bool.not_false]
        exact ro
      | some v =>
        rw [q] at re
        simp only [oD_some] at re
        unfold walkX at hk
        simp [c36, hk, lookN, putN, re, nonI, in_tup (T := tb.tg), flatD, eqvD, b9, b11, mthC_ins, h.m17, outD, evA, startE, List.map_cons, List.map_nil, List.length_cons, List.length_nil, List.replicate, List.cons_append, List.nil_append, List.set_cons_zero, List.set_cons_succ, List.getElem?_cons_zero, List.getElem?_cons_succ, Nat.add_sub_cancel, Nat.sub_self, Nat.reduceAdd, Nat.reduceSub, Int.reduceAdd, Int.reduceNeg, decide_true, decide_false, Bool.false_xor, Bool.true_xor, Bool.not_true, Bool.not_false]
        refine wp_mono (pl v q) ?_
        rintro _ s1 ⟨rfl, r1⟩
        simp [evA, startE, List.map_cons, List.map_nil, List.length_cons, List.length_nil, List.replicate, List.cons_append, List.nil_append, List.set_cons_zero, List.set_cons_succ, List.getElem?_cons_zero, List.getElem?_cons_succ, Nat.add_sub_cancel, Nat.sub_self, Nat.reduceAdd, Nat.reduceSub, Int.reduceAdd, Int.reduceNeg, decide_true, decide_false, Bool.false_xor, Bool.true_xor, Bool.not_true, Bool.not_false]
        exact r1
    cases hbd : ms.body with
    | end_ e => exact fin 6 e [] (by rw [hbd] <;> rfl) (by rw [hbd] <;> rfl) (by omega) (by omega) fun q => by unfold stepM; rw [hbd]; simp only [isCal, q]
    | say e b => exact fin 7 e [b.d] (by rw [hbd] <;> rfl) (by rw [hbd] <;> rfl) (by omega) (by omega) fun q => by unfold stepM; rw [hbd]; simp only [isCal, q]
    | if_ e a b => exact fin 8 e [a.d, b.d] (by rw [hbd] <;> rfl) (by rw [hbd] <;> rfl) (by omega) (by omega) fun q => by unfold stepM; rw [hbd]; simp only [isCal, q]
    | through e as => exact fin 10 e [.tup (as.map Re.d)] (by rw [hbd] <;> rfl) (by rw [hbd] <;> rfl) (by omega) (by omega) fun q => by unfold stepM; rw [hbd]; simp only [isCal, called, callee, q]
    | turn q as => rw [hbd] at hpl; cases hpl
    | with_ q as b => rw [hbd] at hpl; cases hpl
  · have isc : isCal ms.body = true := by
      cases hbd : ms.body with
      | turn q as => rfl
      | with_ q as b => rfl
      | through e as => rfl
      | _ => rw [hbd] at hpl; exact absurd rfl hpl
    cases hbd : ms.body with
    | turn q as =>
      rw [hbd] at ob hk
      obtain ⟨o1, o2, o3, o4⟩ := ob
      have ar := allReckoned (W := W) (s := s) (n := m + 1) h.e O.vs o4.2.2 o3 (by omega) true
      simp only [if_true] at ar
      have cl : called ps ms.body ms.slots = (match evs as ms.slots with
        | some xs => .inr (q, xs)
        | none => .inl 3) := by rw [hbd]; exact calledT (b := .turn q as) rfl rfl o4
      cases qe : evs as ms.slots with
      | none =>
        rw [qe] at ar cl
        simp only [oDs] at ar
        have st : stepM ps ms = (ms, some (.fault 3)) := by unfold stepM; rw [isc]; simp only [cl]
        rw [st]
        have ro := R.out (.fault 3)
        rw [hbd] at ro
        unfold walkX at hk ro
        simp [c36, hk, lookN, putN, Bd.d, ar, nonN, in_tup (T := tb.tg), flatD, eqvD, h.g10, fldS_ins, outD, evA, startE, List.map_cons, List.map_nil, List.length_cons, List.length_nil, List.replicate, List.cons_append, List.nil_append, List.set_cons_zero, List.set_cons_succ, List.getElem?_cons_zero, List.getElem?_cons_succ, Nat.add_sub_cancel, Nat.sub_self, Nat.reduceAdd, Nat.reduceSub, Int.reduceAdd, Int.reduceNeg, decide_true, decide_false, Bool.false_xor, Bool.true_xor, Bool.not_true, Bool.not_false]
        exact ro
      | some xs =>
        rw [qe] at ar cl
        simp only [oDs] at ar
        obtain ⟨q0, q1, q2, q3, q4, q5, q6, q7⟩ := called_inr (wi := wi) O.vs hp (by rw [hbd]; exact ⟨o1, o2, o3, o4⟩) isc cl
        have cw := callWX (W := W) (n := m + 1) h (fun c c2 => hX.kept ((R.chg.setNew R.n.2.2.1).setNew R.n.2.2.2)) R.hk R.ht n6 q7 (xs := xs) (by omega)
        have rc := R.call xs (bodyAt ps q)
        have st : stepM ps ms = ((if 1 ≤ ms.left then { ms with left := ms.left - 1, slots := xs, body := bodyAt ps q } else { ms with left := ms.left - 1 }), (if 1 ≤ ms.left then none else some .still)) := by
          unfold stepM
          rw [isc]
          simp only [cl]
          have pm : pushM ms = ms := by unfold pushM; rw [hbd]
          by_cases z : 1 ≤ ms.left
          · rw [if_neg (by omega), if_pos z, if_pos z, pm]
          · rw [if_pos (by omega), if_neg z, if_neg z, pm]
        rw [st]
        unfold walkX at hk
        simp [c36, hk, lookN, putN, Bd.d, ar, isNonD, in_tup (T := tb.tg), flatD, eqvD, eq_tt (tg 9 (by omega)) (tg 9 (by omega)), mthC_ins, h.m15, cw, outD, evA, startE, List.map_cons, List.map_nil, List.length_cons, List.length_nil, List.replicate, List.cons_append, List.nil_append, List.set_cons_zero, List.set_cons_succ, List.getElem?_cons_zero, List.getElem?_cons_succ, Nat.add_sub_cancel, Nat.sub_self, Nat.reduceAdd, Nat.reduceSub, Int.reduceAdd, Int.reduceNeg, decide_true, decide_false, Bool.false_xor, Bool.true_xor, Bool.not_true, Bool.not_false]
        exact rc
    | with_ q as b =>
      rw [hbd] at ob hk
      obtain ⟨o1, o2, o3, o4, o5⟩ := ob
      have ar := allReckoned (W := W) (s := s) (n := m + 1) h.e O.vs o4.2.2 o3 (by omega) true
      simp only [if_true] at ar
      have cl : called ps ms.body ms.slots = (match evs as ms.slots with
        | some xs => .inr (q, xs)
        | none => .inl 3) := by rw [hbd]; exact calledT (b := .with_ q as b) rfl rfl o4
      cases qe : evs as ms.slots with
      | none =>
        rw [qe] at ar cl
        simp only [oDs] at ar
        have st : stepM ps ms = (ms, some (.fault 3)) := by unfold stepM; rw [isc]; simp only [cl]
        rw [st]
        have ro := R.out (.fault 3)
        rw [hbd] at ro
        unfold walkX at hk ro
        simp [c36, hk, lookN, putN, Bd.d, ar, nonN, in_tup (T := tb.tg), flatD, eqvD, h.g10, fldS_ins, outD, evA, startE, List.map_cons, List.map_nil, List.length_cons, List.length_nil, List.replicate, List.cons_append, List.nil_append, List.set_cons_zero, List.set_cons_succ, List.getElem?_cons_zero, List.getElem?_cons_succ, Nat.add_sub_cancel, Nat.sub_self, Nat.reduceAdd, Nat.reduceSub, Int.reduceAdd, Int.reduceNeg, decide_true, decide_false, Bool.false_xor, Bool.true_xor, Bool.not_true, Bool.not_false]
        exact ro
      | some xs =>
        rw [qe] at ar cl
        simp only [oDs] at ar
        obtain ⟨q0, q1, q2, q3, q4, q5, q6, q7⟩ := called_inr (wi := wi) O.vs hp (by rw [hbd]; exact ⟨o1, o2, o3, o4, o5⟩) isc cl
        have R2 := R.push hbd
        have ht1 : (s.set p (.lst (pileD ms.pile ++ [.tup [.lst (ms.slots.map .int), b.d]]))).f t = talkC w ms.left ms.pile.length ms.deep := by rw [set_f, if_neg (Ne.symm n4)]; exact htt
        have wt := wait_ (W := W) (n := m + 1) h.toLibT ht1 (by omega)
        have cw := callWX (W := W) (n := m + 1) h (fun c c2 => hX.kept ((R2.chg.setNew R2.n.2.2.1).setNew R2.n.2.2.2)) R2.hk R2.ht n6 q7 (xs := xs) (by omega)
        have rc := R2.call xs (bodyAt ps q)
        have st : stepM ps ms = ((if 1 ≤ (pushM ms).left then { pushM ms with left := (pushM ms).left - 1, slots := xs, body := bodyAt ps q } else { pushM ms with left := (pushM ms).left - 1 }), (if 1 ≤ (pushM ms).left then none else some .still)) := by
          unfold stepM
          rw [isc]
          simp only [cl]
          have pm : (pushM ms).left = ms.left := by unfold pushM; rw [hbd]
          rw [pm]
          by_cases z : 1 ≤ ms.left
          · rw [if_neg (by omega), if_pos z, if_pos z]
          · rw [if_pos (by omega), if_neg z, if_neg z]
        rw [st]
        unfold walkX at hk
        have hkt : talkC w ms.left ms.pile.length ms.deep = .ins 0 [(0, .cell w), (1, .int ms.left), (2, .int ms.pile.length), (3, .int ms.deep)] := rfl
        simp [c36, hk, lookN, putN, Bd.d, ar, isNonD, in_tup (T := tb.tg), flatD, eqvD, eq_tt (tg 11 (by omega)) (tg 9 (by omega)), hpp, appC_lst hpL, mthC_ins, h.m15, h.m02, set_f, Ne.symm n5, Ne.symm n4, Ne.symm n6, htt, hkt, wt, cw, outD, evA, startE, List.map_cons, List.map_nil, List.length_cons, List.length_nil, List.replicate, List.cons_append, List.nil_append, List.set_cons_zero, List.set_cons_succ, List.getElem?_cons_zero, List.getElem?_cons_succ, Nat.add_sub_cancel, Nat.sub_self, Nat.reduceAdd, Nat.reduceSub, Int.reduceAdd, Int.reduceNeg, decide_true, decide_false, Bool.false_xor, Bool.true_xor, Bool.not_true, Bool.not_false]
        rw [set_set] at rc
        exact rc
    | through e as => rw [hbd] at hpl; exact absurd rfl hpl
    | _ => rw [hbd] at isc; cases isc
theorem walkLoopX (h : LibW tb) {ps : List (Int × Bd)} (hp : PrOk ps) {m : Nat} (hm : 16 ≤ m) {s0 : Store} (hX : IsX s0 X ps) {w p t k : Nat} {x0 x1 x2 x3 x4 x6 : Option D} : ∀ (kk : Nat) (ms : MS) (s : Store), WRX X ps s0 s w p t k ms none → MSOk ps ms → phi ms < kk →
    wp (whlL (evalE (GG tb W m) c39c) (evalSs (GG tb W m) c39b) kk [x0, x1, x2, x3, x4, some (.cell k), x6] s) fun f s' => f = .nx [x0, x1, x2, x3, x4, some (.cell k), x6] ∧ ∃ ms' o, WRX X ps s0 s' w p t k ms' (some o) ∧ resD ms' o = outM ps kk ms := by
  intro kk
  induction kk with
  | zero => intro ms s _ _ hh; omega
  | succ kk ih =>
    intro ms s R O hk
    have hk1 := R.hk
    have hph : 1 ≤ phi ms := by have := parts_pos ms.body; unfold phi; omega
    unfold walkX at hk1
    simp [wh_succ, whK1_app, whT_app, c39c, c39b, c39w, c39, hk1, lookN, outD, isNonD, mthC_ins, h.m16, evA, startE, List.map_cons, List.map_nil, List.length_cons, List.length_nil, List.replicate, List.cons_append, List.nil_append, List.set_cons_zero, List.set_cons_succ, List.getElem?_cons_zero, List.getElem?_cons_succ, Nat.add_sub_cancel, Nat.sub_self, Nat.reduceAdd, Nat.reduceSub, Int.reduceAdd, Int.reduceNeg, decide_true, decide_false, Bool.false_xor, Bool.true_xor, Bool.not_true, Bool.not_false]
    refine wp_mono (stepX (W := W) h hp hX R O (n := m + 1) (by omega)) ?_
    rintro _ s1 ⟨rfl, R1⟩
    simp [whK2_nx, evA, startE, List.map_cons, List.map_nil, List.length_cons, List.length_nil, List.replicate, List.cons_append, List.nil_append, List.set_cons_zero, List.set_cons_succ, List.getElem?_cons_zero, List.getElem?_cons_succ, Nat.add_sub_cancel, Nat.sub_self, Nat.reduceAdd, Nat.reduceSub, Int.reduceAdd, Int.reduceNeg, decide_true, decide_false, Bool.false_xor, Bool.true_xor, Bool.not_true, Bool.not_false]
    cases e : stepM ps ms with
    | mk ms' o =>
      rw [e] at R1
      cases o with
      | none =>
        obtain ⟨O', hph'⟩ := step_ok hp O e
        have q := ih ms' s1 R1 O' (by omega)
        have e1 : outM ps (kk + 1) ms = outM ps kk ms' := by simp only [outM, e]
        rw [e1]
        exact q
      | some o =>
        obtain ⟨k', rfl⟩ : ∃ k', kk = k' + 1 := ⟨kk - 1, by omega⟩
        have hk2 := R1.hk
        unfold walkX at hk2
        simp [wh_succ, whK1_app, whE_app, c39c, c39b, c39w, c39, hk2, lookN, outD, nonO, evA, startE, List.map_cons, List.map_nil, List.length_cons, List.length_nil, List.replicate, List.cons_append, List.nil_append, List.set_cons_zero, List.set_cons_succ, List.getElem?_cons_zero, List.getElem?_cons_succ, Nat.add_sub_cancel, Nat.sub_self, Nat.reduceAdd, Nat.reduceSub, Int.reduceAdd, Int.reduceNeg, decide_true, decide_false, Bool.false_xor, Bool.true_xor, Bool.not_true, Bool.not_false]
        exact ⟨ms', o, R1, by simp only [outM, e]⟩
theorem ranX (h : LibW tb) {ps : List (Int × Bd)} (hp : PrOk ps) {num most : Int} {args : List Int} (a : AskOk ps num args most) {n : Nat} {s : Store} (hX : IsX s X ps) (hn : 30 ≤ n) (hW : 200000 ≤ W) :
    wp (Run tb W n 39 [X, .int num, .lst (args.map .int), .int most] s) fun d s' => d = runD ps W num args most ∧ Chg (fun _ => False) s s' := by
  obtain ⟨m, rfl⟩ : ∃ m, n = m + 2 := ⟨n - 2, by omega⟩
  rw [run_at h.f39 rfl]
  obtain ⟨b, e1, e2, e3, e4, e5⟩ := ask_ms hp a
  have np := needProgramX (W := W) h.toLibN hp (n := m + 1) (s := s) hX (by omega)
  have na := needAsk (W := W) h.f20 h.toLibN.g0 h.g9 a (n := m + 1) (s := s) (by omega) (by omega)
  have cw : ∀ (x0 x1 x2 x3 x4 x5 : Option D), kCmpr (GG tb W m) false [6] (.name 6) (.cst (.bl true)) (.idx (.var 6) (.cst (.int 0))) [x0, x1, x2, x3, x4, x5, none] X (itemsOf X) s = newL false (ps.map fun q => .int q.1) s := fun x0 x1 x2 x3 x4 x5 =>
    kCmpr_isL (xs := ps) (d := fun (p : Int × Bd) => D.tup [.int p.1, p.2.d]) (f := fun (q : Int × Bd) => .int q.1) hX (by have := hp.len.2; unfold LIM; omega) fun e he => ⟨_, rfl, by simp [evA, startE, List.map_cons, List.map_nil, List.length_cons, List.length_nil, List.replicate, List.cons_append, List.nil_append, List.set_cons_zero, List.set_cons_succ, List.getElem?_cons_zero, List.getElem?_cons_succ, Nat.add_sub_cancel, Nat.sub_self, Nat.reduceAdd, Nat.reduceSub, Int.reduceAdd, Int.reduceNeg, decide_true, decide_false, Bool.false_xor, Bool.true_xor, Bool.not_true, Bool.not_false], by simp [wipeD, evA, startE, List.map_cons, List.map_nil, List.length_cons, List.length_nil, List.replicate, List.cons_append, List.nil_append, List.set_cons_zero, List.set_cons_succ, List.getElem?_cons_zero, List.getElem?_cons_succ, Nat.add_sub_cancel, Nat.sub_self, Nat.reduceAdd, Nat.reduceSub, Int.reduceAdd, Int.reduceNeg, decide_true, decide_false, Bool.false_xor, Bool.true_xor, Bool.not_true, Bool.not_false]⟩
  have ti := talkI (W := W) h.toLibT (n := m) (t := s.n) (most := most) (s := s.new (.ins 0 [])) new_same (by rw [new_n]; omega) (by omega)
  simp [c39, np, cw, na, h.i0, ti, evA, startE, List.map_cons, List.map_nil, List.length_cons, List.length_nil, List.replicate, List.cons_append, List.nil_append, List.set_cons_zero, List.set_cons_succ, List.getElem?_cons_zero, List.getElem?_cons_succ, Nat.add_sub_cancel, Nat.sub_self, Nat.reduceAdd, Nat.reduceSub, Int.reduceAdd, Int.reduceNeg, decide_true, decide_false, Bool.false_xor, Bool.true_xor, Bool.not_true, Bool.not_false]
  have n2 : (((s.new (.ins 0 [])).new (.lst [])).set s.n (talkC (s.n + 1) most 0 0)).n = s.n + 2 := rfl
  have f2 : (((s.new (.ins 0 [])).new (.lst [])).set s.n (talkC (s.n + 1) most 0 0)).f s.n = talkC (s.n + 1) most 0 0 := set_same
  have g2 : (((s.new (.ins 0 [])).new (.lst [])).set s.n (talkC (s.n + 1) most 0 0)).f (s.n + 1) = .lst [] := by
    rw [set_f, if_neg (by omega), new_f, if_pos (by rw [new_n])]
  have c2 : Chg (fun _ => False) s (((s.new (.ins 0 [])).new (.lst [])).set s.n (talkC (s.n + 1) most 0 0)) := (Chg.new.trans Chg.new).setNew (Nat.le_refl _)
  generalize (((s.new (.ins 0 [])).new (.lst [])).set s.n (talkC (s.n + 1) most 0 0)) = s2 at *
  have wi := walkIX (W := W) h (X := X) (n := m) (k := s2.n) (t := s.n) (ps := ps) (s := s2.new (.ins 1 [])) (fun c => hX.kept ((c2.trans Chg.new).setNew (by omega))) hp.len.2 new_same (by rw [new_n]; omega) (by omega)
  simp [h.i1, wi, evA, startE, List.map_cons, List.map_nil, List.length_cons, List.length_nil, List.replicate, List.cons_append, List.nil_append, List.set_cons_zero, List.set_cons_succ, List.getElem?_cons_zero, List.getElem?_cons_succ, Nat.add_sub_cancel, Nat.sub_self, Nat.reduceAdd, Nat.reduceSub, Int.reduceAdd, Int.reduceNeg, decide_true, decide_false, Bool.false_xor, Bool.true_xor, Bool.not_true, Bool.not_false]
  have f4 : ((((s2.new (.ins 1 [])).new (.lst [])).set s2.n (walkX X ps s.n (s2.n + 1) [] .non .non))).f s.n = talkC (s.n + 1) most 0 0 := by
    rw [set_f, if_neg (by omega), new_f, if_neg (by rw [new_n]; omega), new_f, if_neg (by omega)]; exact f2
  have g4 : ((((s2.new (.ins 1 [])).new (.lst [])).set s2.n (walkX X ps s.n (s2.n + 1) [] .non .non))).f (s.n + 1) = .lst [] := by
    rw [set_f, if_neg (by omega), new_f, if_neg (by rw [new_n]; omega), new_f, if_neg (by omega)]; exact g2
  have p4 : ((((s2.new (.ins 1 [])).new (.lst [])).set s2.n (walkX X ps s.n (s2.n + 1) [] .non .non))).f (s2.n + 1) = .lst [] := by
    rw [set_f, if_neg (by omega), new_f, if_pos (by rw [new_n])]
  have k4 : ((((s2.new (.ins 1 [])).new (.lst [])).set s2.n (walkX X ps s.n (s2.n + 1) [] .non .non))).f s2.n = walkX X ps s.n (s2.n + 1) [] .non .non := set_same
  have c4 : Chg (fun _ => False) s ((((s2.new (.ins 1 [])).new (.lst [])).set s2.n (walkX X ps s.n (s2.n + 1) [] .non .non))) := ((c2.trans Chg.new).trans Chg.new).setNew (by omega)
  generalize ((((s2.new (.ins 1 [])).new (.lst [])).set s2.n (walkX X ps s.n (s2.n + 1) [] .non .non))) = s4 at *
  have cl := callWX (W := W) (n := m + 1) h (fun c c2 => hX.kept ((c4.setNew (Nat.le_refl _)).setNew (by omega))) k4 f4 (by omega) e2 (xs := args) (by omega)
  have k4' : s4.f s2.n = .ins 1 [(5, X), (6, .lst (ps.map fun q => .int q.1)), (7, .cell s.n), (8, .cell (s2.n + 1)), (9, .lst []), (10, .non), (11, .non)] := k4
  have wc : mthC (GG tb W m) 5 s2.n (walkX X ps s.n (s2.n + 1) [] .non .non) = some (s2.n, 35) := by unfold walkX; rw [mthC_ins, gg_mt, h.m15] <;> rfl
  simp [k4', wc, cl, s_whl, evA, startE, List.map_cons, List.map_nil, List.length_cons, List.length_nil, List.replicate, List.cons_append, List.nil_append, List.set_cons_zero, List.set_cons_succ, List.getElem?_cons_zero, List.getElem?_cons_succ, Nat.add_sub_cancel, Nat.sub_self, Nat.reduceAdd, Nat.reduceSub, Int.reduceAdd, Int.reduceNeg, decide_true, decide_false, Bool.false_xor, Bool.true_xor, Bool.not_true, Bool.not_false]
  have nn1 : s.n ≠ s2.n := by omega
  by_cases z : 1 ≤ most
  · simp only [if_pos z]
    obtain ⟨O, hph⟩ := ask_ok hp a (show ¬ most - 1 < 0 by omega)
    rw [e1] at O hph
    have R : WRX X ps s ((s4.set s.n (talkC (s.n + 1) (most - 1) 0 0)).set s2.n (walkX X ps s.n (s2.n + 1) args b.d .non)) (s.n + 1) (s2.n + 1) s.n s2.n ⟨most - 1, args, b, [], [], 0⟩ none :=
      ⟨by rw [set_f, if_neg (by omega), set_f, if_neg (by omega)]; exact g4, by rw [set_f, if_neg (by omega), set_f, if_neg (by omega)]; exact p4, by rw [set_f, if_neg nn1, set_same]; rfl, by rw [set_same] <;> rfl, by omega, by omega, (c4.setNew (Nat.le_refl _)).setNew (by omega)⟩
    have lp := walkLoopX (W := W) h hp (m := m) (by omega) hX (x0 := some X) (x1 := some (.int num)) (x2 := some (.lst (args.map .int))) (x3 := some (.int most)) (x4 := some (.cell s.n)) (x6 := none) W _ _ R O (by omega)
    refine wp_mono lp ?_
    rintro _ s5 ⟨rfl, ms', o, R5, e5'⟩
    have k5 := R5.hk
    have t5 := R5.ht
    have td := told_ (W := W) (n := m + 1) h.toLibT R5.ht R5.hw (o := o.d) (by omega)
    unfold walkX at k5
    unfold talkC at t5
    simp [k5, t5, lookN, outD, mthC_ins, h.m03, td, evA, startE, List.map_cons, List.map_nil, List.length_cons, List.length_nil, List.replicate, List.cons_append, List.nil_append, List.set_cons_zero, List.set_cons_succ, List.getElem?_cons_zero, List.getElem?_cons_succ, Nat.add_sub_cancel, Nat.sub_self, Nat.reduceAdd, Nat.reduceSub, Int.reduceAdd, Int.reduceNeg, decide_true, decide_false, Bool.false_xor, Bool.true_xor, Bool.not_true, Bool.not_false]
    refine ⟨?_, R5.chg⟩
    have e : runD ps W num args most = outM ps W ⟨most - 1, args, b, [], [], 0⟩ := by unfold runD; rw [if_neg (by omega), e1]
    rw [e, ← e5']
    rfl
  · simp only [if_neg z]
    obtain ⟨W', rfl⟩ : ∃ W', W = W' + 1 := ⟨W - 1, by omega⟩
    have fT : ((s4.set s.n (talkC (s.n + 1) (most - 1) 0 0)).set s2.n (walkX X ps s.n (s2.n + 1) [] .non Out.still.d)).f s.n = talkC (s.n + 1) (most - 1) 0 0 := by rw [set_f, if_neg nn1, set_same]
    have fW : ((s4.set s.n (talkC (s.n + 1) (most - 1) 0 0)).set s2.n (walkX X ps s.n (s2.n + 1) [] .non Out.still.d)).f (s.n + 1) = .lst [] := by rw [set_f, if_neg (by omega), set_f, if_neg (by omega)]; exact g4
    have fK : ((s4.set s.n (talkC (s.n + 1) (most - 1) 0 0)).set s2.n (walkX X ps s.n (s2.n + 1) [] .non Out.still.d)).f s2.n = .ins 1 [(5, X), (6, .lst (ps.map fun q => .int q.1)), (7, .cell s.n), (8, .cell (s2.n + 1)), (9, .lst []), (10, .non), (11, Out.still.d)] := set_same
    have c5 : Chg (fun _ => False) s ((s4.set s.n (talkC (s.n + 1) (most - 1) 0 0)).set s2.n (walkX X ps s.n (s2.n + 1) [] .non Out.still.d)) := (c4.setNew (Nat.le_refl _)).setNew (by omega)
    generalize ((s4.set s.n (talkC (s.n + 1) (most - 1) 0 0)).set s2.n (walkX X ps s.n (s2.n + 1) [] .non Out.still.d)) = s5 at *
    have td := told_ (W := W' + 1) (n := m + 1) h.toLibT fT fW (o := Out.still.d) (by omega)
    have fT' : s5.f s.n = .ins 0 [(0, .cell (s.n + 1)), (1, .int (most - 1)), (2, .int 0), (3, .int 0)] := fT
    simp [wh_succ, whK1_app, whE_app, fK, lookN, nonO, fT', mthC_ins, h.m03, td, evA, startE, List.map_cons, List.map_nil, List.length_cons, List.length_nil, List.replicate, List.cons_append, List.nil_append, List.set_cons_zero, List.set_cons_succ, List.getElem?_cons_zero, List.getElem?_cons_succ, Nat.add_sub_cancel, Nat.sub_self, Nat.reduceAdd, Nat.reduceSub, Int.reduceAdd, Int.reduceNeg, decide_true, decide_false, Bool.false_xor, Bool.true_xor, Bool.not_true, Bool.not_false]
    refine ⟨?_, c5⟩
    have hm0 := a.m0
    have e : runD ps (W' + 1) num args most = .tup [.tup [], .tup [.tag 25], .int 0] := by unfold runD; rw [if_pos (by omega)]
    rw [e]
    rfl
end
end PI

namespace PI
open PySem L2 TL
/-- the texts that are written -/
def TG : List Str := [PySem.Str.ofString "plus", PySem.Str.ofString "minus", PySem.Str.ofString "times", PySem.Str.ofString "over", PySem.Str.ofString "less", PySem.Str.ofString "like", PySem.Str.ofString "end", PySem.Str.ofString "say", PySem.Str.ofString "if", PySem.Str.ofString "turn", PySem.Str.ofString "through", PySem.Str.ofString "with", PySem.Str.ofString "fault", PySem.Str.ofString "num", PySem.Str.ofString "slot", PySem.Str.ofString "no such call", PySem.Str.ofString "no such numbers", PySem.Str.ofString "none", PySem.Str.ofString "count", PySem.Str.ofString "wait", PySem.Str.ofString "s", PySem.Str.ofString "(", PySem.Str.ofString ")", PySem.Str.ofString " ", PySem.Str.ofString "function", PySem.Str.ofString "still", PySem.Str.ofString "fork", PySem.Str.ofString "", PySem.Str.ofString "ask", PySem.Str.ofString "program", PySem.Str.ofString "text", PySem.Str.ofString "pile", PySem.Str.ofString "sum", PySem.Str.ofString "give", PySem.Str.ofString "0", PySem.Str.ofString "function ", PySem.Str.ofString "0123456789", PySem.Str.ofString "number", PySem.Str.ofString "body", PySem.Str.ofString "e", PySem.Str.ofString "read", PySem.Str.ofString "other", PySem.Str.ofString " !#$&'()*+,-./0123456789:;<=>?@ABCDEFGHIJKLMNOPQRSTUVWXYZ[]^_abcdefghijklmnopqrstuvwxyz{|}~", PySem.Str.ofString "00", PySem.Str.ofString "999", PySem.Str.ofString "1000", PySem.Str.ofString "s0", PySem.Str.ofString "s9", PySem.Str.ofString "s00", PySem.Str.ofString "0123456789s() plusendtwh-.", PySem.Str.ofString "ss0", PySem.Str.ofString "sss1", PySem.Str.ofString "1s", PySem.Str.ofString "s0s", PySem.Str.ofString "function 0", PySem.Str.ofString "function 0 end", PySem.Str.ofString "function 4 end 0", PySem.Str.ofString "function 0 end s0", PySem.Str.ofString "function 0 with 0 ( ) end s0", PySem.Str.ofString "function 0 end 01", PySem.Str.ofString "function 0 turn 0 (", PySem.Str.ofString "function 0 turn 0 ( )", PySem.Str.ofString "function 1 turn 0 ( s0 ) end", PySem.Str.ofString "function 0 through 0 ( 1 2", PySem.Str.ofString "function 0 end 0 function 0 end s1", PySem.Str.ofString "function 0  end 0", PySem.Str.ofString "end 0"]
def sp : Str := " "
def numS (i : Int) : Str := (toString i : String)
def tgs (n : Nat) : Str := TG.getD n ""
theorem tl_sp : tl sp = [32] := by decide +kernel
theorem tl_numI {i : Int} (h : 0 ≤ i) : tl (numS i) = numL i.toNat := by
  have e := tl_num i.toNat
  rw [Int.toNat_of_nonneg h] at e
  exact e
theorem num_cases {i : Int} (h0 : 0 ≤ i) (h1 : i < 1000) : ∃ c r, tl (numS i) = c :: r ∧ (48 ≤ c ∧ c ≤ 57) ∧ (∀ x ∈ r, 48 ≤ x ∧ x ≤ 57) ∧ r.length ≤ 2 ∧ (c = 48 → r = []) := by
  rw [tl_numI h0]
  obtain ⟨n, rfl⟩ : ∃ n : Nat, i = n := ⟨i.toNat, (Int.toNat_of_nonneg h0).symm⟩
  have hn : n < 1000 := by omega
  rw [Int.toNat_natCast]
  by_cases a : n < 10
  · rw [numL_lt a]
    exact ⟨48 + n, [], rfl, by omega, fun x h => (by cases h), by simp, fun _ => rfl⟩
  · by_cases b : n < 100
    · rw [numL_step (by omega), numL_lt (by omega)]
      exact ⟨48 + n / 10, [48 + n % 10], rfl, by omega, fun x h => by rw [List.mem_singleton.mp h]; omega, by simp, fun z => by omega⟩
    · rw [numL_step (by omega), numL_step (n := n / 10) (by omega), numL_lt (by omega)]
      refine ⟨48 + n / 10 / 10, [48 + n / 10 % 10, 48 + n % 10], rfl, by omega, fun x h => ?_, by simp, fun z => by omega⟩
      simp only [List.mem_cons, List.not_mem_nil, or_false] at h
      rcases h with rfl | rfl <;> omega
def wl (ws : List Str) : Nat := (ws.map (·.length)).sum + ws.length
theorem wl_nil : wl [] = 0 := rfl
theorem wl_cons (x : Str) (ws : List Str) : wl (x :: ws) = x.length + 1 + wl ws := by simp [wl]; omega
theorem wl_app (a b : List Str) : wl (a ++ b) = wl a + wl b := by simp [wl]; omega
theorem len_wl (ws : List Str) : ws.length ≤ wl ws := by unfold wl; omega
theorem joinL_app {S : List Nat} : ∀ {a b : List (List Nat)}, a ≠ [] → b ≠ [] → joinL S (a ++ b) = joinL S a ++ (S ++ joinL S b)
  | [], _, h, _ => absurd rfl h
  | [p], [], _, h => absurd rfl h
  | [p], q :: r, _, _ => rfl
  | p :: q :: r, b, _, h => by
    have ih := joinL_app (S := S) (a := q :: r) (b := b) (by simp) h
    show p ++ (S ++ joinL S (q :: r ++ b)) = (p ++ (S ++ joinL S (q :: r))) ++ (S ++ joinL S b)
    rw [ih]
    simp only [List.append_assoc]
theorem joinL_flat {S : List Nat} : ∀ {ps : List (List (List Nat))}, (∀ p ∈ ps, p ≠ []) → joinL S (ps.map (joinL S)) = joinL S ps.flatten
  | [], _ => rfl
  | [p], h => by simp [joinL]
  | p :: q :: r, h => by
    have ih := joinL_flat (S := S) (ps := q :: r) fun x hx => h x (List.mem_cons_of_mem _ hx)
    have hp := h p List.mem_cons_self
    have hq := h q (List.mem_cons_of_mem _ List.mem_cons_self)
    have e : (p :: q :: r).flatten = p ++ (q :: r).flatten := rfl
    rw [e, joinL_app hp (by simp [hq]), ← ih]
    rfl
theorem tl_j (ws : List Str) : tl (Txt.join sp ws) = joinL [32] (ws.map tl) := by rw [join_eq, tl_join, tl_sp]
theorem join_flat {ps : List (List Str)} (h : ∀ p ∈ ps, p ≠ []) : Txt.join sp (ps.map (Txt.join sp)) = Txt.join sp ps.flatten := by
  refine ext_tl ?_
  rw [tl_j, tl_j, List.map_map, List.map_flatten, ← joinL_flat]
  · rw [List.map_map]
    congr 1
    refine List.map_congr_left fun p _ => ?_
    exact tl_j p
  · intro p hp
    obtain ⟨q, hq, rfl⟩ := List.mem_map.mp hp
    intro e
    exact h q hq (List.map_eq_nil_iff.mp e)
theorem join_one (x : Str) : Txt.join sp [x] = x := by
  refine ext_tl ?_
  rw [tl_j]
  rfl
theorem joinL_len : ∀ {L : List (List Nat)}, L ≠ [] → (joinL [32] L).length + 1 = (L.map (·.length)).sum + L.length
  | [], h => absurd rfl h
  | [p], _ => by simp [joinL]
  | p :: q :: r, _ => by
    have ih := joinL_len (L := q :: r) (by simp)
    simp only [joinL, List.length_append, List.length_cons, List.length_nil, List.map_cons, List.sum_cons] at ih ⊢
    omega
theorem join_len {ws : List Str} (h : ws ≠ []) : (Txt.join sp ws).length + 1 = wl ws := by
  rw [len_tl, tl_j, joinL_len (by simpa using h)]
  unfold wl
  rw [List.map_map, List.length_map]
  congr 2
theorem mem_joinL {c : Nat} : ∀ {L : List (List Nat)}, c ∈ joinL [32] L → c = 32 ∨ ∃ p ∈ L, c ∈ p
  | [], h => by cases h
  | [p], h => .inr ⟨p, List.mem_cons_self, h⟩
  | p :: q :: r, h => by
    simp only [joinL, List.mem_append, List.mem_singleton] at h
    rcases h with h | h | h
    · exact .inr ⟨p, List.mem_cons_self, h⟩
    · exact .inl h
    · rcases mem_joinL h with h | ⟨x, hx, hc⟩
      · exact .inl h
      · exact .inr ⟨x, List.mem_cons_of_mem _ hx, hc⟩
/-- small signs only -/
def Sm (x : Str) : Prop := ∀ c ∈ tl x, c < 256
theorem Sm.ok {x : Str} (h : Sm x) : PyData.strOk x = true := by
  unfold PyData.strOk
  rw [← Array.all_toList]
  refine List.all_eq_true.mpr fun c hc => ?_
  have := h c hc
  simp only [decide_eq_true_eq]
  omega
theorem sm_join {ws : List Str} (h : ∀ x ∈ ws, Sm x) : Sm (Txt.join sp ws) := by
  intro c hc
  rw [tl_j] at hc
  rcases mem_joinL hc with rfl | ⟨p, hp, hc⟩
  · omega
  · obtain ⟨x, hx, rfl⟩ := List.mem_map.mp hp
    exact h x hx c hc
theorem sm_app {x y : Str} (hx : Sm x) (hy : Sm y) : Sm (x ++ y) := by
  intro c hc
  rw [tl_append] at hc
  rcases List.mem_append.mp hc with h | h
  · exact hx c h
  · exact hy c h
theorem sm_num {i : Int} (h0 : 0 ≤ i) (h1 : i < 1000) : Sm (numS i) := by
  obtain ⟨c, r, e, h, hr, _, _⟩ := num_cases h0 h1
  intro x hx
  rw [e] at hx
  rcases List.mem_cons.mp hx with rfl | hx
  · omega
  · have := hr x hx; omega
/-- a word -/
structure Wk (x : Str) : Prop where
  free : 32 ∉ tl x
  sm : Sm x
  len : x.length ≤ 8
def wkB (x : Str) : Bool := !(tl x).contains 32 && (tl x).all (fun c => decide (c < 256)) && decide (x.length ≤ 8)
theorem wk_of {x : Str} (h : wkB x = true) : Wk x := by
  unfold wkB at h
  simp only [Bool.and_eq_true, Bool.not_eq_true', decide_eq_true_eq, List.all_eq_true, List.contains_eq_mem, decide_eq_false_iff_not] at h
  exact ⟨h.1.1, h.1.2, h.2⟩
theorem wk_tg : ∀ n, n < 25 → (n < 12 ∨ 20 ≤ n) → n ≠ 23 → wkB (tgs n) = true := by decide +kernel
theorem wk_num {i : Int} (h0 : 0 ≤ i) (h1 : i < 1000) : Wk (numS i) := by
  obtain ⟨c, r, e, h, hr, hl, _⟩ := num_cases h0 h1
  refine ⟨?_, sm_num h0 h1, ?_⟩
  · rw [e]
    intro z
    rcases List.mem_cons.mp z with z | z
    · omega
    · have := hr 32 z; omega
  · rw [len_tl, e]; simp only [List.length_cons]; omega
theorem len_num {i : Int} (h0 : 0 ≤ i) (h1 : i < 1000) : (numS i).length ≤ 3 := by
  obtain ⟨c, r, e, h, hr, hl, _⟩ := num_cases h0 h1
  rw [len_tl, e]; simp only [List.length_cons]; omega
theorem tl_s : tl (tgs 20) = [115] := by decide +kernel
theorem wk_slot {i : Int} (h0 : 0 ≤ i) (h1 : i < 1000) : Wk (tgs 20 ++ numS i) := by
  have n := wk_num h0 h1
  have l := len_num h0 h1
  refine ⟨?_, sm_app (wk_of (wk_tg 20 (by omega) (by omega) (by omega))).sm n.sm, ?_⟩
  · rw [tl_append, tl_s]
    intro z
    rcases List.mem_cons.mp z with z | z
    · omega
    · exact n.free z
  · rw [len_tl, tl_append, tl_s, List.length_append, ← len_tl]; simp only [List.length_cons, List.length_nil]; omega
def Re.w : Re → List Str
  | .num i => [numS i]
  | .slot i => [tgs 20 ++ numS i]
  | .pair w a b => tgs w :: (a.w ++ b.w)
def argsW (as : List Re) : List Str := tgs 21 :: (as.flatMap Re.w ++ [tgs 22])
def Bd.w : Bd → List Str
  | .end_ e => tgs 6 :: e.w
  | .say e b => tgs 7 :: (e.w ++ b.w)
  | .if_ e a b => tgs 8 :: (e.w ++ (a.w ++ b.w))
  | .turn n as => tgs 9 :: numS n :: argsW as
  | .through e as => tgs 10 :: (e.w ++ argsW as)
  | .with_ n as b => tgs 11 :: numS n :: (argsW as ++ b.w)
def prW (ps : List (Int × Bd)) : List Str := ps.flatMap fun p => tgs 24 :: numS p.1 :: p.2.w
theorem wkt {n : Nat} (h : n < 25) (h2 : n < 12 ∨ 20 ≤ n) (h3 : n ≠ 23) : Wk (tgs n) := wk_of (wk_tg n h h2 h3)
theorem Re.wk {sl : Int} (hs : sl ≤ 1000) : ∀ (e : Re) {d : Nat}, e.ok sl d → (∀ x ∈ e.w, Wk x) ∧ wl e.w + 9 ≤ 9 * 2 ^ (d + 1) ∧ e.w ≠ []
  | .num i, d, h => by
    obtain ⟨h0, h1⟩ := h
    have := Nat.pow_le_pow_right (show 0 < 2 by omega) (show 1 ≤ d + 1 by omega)
    have l := len_num h0 h1
    refine ⟨fun x hx => ?_, ?_, by simp [Re.w]⟩
    · rw [List.mem_singleton.mp hx]; exact wk_num h0 h1
    · simp only [Re.w, wl_cons, wl_nil]; omega
  | .slot i, d, h => by
    obtain ⟨h0, h1⟩ := h
    have := Nat.pow_le_pow_right (show 0 < 2 by omega) (show 1 ≤ d + 1 by omega)
    have l := (wk_slot h0 (show i < 1000 by omega)).len
    refine ⟨fun x hx => ?_, ?_, by simp [Re.w]⟩
    · rw [List.mem_singleton.mp hx]; exact wk_slot h0 (by omega)
    · simp only [Re.w, wl_cons, wl_nil]; omega
  | .pair w a b, d, h => by
    obtain ⟨hw, k, rfl, ha, hb⟩ := h
    obtain ⟨a1, a2, a3⟩ := a.wk hs ha
    obtain ⟨b1, b2, b3⟩ := b.wk hs hb
    have l := (wkt (n := w) (by omega) (by omega) (by omega)).len
    refine ⟨fun x hx => ?_, ?_, by simp [Re.w]⟩
    · simp only [Re.w, List.mem_cons, List.mem_append] at hx
      rcases hx with rfl | hx | hx
      · exact wkt (by omega) (by omega) (by omega)
      · exact a1 x hx
      · exact b1 x hx
    · simp only [Re.w, wl_cons, wl_app]
      have e : 2 ^ (k + 1 + 1) = 2 * 2 ^ (k + 1) := by rw [Nat.pow_succ]; omega
      omega
theorem Re.wk3 {sl : Int} (hs : sl ≤ 1000) {e : Re} (h : e.ok sl 3) : (∀ x ∈ e.w, Wk x) ∧ wl e.w ≤ 135 ∧ e.w ≠ [] := by
  obtain ⟨h1, h2, h3⟩ := e.wk hs h
  exact ⟨h1, by simp only [Nat.reduceAdd, Nat.reducePow, Nat.reduceMul] at h2; omega, h3⟩
theorem flat_wk {sl : Int} (hs : sl ≤ 1000) : ∀ {as : List Re}, (∀ a ∈ as, a.ok sl 3) → (∀ x ∈ as.flatMap Re.w, Wk x) ∧ wl (as.flatMap Re.w) ≤ 135 * as.length
  | [], _ => ⟨fun x h => by (cases h), by simp [wl]⟩
  | a :: as, h => by
    obtain ⟨a1, a2, _⟩ := Re.wk3 hs (h a List.mem_cons_self)
    obtain ⟨b1, b2⟩ := flat_wk hs (as := as) fun x hx => h x (List.mem_cons_of_mem _ hx)
    refine ⟨fun x hx => ?_, ?_⟩
    · rw [List.flatMap_cons] at hx
      rcases List.mem_append.mp hx with hx | hx
      · exact a1 x hx
      · exact b1 x hx
    · rw [List.flatMap_cons, wl_app, List.length_cons]; omega
theorem args_wk {sl : Int} (hs : sl ≤ 1000) {as : List Re} (h : ∀ a ∈ as, a.ok sl 3) (hl : as.length ≤ 30) : (∀ x ∈ argsW as, Wk x) ∧ wl (argsW as) ≤ 4068 := by
  obtain ⟨h1, h2⟩ := flat_wk hs h
  have l1 := (wkt (n := 21) (by omega) (by omega) (by omega)).len
  have l2 := (wkt (n := 22) (by omega) (by omega) (by omega)).len
  refine ⟨fun x hx => ?_, ?_⟩
  · simp only [argsW, List.mem_cons, List.mem_append, List.not_mem_nil, or_false] at hx
    rcases hx with rfl | hx | rfl
    · exact wkt (by omega) (by omega) (by omega)
    · exact h1 x hx
    · exact wkt (by omega) (by omega) (by omega)
  · simp only [argsW, wl_cons, wl_app, wl_nil]; omega
theorem argsOk_lt {cs : List Int} (hc : cs.length ≤ 5) {n : Int} {as : List Re} {sl : Int} (h : ArgsOk cs n as sl) : 0 ≤ n ∧ n < 1000 ∧ n < cs.length := by
  obtain ⟨h0, h1, _⟩ := h
  have := (List.getElem?_eq_some_iff.mp h1).1
  omega
theorem Bd.wk {cs : List Int} (hc : cs.length ≤ 5) : ∀ (b : Bd) {sl : Int} {wi : Nat}, b.ok cs sl wi → (∀ x ∈ b.w, Wk x) ∧ wl b.w ≤ 4500 * b.parts ∧ b.w ≠ []
  | .end_ e, sl, wi, h => by
    obtain ⟨h1, h2, h3⟩ := h
    obtain ⟨e1, e2, e3⟩ := Re.wk3 (by omega) h3
    have l := (wkt (n := 6) (by omega) (by omega) (by omega)).len
    refine ⟨fun x hx => ?_, by simp only [Bd.w, wl_cons, Bd.parts]; omega, by simp [Bd.w]⟩
    rcases List.mem_cons.mp hx with rfl | hx
    · exact wkt (by omega) (by omega) (by omega)
    · exact e1 x hx
  | .say e b, sl, wi, h => by
    obtain ⟨h1, h2, h3, h4⟩ := h
    obtain ⟨e1, e2, e3⟩ := Re.wk3 (by omega) h3
    obtain ⟨b1, b2, b3⟩ := b.wk hc h4
    have l := (wkt (n := 7) (by omega) (by omega) (by omega)).len
    refine ⟨fun x hx => ?_, by simp only [Bd.w, wl_cons, wl_app, Bd.parts]; omega, by simp [Bd.w]⟩
    simp only [Bd.w, List.mem_cons, List.mem_append] at hx
    rcases hx with rfl | hx | hx
    · exact wkt (by omega) (by omega) (by omega)
    · exact e1 x hx
    · exact b1 x hx
  | .if_ e a b, sl, wi, h => by
    obtain ⟨h1, h2, h3, h4, h5⟩ := h
    obtain ⟨e1, e2, e3⟩ := Re.wk3 (by omega) h3
    obtain ⟨a1, a2, a3⟩ := a.wk hc h4
    obtain ⟨b1, b2, b3⟩ := b.wk hc h5
    have l := (wkt (n := 8) (by omega) (by omega) (by omega)).len
    refine ⟨fun x hx => ?_, by simp only [Bd.w, wl_cons, wl_app, Bd.parts]; omega, by simp [Bd.w]⟩
    simp only [Bd.w, List.mem_cons, List.mem_append] at hx
    rcases hx with rfl | hx | hx | hx
    · exact wkt (by omega) (by omega) (by omega)
    · exact e1 x hx
    · exact a1 x hx
    · exact b1 x hx
  | .turn n as, sl, wi, h => by
    obtain ⟨h1, h2, h3, h4⟩ := h
    obtain ⟨n0, n1, _⟩ := argsOk_lt hc h4
    obtain ⟨a1, a2⟩ := args_wk (by omega) h4.2.2 h3
    have l := (wkt (n := 9) (by omega) (by omega) (by omega)).len
    have ln := len_num n0 n1
    refine ⟨fun x hx => ?_, by simp only [Bd.w, wl_cons, wl_app, Bd.parts]; omega, by simp [Bd.w]⟩
    simp only [Bd.w, List.mem_cons] at hx
    rcases hx with rfl | rfl | hx
    · exact wkt (by omega) (by omega) (by omega)
    · exact wk_num n0 n1
    · exact a1 x hx
  | .through e as, sl, wi, h => by
    obtain ⟨h1, h2, h3, h4, h5⟩ := h
    obtain ⟨e1, e2, e3⟩ := Re.wk3 (by omega) h4
    obtain ⟨a1, a2⟩ := args_wk (by omega) h5 (by omega)
    have l := (wkt (n := 10) (by omega) (by omega) (by omega)).len
    refine ⟨fun x hx => ?_, by simp only [Bd.w, wl_cons, wl_app, Bd.parts]; omega, by simp [Bd.w]⟩
    simp only [Bd.w, List.mem_cons, List.mem_append] at hx
    rcases hx with rfl | hx | hx
    · exact wkt (by omega) (by omega) (by omega)
    · exact e1 x hx
    · exact a1 x hx
  | .with_ n as b, sl, wi, h => by
    obtain ⟨h1, h2, h3, h4, h5⟩ := h
    obtain ⟨n0, n1, _⟩ := argsOk_lt hc h4
    obtain ⟨a1, a2⟩ := args_wk (by omega) h4.2.2 h3
    obtain ⟨b1, b2, b3⟩ := b.wk hc h5
    have l := (wkt (n := 11) (by omega) (by omega) (by omega)).len
    have ln := len_num n0 n1
    refine ⟨fun x hx => ?_, by simp only [Bd.w, wl_cons, wl_app, Bd.parts]; omega, by simp [Bd.w]⟩
    simp only [Bd.w, List.mem_cons, List.mem_append] at hx
    rcases hx with rfl | rfl | hx | hx
    · exact wkt (by omega) (by omega) (by omega)
    · exact wk_num n0 n1
    · exact a1 x hx
    · exact b1 x hx
theorem pr_wk {cs : List Int} (hc : cs.length ≤ 5) : ∀ {ps : List (Int × Bd)}, (∀ p ∈ ps, 0 ≤ p.1 ∧ p.1 ≤ 3 ∧ p.2.ok cs p.1 0 ∧ p.2.parts ≤ 30) → (∀ x ∈ prW ps, Wk x) ∧ wl (prW ps) ≤ 140000 * ps.length
  | [], _ => ⟨fun x h => by (cases h), by simp [wl, prW]⟩
  | p :: ps, h => by
    obtain ⟨h0, h1, h2, h3⟩ := h p List.mem_cons_self
    obtain ⟨a1, a2, _⟩ := p.2.wk hc h2
    obtain ⟨b1, b2⟩ := pr_wk hc (ps := ps) fun x hx => h x (List.mem_cons_of_mem _ hx)
    have l := (wkt (n := 24) (by omega) (by omega) (by omega)).len
    have ln := len_num h0 (by omega)
    have e : prW (p :: ps) = tgs 24 :: numS p.1 :: p.2.w ++ prW ps := by simp [prW]
    rw [e]
    refine ⟨fun x hx => ?_, ?_⟩
    · simp only [List.cons_append, List.mem_cons, List.mem_append] at hx
      rcases hx with rfl | rfl | hx | hx
      · exact wkt (by omega) (by omega) (by omega)
      · exact wk_num h0 (by omega)
      · exact a1 x hx
      · exact b1 x hx
    · simp only [List.cons_append, wl_cons, wl_app, List.length_cons]; omega
theorem pr_wk' {ps : List (Int × Bd)} (hp : PrOk ps) : (∀ x ∈ prW ps, Wk x) ∧ wl (prW ps) ≤ 700000 ∧ prW ps ≠ [] := by
  obtain ⟨h1, h2⟩ := pr_wk (cs := ps.map (·.1)) (by rw [List.length_map]; exact hp.len.2) hp.ok
  refine ⟨h1, by have := hp.len.2; omega, ?_⟩
  cases ps with
  | nil => have := hp.len.1; simp at this
  | cons p ps => simp [prW]
/-- a program's text -/
def prT (ps : List (Int × Bd)) : Str := Txt.join sp (prW ps)
theorem split_prT {ps : List (Int × Bd)} (hp : PrOk ps) : Txt.split (prT ps) sp = prW ps := by
  obtain ⟨h1, _, h3⟩ := pr_wk' hp
  exact split_join (s := 32) (S := []) tl_sp (by decide +kernel) h3 fun p hq => (h1 p hq).free
end PI

namespace PI
open PySem L2 TL
theorem tg_at {n : Nat} (h : n < 67) : TG[n]? = some (tgs n) := by
  have e : n < TG.length := h
  unfold tgs
  rw [List.getD_eq_getElem?_getD, List.getElem?_eq_getElem e] <;> rfl
structure LibWr (tb : Tab) : Prop where
  n : LibN tb
  tgs : tb.tg = TG
  f30 : tb.fns 30 = some c30
  f31 : tb.fns 31 = some c31
  f32 : tb.fns 32 = some c32
  f33 : tb.fns 33 = some c33
theorem LibWr.at {tb : Tab} (h : LibWr tb) {n : Nat} (hn : n < 67) : tb.tg[n]? = some (PI.tgs n) := by rw [h.tgs]; exact tg_at hn
theorem LibWr.lt {tb : Tab} (h : LibWr tb) {n : Nat} (hn : n < 67) : n < tb.tg.length := by have := h.n.tg; omega
def Re.wd : Re → List D
  | .num i => [.str (numS i)]
  | .slot i => [.str (tgs 20 ++ numS i)]
  | .pair w a b => .tag w :: (a.wd ++ b.wd)
def argsWd (as : List Re) : List D := .tag 21 :: (as.flatMap Re.wd ++ [.tag 22])
def Bd.wd : Bd → List D
  | .end_ e => .tag 6 :: e.wd
  | .say e b => .tag 7 :: (e.wd ++ b.wd)
  | .if_ e a b => .tag 8 :: (e.wd ++ (a.wd ++ b.wd))
  | .turn n as => .tag 9 :: .str (numS n) :: argsWd as
  | .through e as => .tag 10 :: (e.wd ++ argsWd as)
  | .with_ n as b => .tag 11 :: .str (numS n) :: (argsWd as ++ b.wd)
def prWd (ps : List (Int × Bd)) : List D := ps.flatMap fun p => .tag 24 :: .str (numS p.1) :: p.2.wd
theorem strs_app {T : List Str} : ∀ {a b : List D} {x y : List Str}, strsOf T a = some x → strsOf T b = some y → strsOf T (a ++ b) = some (x ++ y)
  | [], b, x, y, h, h2 => by cases h; exact h2
  | d :: a, b, x, y, h, h2 => by
    simp only [strsOf] at h
    cases e : strOf T d with
    | none => rw [e] at h; cases h
    | some z =>
      rw [e] at h
      obtain ⟨x', hx, rfl⟩ := Option.map_eq_some_iff.mp h
      simp only [List.cons_append, strsOf, e, strs_app hx h2, Option.map_some]
theorem strs_str {T : List Str} {x : Str} {a : List D} {w : List Str} (h : strsOf T a = some w) : strsOf T (.str x :: a) = some (x :: w) := by simp only [strsOf, strOf, h, Option.map_some]
theorem strs_tag {T : List Str} {n : Nat} {x : Str} {a : List D} {w : List Str} (ht : T[n]? = some x) (h : strsOf T a = some w) : strsOf T (.tag n :: a) = some (x :: w) := by simp only [strsOf, strOf, ht, h, Option.map_some]
theorem strs_len {T : List Str} : ∀ {a : List D} {x : List Str}, strsOf T a = some x → a.length = x.length
  | [], x, h => by cases h; rfl
  | d :: a, x, h => by
    simp only [strsOf] at h
    cases e : strOf T d with
    | none => rw [e] at h; cases h
    | some z =>
      rw [e] at h
      obtain ⟨x', hx, rfl⟩ := Option.map_eq_some_iff.mp h
      simp only [List.length_cons, strs_len hx]
theorem Re.wds {sl : Int} : ∀ (e : Re) {d : Nat}, e.ok sl d → strsOf TG e.wd = some e.w
  | .num i, d, h => rfl
  | .slot i, d, h => rfl
  | .pair w a b, d, h => by
    obtain ⟨hw, k, rfl, ha, hb⟩ := h
    exact strs_tag (tg_at (by omega)) (strs_app (a.wds ha) (b.wds hb))
theorem flat_wds {sl : Int} : ∀ {as : List Re}, (∀ a ∈ as, a.ok sl 3) → strsOf TG (as.flatMap Re.wd) = some (as.flatMap Re.w)
  | [], _ => rfl
  | a :: as, h => by
    rw [List.flatMap_cons, List.flatMap_cons]
    exact strs_app (a.wds (h a List.mem_cons_self)) (flat_wds fun x hx => h x (List.mem_cons_of_mem _ hx))
theorem args_wds {sl : Int} {as : List Re} (h : ∀ a ∈ as, a.ok sl 3) : strsOf TG (argsWd as) = some (argsW as) :=
  strs_tag (tg_at (by omega)) (strs_app (flat_wds h) (strs_tag (tg_at (by omega)) rfl))
theorem Bd.wds {cs : List Int} : ∀ (b : Bd) {sl : Int} {wi : Nat}, b.ok cs sl wi → strsOf TG b.wd = some b.w
  | .end_ e, sl, wi, h => strs_tag (tg_at (by omega)) (e.wds h.2.2)
  | .say e b, sl, wi, h => strs_tag (tg_at (by omega)) (strs_app (e.wds h.2.2.1) (b.wds h.2.2.2))
  | .if_ e a b, sl, wi, h => strs_tag (tg_at (by omega)) (strs_app (e.wds h.2.2.1) (strs_app (a.wds h.2.2.2.1) (b.wds h.2.2.2.2)))
  | .turn n as, sl, wi, h => strs_tag (tg_at (by omega)) (strs_str (args_wds h.2.2.2.2.2))
  | .through e as, sl, wi, h => strs_tag (tg_at (by omega)) (strs_app (e.wds h.2.2.2.1) (args_wds h.2.2.2.2))
  | .with_ n as b, sl, wi, h => strs_tag (tg_at (by omega)) (strs_str (strs_app (args_wds h.2.2.2.1.2.2) (b.wds h.2.2.2.2)))
theorem pr_wds {cs : List Int} : ∀ {ps : List (Int × Bd)}, (∀ p ∈ ps, 0 ≤ p.1 ∧ p.1 ≤ 3 ∧ p.2.ok cs p.1 0 ∧ p.2.parts ≤ 30) → strsOf TG (prWd ps) = some (prW ps)
  | [], _ => rfl
  | p :: ps, h => by
    have e1 : prWd (p :: ps) = (.tag 24 :: .str (numS p.1) :: p.2.wd) ++ prWd ps := by simp [prWd]
    have e2 : prW (p :: ps) = (tgs 24 :: numS p.1 :: p.2.w) ++ prW ps := by simp [prW]
    rw [e1, e2]
    exact strs_app (strs_tag (tg_at (by omega)) (strs_str (p.2.wds (h p List.mem_cons_self).2.2.1))) (pr_wds fun x hx => h x (List.mem_cons_of_mem _ hx))
section
variable {T : List Str} {s : Store} {c : Bool}
theorem str_int {i : Int} (h0 : 0 ≤ i) (h1 : i < 1000) : bltV T .str_ c [.int i] s = .ok (.str (numS i)) s := by
  have e : i.natAbs.log2 < 1920 := by
    have : i.natAbs < 2 ^ 10 := by omega
    by_cases z : i.natAbs = 0
    · rw [z]; decide
    · have := (Nat.log2_lt z).mpr this; omega
  have e2 : PyData.strOk (numS i) = true := (sm_num h0 h1).ok
  simp only [bltV]
  rw [if_pos ⟨e, e2⟩]
  rfl
theorem str_tag {n : Nat} : bltV T .str_ c [.tag n] s = .ok (.tag n) s := rfl
theorem add_ts {n : Nat} {a b : Str} (ht : T[n]? = some a) (hl : a.length + b.length ≤ LIM) : bopV T .add c (.tag n) (.str b) s = .ok (.str (a ++ b)) s := by
  simp only [bopV, addV, deref, ht, if_pos hl]
theorem ext_ll {k : Nat} {xs ys : List D} (h : s.f k = .lst xs) (hl : xs.length + ys.length ≤ LIM) : bmtV T .extend (.cell k) [.lst ys] s = .ok .non (s.set k (.lst (xs ++ ys))) := by
  simp only [bmtV, h, deref, if_pos hl]
theorem add_cl {k : Nat} {xs ys : List D} (h : s.f k = .lst xs) (hl : xs.length + ys.length ≤ LIM) : bopV T .add c (.cell k) (.lst ys) s = newL c (xs ++ ys) s := by
  simp only [bopV, addV, h, deref, if_pos hl]
theorem recv_j {n : Nat} : recvOk .join (.tag n) s = true := rfl
theorem joinV_ok {ds : List D} {ws : List Str} (hs : strsOf T ds = some ws) (hm : ∀ x ∈ ws, Sm x) (hl : wl ws ≤ LIM) : joinV T sp ds s = .ok (.str (Txt.join sp ws)) s := by
  have e1 : sp.length = 1 := by rw [len_tl, tl_sp] <;> rfl
  unfold joinV
  simp only [hs, e1]
  rw [if_pos ⟨by unfold wl at hl; omega, (sm_join hm).ok⟩]
theorem join_c {k : Nat} {ds : List D} {ws : List Str} (h23 : T[23]? = some sp) (hk : s.f k = .lst ds) (hs : strsOf T ds = some ws) (hm : ∀ x ∈ ws, Sm x) (hl : wl ws ≤ LIM) : bmtV T .join (.tag 23) [.cell k] s = .ok (.str (Txt.join sp ws)) s := by
  simp only [bmtV, strOf, h23, deref, hk, joinV_ok hs hm hl]
theorem join_l {ds : List D} {ws : List Str} (h23 : T[23]? = some sp) (hs : strsOf T ds = some ws) (hm : ∀ x ∈ ws, Sm x) (hl : wl ws ≤ LIM) : bmtV T .join (.tag 23) [.lst ds] s = .ok (.str (Txt.join sp ws)) s := by
  simp only [bmtV, strOf, h23, deref, joinV_ok hs hm hl]
end
theorem tg23 : TG[23]? = some sp := rfl
section
variable {tb : Tab} {W : Nat}
theorem LibWr.sp {tb : Tab} (h : LibWr tb) : tb.tg[23]? = some sp := by rw [h.tgs]; exact tg23
theorem wd_len {sl : Int} (hs : sl ≤ 1000) {e : Re} {d : Nat} (h : e.ok sl d) : e.wd.length + 9 ≤ 9 * 2 ^ (d + 1) := by
  have := (e.wk hs h).2.1
  have l := strs_len (e.wds h)
  have := len_wl e.w
  omega
theorem wordsOf (h : LibWr tb) {sl : Int} (hs : sl ≤ 1000) : ∀ (e : Re) (d n : Nat) (s : Store), e.ok sl d → d ≤ 3 → d + 2 ≤ n → Run tb W n 30 [e.d] s = .ok (.lst e.wd) s := by
  have tg : ∀ i, i < 67 → i < tb.tg.length := fun i hi => h.lt hi
  intro e
  induction e with
  | num i =>
    intro d n s hk hd hn
    obtain ⟨m, rfl⟩ : ∃ m, n = m + 2 := ⟨n - 2, by omega⟩
    rw [run_at h.f30 rfl]
    obtain ⟨k1, k2⟩ := hk
    simp [c30, Re.d, Re.wd, eq_tt (tg 13 (by omega)) (tg 13 (by omega)), str_int k1 k2, newL_f, evA, startE, List.map_cons, List.map_nil, List.length_cons, List.length_nil, List.replicate, List.cons_append, List.nil_append, List.set_cons_zero, List.set_cons_succ, List.getElem?_cons_zero, List.getElem?_cons_succ, Nat.add_sub_cancel, Nat.sub_self, Nat.reduceAdd, Nat.reduceSub, Int.reduceAdd, Int.reduceNeg, decide_true, decide_false, Bool.false_xor, Bool.true_xor, Bool.not_true, Bool.not_false]
  | slot i =>
    intro d n s hk hd hn
    obtain ⟨m, rfl⟩ : ∃ m, n = m + 2 := ⟨n - 2, by omega⟩
    rw [run_at h.f30 rfl]
    obtain ⟨k1, k2⟩ := hk
    have k3 : i < 1000 := by omega
    have l := len_num k1 k3
    have ls := (wkt (n := 20) (by omega) (by omega) (by omega)).len
    simp [c30, Re.d, Re.wd, eq_tt (tg 14 (by omega)) (tg 13 (by omega)), eq_tt (tg 14 (by omega)) (tg 14 (by omega)), str_int k1 k3, add_ts (h.at (show 20 < 67 by omega)) (show (tgs 20).length + (numS i).length ≤ LIM by unfold LIM; omega), newL_f, evA, startE, List.map_cons, List.map_nil, List.length_cons, List.length_nil, List.replicate, List.cons_append, List.nil_append, List.set_cons_zero, List.set_cons_succ, List.getElem?_cons_zero, List.getElem?_cons_succ, Nat.add_sub_cancel, Nat.sub_self, Nat.reduceAdd, Nat.reduceSub, Int.reduceAdd, Int.reduceNeg, decide_true, decide_false, Bool.false_xor, Bool.true_xor, Bool.not_true, Bool.not_false]
  | pair w a b iha ihb =>
    intro d n s hk hd hn
    obtain ⟨hw, k, rfl, ka, kb⟩ := hk
    obtain ⟨m, rfl⟩ : ∃ m, n = m + 2 := ⟨n - 2, by omega⟩
    rw [run_at h.f30 rfl]
    have ia := iha k (m + 1) s ka (by omega) (by omega)
    have ib := ihb k (m + 1) s kb (by omega) (by omega)
    have la := wd_len hs ka
    have lb := wd_len hs kb
    have lp : 2 ^ (k + 1) ≤ 2 ^ 3 := Nat.pow_le_pow_right (by omega) (by omega)
    have l1 : [D.tag w].length + a.wd.length ≤ LIM := by unfold LIM; simp only [List.length_cons, List.length_nil]; omega
    have l2 : (D.tag w :: a.wd).length + b.wd.length ≤ LIM := by unfold LIM; simp only [List.length_cons, List.length_nil]; omega
    have n13 : ¬ w = 13 := by omega
    have n14 : ¬ w = 14 := by omega
    simp [c30, Re.d, Re.wd, eq_tt (tg w (by omega)) (tg 13 (by omega)), eq_tt (tg w (by omega)) (tg 14 (by omega)), n13, n14, ia, ib, newL_f, add_ll l1, add_ll l2, evA, startE, List.map_cons, List.map_nil, List.length_cons, List.length_nil, List.replicate, List.cons_append, List.nil_append, List.set_cons_zero, List.set_cons_succ, List.getElem?_cons_zero, List.getElem?_cons_succ, Nat.add_sub_cancel, Nat.sub_self, Nat.reduceAdd, Nat.reduceSub, Int.reduceAdd, Int.reduceNeg, decide_true, decide_false, Bool.false_xor, Bool.true_xor, Bool.not_true, Bool.not_false]
theorem wordsOf3 (h : LibWr tb) {sl : Int} (hs : sl ≤ 1000) {e : Re} {n : Nat} {s : Store} (k : e.ok sl 3) (hn : 5 ≤ n) : Run tb W n 30 [e.d] s = .ok (.lst e.wd) s := wordsOf h hs e 3 n s k (by omega) hn
theorem flatD_len {sl : Int} (hs : sl ≤ 1000) {as : List Re} (h : ∀ a ∈ as, a.ok sl 3) : (as.flatMap Re.wd).length ≤ 135 * as.length := by
  have l := strs_len (flat_wds h)
  have := (flat_wk hs h).2
  have := len_wl (as.flatMap Re.w)
  omega
theorem argsWords (h : LibWr tb) {sl : Int} (hs : sl ≤ 1000) {as : List Re} (ha : ∀ a ∈ as, a.ok sl 3) (hl : as.length ≤ 30) {n : Nat} {s : Store} (hn : 7 ≤ n) :
    wp (Run tb W n 31 [.tup (as.map Re.d)] s) fun d s' => d = .lst (argsWd as) ∧ Kept s s' := by
  obtain ⟨m, rfl⟩ : ∃ m, n = m + 2 := ⟨n - 2, by omega⟩
  suffices H : ∀ Q : D → Store → Prop, (∀ s', Kept s s' → Q (.lst (argsWd as)) s') → wp (Run tb W (m + 2) 31 [.tup (as.map Re.d)] s) Q from H _ fun s' k => ⟨rfl, k⟩
  intro Q hQ
  rw [run_at h.f31 rfl]
  simp only [c31, newLt, evA, startE, List.map_cons, List.map_nil, List.length_cons, List.length_nil, List.replicate, List.cons_append, List.nil_append, List.set_cons_zero, List.set_cons_succ, List.getElem?_cons_zero, List.getElem?_cons_succ, Nat.add_sub_cancel, Nat.sub_self, Nat.reduceAdd, Nat.reduceSub, Int.reduceAdd, Int.reduceNeg, decide_true, decide_false, Bool.false_xor, Bool.true_xor, Bool.not_true, Bool.not_false]
  refine wp_mono (for_list_wp (d := Re.d) (Inv := fun l env s' => ∃ x2 done, env = [some (.tup (as.map Re.d)), some (.cell s.n), x2] ∧ as = done ++ l ∧ s'.f s.n = .lst (.tag 21 :: done.flatMap Re.wd) ∧ Kept s s')
    (Post := fun f s' => ∃ x2, f = .nx [some (.tup (as.map Re.d)), some (.cell s.n), x2] ∧ s'.f s.n = .lst (.tag 21 :: as.flatMap Re.wd) ∧ Kept s s') ?_ ?_ (xs := as) ⟨none, [], rfl, rfl, new_same, Chg.new⟩) ?_
  · rintro a rest env s1 ⟨x2, done, rfl, e1, e2, e3⟩
    refine ⟨_, rfl, ?_⟩
    have hd : ∀ x ∈ done, x.ok sl 3 := fun x hx => ha x (by rw [e1]; exact List.mem_append_left _ hx)
    have haa : a.ok sl 3 := ha a (by rw [e1]; simp)
    have r := wordsOf3 (W := W) h hs (n := m + 1) (s := s1) haa (by omega)
    have l1 := flatD_len hs hd
    have l2 := wd_len hs haa
    have l3 : done.length ≤ 30 := by rw [e1, List.length_append] at hl; omega
    simp only [Nat.reduceAdd, Nat.reducePow, Nat.reduceMul] at l2
    have l4 : (D.tag 21 :: done.flatMap Re.wd).length + a.wd.length ≤ LIM := by unfold LIM; rw [List.length_cons]; omega
    have ex := ext_ll (T := tb.tg) e2 l4
    simp [e2, r, ex, evA, startE, List.map_cons, List.map_nil, List.length_cons, List.length_nil, List.replicate, List.cons_append, List.nil_append, List.set_cons_zero, List.set_cons_succ, List.getElem?_cons_zero, List.getElem?_cons_succ, Nat.add_sub_cancel, Nat.sub_self, Nat.reduceAdd, Nat.reduceSub, Int.reduceAdd, Int.reduceNeg, decide_true, decide_false, Bool.false_xor, Bool.true_xor, Bool.not_true, Bool.not_false]
    refine ⟨done ++ [a], by rw [e1]; simp, ?_, e3.setNew (Nat.le_refl _)⟩
    simp
  · rintro env s1 ⟨x2, done, rfl, e1, e2, e3⟩
    rw [List.append_nil] at e1
    subst e1
    exact ⟨x2, rfl, e2, e3⟩
  · rintro _ s1 ⟨x2, rfl, e2, e3⟩
    have l1 := flatD_len hs ha
    have l4 : (D.tag 21 :: as.flatMap Re.wd).length + [D.tag 22].length ≤ LIM := by unfold LIM; rw [List.length_cons]; simp only [List.length_cons, List.length_nil]; omega
    have ad := add_cl (T := tb.tg) (c := false) e2 l4
    simp [newL_f, ad, evA, startE, List.map_cons, List.map_nil, List.length_cons, List.length_nil, List.replicate, List.cons_append, List.nil_append, List.set_cons_zero, List.set_cons_succ, List.getElem?_cons_zero, List.getElem?_cons_succ, Nat.add_sub_cancel, Nat.sub_self, Nat.reduceAdd, Nat.reduceSub, Int.reduceAdd, Int.reduceNeg, decide_true, decide_false, Bool.false_xor, Bool.true_xor, Bool.not_true, Bool.not_false]
    exact hQ s1 e3
def Bd.len (b : Bd) : Nat := b.wd.length
theorem bd_len {cs : List Int} (hc : cs.length ≤ 5) {b : Bd} {sl : Int} {wi : Nat} (h : b.ok cs sl wi) : b.wd.length ≤ 4500 * b.parts := by
  have := (b.wk hc h).2.1
  have l := strs_len (b.wds h)
  have := len_wl b.w
  omega
def c32f : Ss := match c32.code with
  | .cons _ (.cons _ (.cons _ (.cons (.for_ _ _ b) _))) => b
  | _ => .nil
/-- what lies within is written, one after the other -/
theorem bodyTail (h : LibWr tb) {m : Nat} {bs : List Bd} {x0 : Option D} {k : Nat} (hk : ∀ b ∈ bs, ∀ s : Store, wp (Run tb W (m + 1) 32 [b.d] s) fun d s' => d = .lst b.wd ∧ Kept s s') (N : Nat) (hN : N ≤ 1000) (hb : ∀ b ∈ bs, b.wd.length ≤ 300000) (hb2 : bs.length ≤ 2) {s0 : Store} (hk0 : s0.n ≤ k) :
    ∀ {ys : List D} {s : Store} (x2 : Option D), s.f k = .lst ys → k < s.n → Kept s0 s → ys.length ≤ 300000 →
    wp (forL (bindC (.name 2)) (evalSs (GG tb W m) c32f) (bs.map Bd.d) [x0, some (.cell k), x2] s) fun f s' => ∃ x2, f = .nx [x0, some (.cell k), x2] ∧ s'.f k = .lst (ys ++ bs.flatMap Bd.wd) ∧ Kept s0 s' := by
  intro ys s x2 h1 h2 h3 h4
  refine wp_mono (for_list_wp (d := Bd.d) (Inv := fun l env s' => ∃ x2 done, env = [x0, some (.cell k), x2] ∧ bs = done ++ l ∧ s'.f k = .lst (ys ++ done.flatMap Bd.wd) ∧ k < s'.n ∧ Kept s0 s')
    (Post := fun f s' => ∃ x2, f = .nx [x0, some (.cell k), x2] ∧ s'.f k = .lst (ys ++ bs.flatMap Bd.wd) ∧ Kept s0 s') ?_ ?_ (xs := bs) ⟨x2, [], rfl, rfl, by simpa using h1, h2, h3⟩) fun f s' q => q
  · rintro b rest env s1 ⟨x2, done, rfl, e1, e2, e4, e3⟩
    refine ⟨_, rfl, ?_⟩
    have hbm : b ∈ bs := by rw [e1]; simp
    obtain ⟨d, s2, er, rfl, kp⟩ := wp_iff.mp (hk b hbm s1)
    have l3 : (done.flatMap Bd.wd).length ≤ 300000 := by
      rw [e1] at hb2 hb
      simp only [List.length_append, List.length_cons] at hb2
      rcases done with _ | ⟨z, _ | ⟨z2, r⟩⟩
      · simp
      · have := hb z (by simp); simpa using this
      · simp only [List.length_cons] at hb2; omega
    have l4 : (ys ++ done.flatMap Bd.wd).length + b.wd.length ≤ LIM := by have := hb b hbm; unfold LIM; rw [List.length_append]; omega
    have e5 : s2.f k = .lst (ys ++ done.flatMap Bd.wd) := by rw [kp.f e4]; exact e2
    have ex := ext_ll (T := tb.tg) e5 l4
    simp [c32f, c32, e2, er, ex, evA, startE, List.map_cons, List.map_nil, List.length_cons, List.length_nil, List.replicate, List.cons_append, List.nil_append, List.set_cons_zero, List.set_cons_succ, List.getElem?_cons_zero, List.getElem?_cons_succ, Nat.add_sub_cancel, Nat.sub_self, Nat.reduceAdd, Nat.reduceSub, Int.reduceAdd, Int.reduceNeg, decide_true, decide_false, Bool.false_xor, Bool.true_xor, Bool.not_true, Bool.not_false]
    refine ⟨done ++ [b], by rw [e1]; simp, by simp, kp.lt e4, (e3.trans kp).setNew hk0⟩
  · rintro env s1 ⟨x2, done, rfl, e1, e2, _, e3⟩
    rw [List.append_nil] at e1
    subst e1
    exact ⟨x2, rfl, e2, e3⟩
theorem bodyWords (h : LibWr tb) {cs : List Int} (hc : cs.length ≤ 5) : ∀ (k : Nat) (b : Bd) (sl : Int) (wi n : Nat) (s : Store), b.dep ≤ k → b.ok cs sl wi → b.parts ≤ 60 → k + 9 ≤ n → wp (Run tb W n 32 [b.d] s) fun d s' => d = .lst b.wd ∧ Kept s s' := by
  intro k
  have tg : ∀ i, i < 67 → i < tb.tg.length := fun i hi => h.lt hi
  have step : ∀ (b : Bd) (sl : Int) (wi m : Nat) (s : Store), b.ok cs sl wi → b.parts ≤ 60 → 7 ≤ m → (∀ x ∈ b.inner, ∀ s : Store, wp (Run tb W (m + 1) 32 [x.d] s) fun d s' => d = .lst x.wd ∧ Kept s s') → wp (Run tb W (m + 2) 32 [b.d] s) fun d s' => d = .lst b.wd ∧ Kept s s' := by
    intro b sl wi m s hb hp hm ih
    suffices H : ∀ Q : D → Store → Prop, (∀ s', Kept s s' → Q (.lst b.wd) s') → wp (Run tb W (m + 2) 32 [b.d] s) Q from H _ fun s' k => ⟨rfl, k⟩
    intro Q hQ
    rw [run_at h.f32 rfl]
    -- reckoning first, then what lies within
    have plain : ∀ (w : Nat) (e : Re) (bs : List Bd) (r : List D), (w = 6 ∨ w = 7 ∨ w = 8) → e.ok sl 3 → sl ≤ 8 → b.d = .tup (.tag w :: e.d :: r) → r = bs.map Bd.d → cutD (.tag w :: e.d :: r) (some 2) none = r → b.inner = bs → b.wd = .tag w :: (e.wd ++ bs.flatMap Bd.wd) → bs.length ≤ 2 → (∀ x ∈ bs, x.wd.length ≤ 300000) → wp ((evalSs (GG tb W m) c32.code (startE c32.slots [b.d]) s).bind finK) Q := by
      intro w e bs r hw he hsl hd hr hcut hin hwd hl hL
      subst hr
      rw [hwd] at hQ
      rw [hin] at ih
      have r1 := wordsOf3 (W := W) (s := s) h (show sl ≤ 1000 by omega) (n := m + 1) he (by omega)
      have l1 := wd_len (show sl ≤ 1000 by omega) he
      simp only [Nat.reduceAdd, Nat.reducePow, Nat.reduceMul] at l1
      have l2 : [D.tag w].length + e.wd.length ≤ LIM := by unfold LIM; simp only [List.length_cons, List.length_nil]; omega
      have b9 : (9 == w) = false := beq_eq_false_iff_ne.mpr (by omega)
      have b11 : (11 == w) = false := beq_eq_false_iff_ne.mpr (by omega)
      have n10 : ¬ w = 10 := by omega
      have bt := bodyTail (W := W) h (m := m) (bs := bs) (x0 := some (.tup (.tag w :: e.d :: bs.map Bd.d))) (k := s.n) (fun x hx s => ih x hx s) 0 (by omega) hL hl (s0 := s) (Nat.le_refl _) (ys := .tag w :: e.wd) (s := s.new (.lst (.tag w :: e.wd))) none new_same (by rw [new_n]; omega) Chg.new (by rw [List.length_cons]; omega)
      simp only [c32f, c32] at bt
      have sl2 : ∀ s : Store, slcV tb.tg false (.tup (.tag w :: e.d :: bs.map Bd.d)) (some 2) none s = .ok (.tup (bs.map Bd.d)) s := fun s => by simp only [slcV, qdr_tupl, hcut]
      rw [hd]
      simp [c32, in_tup (T := tb.tg), flatD, eqvD, b9, b11, r1, newL_f, add_ll l2, newLt, eq_tt (tg w (by omega)) (tg 10 (by omega)), n10, sl2, evA, startE, List.map_cons, List.map_nil, List.length_cons, List.length_nil, List.replicate, List.cons_append, List.nil_append, List.set_cons_zero, List.set_cons_succ, List.getElem?_cons_zero, List.getElem?_cons_succ, Nat.add_sub_cancel, Nat.sub_self, Nat.reduceAdd, Nat.reduceSub, Int.reduceAdd, Int.reduceNeg, decide_true, decide_false, Bool.false_xor, Bool.true_xor, Bool.not_true, Bool.not_false]
      refine wp_mono bt ?_
      rintro _ s2 ⟨x2, rfl, e2, e3⟩
      simp [e2, evA, startE, List.map_cons, List.map_nil, List.length_cons, List.length_nil, List.replicate, List.cons_append, List.nil_append, List.set_cons_zero, List.set_cons_succ, List.getElem?_cons_zero, List.getElem?_cons_succ, Nat.add_sub_cancel, Nat.sub_self, Nat.reduceAdd, Nat.reduceSub, Int.reduceAdd, Int.reduceNeg, decide_true, decide_false, Bool.false_xor, Bool.true_xor, Bool.not_true, Bool.not_false]
      exact hQ _ (e3.setNew (Nat.le_refl _))
    cases b with
    | end_ e => exact plain 6 e [] [] (by omega) hb.2.2 hb.2.1 rfl rfl rfl rfl (by simp [Bd.wd]) (by simp) (fun x hx => by cases hx)
    | say e b =>
      have hl := bd_len hc hb.2.2.2
      have : b.parts ≤ 60 := by simp only [Bd.parts] at hp; omega
      exact plain 7 e [b] [b.d] (by omega) hb.2.2.1 hb.2.1 rfl rfl rfl rfl (by simp [Bd.wd]) (by simp) (fun x hx => by rw [List.mem_singleton.mp hx]; omega)
    | if_ e a b =>
      have hl := bd_len hc hb.2.2.2.1
      have hl2 := bd_len hc hb.2.2.2.2
      have p1 : a.parts ≤ 60 := by simp only [Bd.parts] at hp; omega
      have p2 : b.parts ≤ 60 := by simp only [Bd.parts] at hp; omega
      exact plain 8 e [a, b] [a.d, b.d] (by omega) hb.2.2.1 hb.2.1 rfl rfl rfl rfl (by simp [Bd.wd]) (by simp) (fun x hx => by
        simp only [List.mem_cons, List.not_mem_nil, or_false] at hx
        rcases hx with rfl | rfl <;> omega)
    | turn q as =>
      obtain ⟨h1, h2, h3, h4⟩ := hb
      obtain ⟨q0, q1, _⟩ := argsOk_lt hc h4
      have fl := flatD_len (show sl ≤ 1000 by omega) h4.2.2
      obtain ⟨d, s1, er, rfl, kp⟩ := wp_iff.mp (argsWords (W := W) (s := s) h (show sl ≤ 1000 by omega) h4.2.2 h3 (n := m + 1) (by omega))
      have la : (argsWd as).length ≤ 5000 := by simp only [argsWd, List.length_cons, List.length_append, List.length_nil]; omega
      have l1 : [D.tag 9, .str (numS q)].length + (argsWd as).length ≤ LIM := by unfold LIM; simp only [List.length_cons, List.length_nil]; omega
      have l2 : (D.tag 9 :: .str (numS q) :: argsWd as).length + ([] : List D).length ≤ LIM := by unfold LIM; simp only [List.length_cons, List.length_nil]; omega
      have ad := add_cl (T := tb.tg) (c := false) (s := s1.new (.lst (.tag 9 :: .str (numS q) :: argsWd as))) (k := s1.n) new_same l2
      simp [c32, Bd.d, in_tup (T := tb.tg), flatD, eqvD, str_int q0 q1, er, newL_f, add_ll l1, newLt, eq_tt (tg 9 (by omega)) (tg 11 (by omega)), ad, evA, startE, List.map_cons, List.map_nil, List.length_cons, List.length_nil, List.replicate, List.cons_append, List.nil_append, List.set_cons_zero, List.set_cons_succ, List.getElem?_cons_zero, List.getElem?_cons_succ, Nat.add_sub_cancel, Nat.sub_self, Nat.reduceAdd, Nat.reduceSub, Int.reduceAdd, Int.reduceNeg, decide_true, decide_false, Bool.false_xor, Bool.true_xor, Bool.not_true, Bool.not_false]
      exact hQ _ (kp.trans Chg.new)
    | through e as =>
      obtain ⟨h1, h2, h3, h4, h5⟩ := hb
      have fl := flatD_len (show sl ≤ 1000 by omega) h5
      have r1 := wordsOf3 (W := W) (s := s) h (show sl ≤ 1000 by omega) (n := m + 1) h4 (by omega)
      have l1 := wd_len (show sl ≤ 1000 by omega) h4
      simp only [Nat.reduceAdd, Nat.reducePow, Nat.reduceMul] at l1
      have l2 : [D.tag 10].length + e.wd.length ≤ LIM := by unfold LIM; simp only [List.length_cons, List.length_nil]; omega
      obtain ⟨d, s1, er, rfl, kp⟩ := wp_iff.mp (argsWords (W := W) (s := s.new (.lst (.tag 10 :: e.wd))) h (show sl ≤ 1000 by omega) h5 (by omega) (n := m + 1) (by omega))
      have la : (argsWd as).length ≤ 5000 := by simp only [argsWd, List.length_cons, List.length_append, List.length_nil]; omega
      have l3 : (D.tag 10 :: e.wd).length + (argsWd as).length ≤ LIM := by unfold LIM; rw [List.length_cons]; omega
      have hk : s1.f s.n = .lst (.tag 10 :: e.wd) := by rw [kp.f (by rw [new_n]; omega)]; exact new_same
      have ad := add_cl (T := tb.tg) (c := false) hk l3
      simp [c32, Bd.d, in_tup (T := tb.tg), flatD, eqvD, r1, newL_f, add_ll l2, newLt, eq_tt (tg 10 (by omega)) (tg 10 (by omega)), er, ad, evA, startE, List.map_cons, List.map_nil, List.length_cons, List.length_nil, List.replicate, List.cons_append, List.nil_append, List.set_cons_zero, List.set_cons_succ, List.getElem?_cons_zero, List.getElem?_cons_succ, Nat.add_sub_cancel, Nat.sub_self, Nat.reduceAdd, Nat.reduceSub, Int.reduceAdd, Int.reduceNeg, decide_true, decide_false, Bool.false_xor, Bool.true_xor, Bool.not_true, Bool.not_false]
      exact hQ _ (Chg.new.trans kp)
    | with_ q as b =>
      obtain ⟨h1, h2, h3, h4, h5⟩ := hb
      obtain ⟨q0, q1, _⟩ := argsOk_lt hc h4
      have fl := flatD_len (show sl ≤ 1000 by omega) h4.2.2
      obtain ⟨d, s1, er, rfl, kp⟩ := wp_iff.mp (argsWords (W := W) (s := s) h (show sl ≤ 1000 by omega) h4.2.2 h3 (n := m + 1) (by omega))
      have la : (argsWd as).length ≤ 5000 := by simp only [argsWd, List.length_cons, List.length_append, List.length_nil]; omega
      have l1 : [D.tag 11, .str (numS q)].length + (argsWd as).length ≤ LIM := by unfold LIM; simp only [List.length_cons, List.length_nil]; omega
      obtain ⟨d, s2, er2, rfl, kp2⟩ := wp_iff.mp (ih b (by simp [Bd.inner]) (s1.new (.lst (.tag 11 :: .str (numS q) :: argsWd as))))
      have lb := bd_len hc h5
      have p2 : b.parts ≤ 60 := by simp only [Bd.parts] at hp; omega
      have l2 : (D.tag 11 :: .str (numS q) :: argsWd as).length + b.wd.length ≤ LIM := by unfold LIM; simp only [List.length_cons]; omega
      have hk : s2.f s1.n = .lst (.tag 11 :: .str (numS q) :: argsWd as) := by rw [kp2.f (by rw [new_n]; omega)]; exact new_same
      have ad := add_cl (T := tb.tg) (c := false) hk l2
      simp [c32, Bd.d, in_tup (T := tb.tg), flatD, eqvD, str_int q0 q1, er, newL_f, add_ll l1, newLt, eq_tt (tg 11 (by omega)) (tg 11 (by omega)), er2, ad, evA, startE, List.map_cons, List.map_nil, List.length_cons, List.length_nil, List.replicate, List.cons_append, List.nil_append, List.set_cons_zero, List.set_cons_succ, List.getElem?_cons_zero, List.getElem?_cons_succ, Nat.add_sub_cancel, Nat.sub_self, Nat.reduceAdd, Nat.reduceSub, Int.reduceAdd, Int.reduceNeg, decide_true, decide_false, Bool.false_xor, Bool.true_xor, Bool.not_true, Bool.not_false]
      exact hQ _ ((kp.trans Chg.new).trans kp2)
  induction k with
  | zero =>
    intro b sl wi n s hd hb hp hn
    obtain ⟨m, rfl⟩ : ∃ m, n = m + 2 := ⟨n - 2, by omega⟩
    exact step b sl wi m s hb hp (by omega) fun x hx => by have := inner_dep hx; omega
  | succ k ih =>
    intro b sl wi n s hd hb hp hn
    obtain ⟨m, rfl⟩ : ∃ m, n = m + 2 := ⟨n - 2, by omega⟩
    refine step b sl wi m s hb hp (by omega) fun x hx s => ?_
    have := inner_dep hx
    have hpx : x.parts ≤ 60 := by
      cases b with
      | say e b => simp only [Bd.inner, List.mem_singleton] at hx; subst hx; simp only [Bd.parts] at hp; omega
      | if_ e a b =>
        simp only [Bd.inner, List.mem_cons, List.not_mem_nil, or_false] at hx
        simp only [Bd.parts] at hp
        rcases hx with rfl | rfl <;> omega
      | with_ n as b => simp only [Bd.inner, List.mem_singleton] at hx; subst hx; simp only [Bd.parts] at hp; omega
      | _ => cases hx
    exact ih x _ (wi + 1) (m + 1) s (by omega) (inner_ok hb x hx) hpx (by omega)
theorem written_ (h : LibWr tb) {ps : List (Int × Bd)} (hp : PrOk ps) {X : D} {n : Nat} {s : Store} (hX : IsX s X ps) (hn : 25 ≤ n) (hW : 10 ≤ W) :
    wp (Run tb W n 33 [X] s) fun d s' => d = .str (prT ps) ∧ Kept s s' := by
  obtain ⟨m, rfl⟩ : ∃ m, n = m + 2 := ⟨n - 2, by omega⟩
  suffices H : ∀ Q : D → Store → Prop, (∀ s', Kept s s' → Q (.str (prT ps)) s') → wp (Run tb W (m + 2) 33 [X] s) Q from H _ fun s' k => ⟨rfl, k⟩
  intro Q hQ
  rw [run_at h.f33 rfl]
  have np := needProgramX (W := W) h.n hp (n := m + 1) (s := s) hX (by omega)
  obtain ⟨w1, w2, w3⟩ := pr_wk' hp
  have sp0 := pr_wds (ps := ps) hp.ok
  have hcs : (ps.map (·.1)).length ≤ 5 := by rw [List.length_map]; exact hp.len.2
  have lst : ∀ done rest : List (Int × Bd), ps = done ++ rest → (prWd done).length + (prWd rest).length ≤ 700000 := fun done rest e => by
    have l := strs_len sp0
    have := len_wl (prW ps)
    have e2 : prWd ps = prWd done ++ prWd rest := by rw [e]; simp [prWd]
    rw [e2, List.length_append] at l
    omega
  simp only [c33, np, newLt, evA, startE, List.map_cons, List.map_nil, List.length_cons, List.length_nil, List.replicate, List.cons_append, List.nil_append, List.set_cons_zero, List.set_cons_succ, List.getElem?_cons_zero, List.getElem?_cons_succ, Nat.add_sub_cancel, Nat.sub_self, Nat.reduceAdd, Nat.reduceSub, Int.reduceAdd, Int.reduceNeg, decide_true, decide_false, Bool.false_xor, Bool.true_xor, Bool.not_true, Bool.not_false]
  refine wp_mono (forK_isL (d0 := fun (p : Int × Bd) => D.tup [.int p.1, p.2.d]) (all := ps) (Inv := fun l env s' => ∃ x2 x3 done, env = [some X, some (.cell s.n), x2, x3] ∧ ps = done ++ l ∧ s'.f s.n = .lst (prWd done) ∧ s.n < s'.n ∧ Kept s s')
    (Post := fun f s' => ∃ x2 x3, f = .nx [some X, some (.cell s.n), x2, x3] ∧ s'.f s.n = .lst (prWd ps) ∧ Kept s s') (hX.kept Chg.new) (by have := hp.len.2; show ps.length < W; omega) ?_ ?_ ?_ ⟨none, none, [], rfl, rfl, new_same, Nat.lt_succ_self _, Chg.new⟩) ?_
  · rintro l env s' ⟨x2, x3, done, rfl, e1, e2, e4, e3⟩
    exact hX.kept e3
  · rintro p rest env s1 ⟨x2, x3, done, rfl, e1, e2, e4, e3⟩
    have hpm : p ∈ ps := by rw [e1]; simp
    obtain ⟨p0, p1, p2, p3⟩ := hp.ok p hpm
    refine ⟨[some X, some (.cell s.n), some (.int p.1), some p.2.d], rfl, ?_⟩
    have hd := ok_dep _ _ _ p2
    obtain ⟨d, s2, er, rfl, kp⟩ := wp_iff.mp (bodyWords (W := W) h hcs 6 p.2 p.1 0 (m + 1) s1 (by omega) p2 (by omega) (by omega))
    have ll := lst done (p :: rest) e1
    have ep : prWd (p :: rest) = .tag 24 :: .str (numS p.1) :: p.2.wd ++ prWd rest := by simp [prWd]
    rw [ep] at ll
    simp only [List.cons_append, List.length_cons, List.length_append] at ll
    have l1 : [D.tag 24, .str (numS p.1)].length + p.2.wd.length ≤ LIM := by unfold LIM; simp only [List.length_cons, List.length_nil]; omega
    have l2 : (prWd done).length + (D.tag 24 :: .str (numS p.1) :: p.2.wd).length ≤ LIM := by unfold LIM; simp only [List.length_cons]; omega
    have hk : s2.f s.n = .lst (prWd done) := by rw [kp.f e4]; exact e2
    have ex := ext_ll (T := tb.tg) hk l2
    simp [e2, str_int p0 (show p.1 < 1000 by omega), er, newL_f, add_ll l1, ex, evA, startE, List.map_cons, List.map_nil, List.length_cons, List.length_nil, List.replicate, List.cons_append, List.nil_append, List.set_cons_zero, List.set_cons_succ, List.getElem?_cons_zero, List.getElem?_cons_succ, Nat.add_sub_cancel, Nat.sub_self, Nat.reduceAdd, Nat.reduceSub, Int.reduceAdd, Int.reduceNeg, decide_true, decide_false, Bool.false_xor, Bool.true_xor, Bool.not_true, Bool.not_false]
    refine ⟨done ++ [p], by rw [e1]; simp, by simp [prWd], kp.lt e4, (e3.trans kp).setNew (Nat.le_refl _)⟩
  · rintro env s1 ⟨x2, x3, done, rfl, e1, e2, _, e3⟩
    rw [List.append_nil] at e1
    subst e1
    exact ⟨x2, x3, rfl, e2, e3⟩
  · rintro _ s1 ⟨x2, x3, rfl, e2, e3⟩
    have jo := join_c (T := tb.tg) (s := s1) h.sp e2 (by rw [h.tgs]; exact sp0) (fun x hx => (w1 x hx).sm) (by unfold LIM; omega)
    simp [recv_j, jo, evA, startE, List.map_cons, List.map_nil, List.length_cons, List.length_nil, List.replicate, List.cons_append, List.nil_append, List.set_cons_zero, List.set_cons_succ, List.getElem?_cons_zero, List.getElem?_cons_succ, Nat.add_sub_cancel, Nat.sub_self, Nat.reduceAdd, Nat.reduceSub, Int.reduceAdd, Int.reduceNeg, decide_true, decide_false, Bool.false_xor, Bool.true_xor, Bool.not_true, Bool.not_false]
    exact hQ s1 e3
end
end PI

namespace PI
open PySem L2 TL
structure LibLt (tb : Tab) : Prop where
  tg : 67 ≤ tb.tg.length
  tgs : tb.tg = TG
  f100 : tb.fns 100 = some c100
  f101 : tb.fns 101 = some c101
def c100b : Ss := match c100.code with
  | .cons _ (.cons _ (.cons _ (.cons (.for_ _ _ b) _))) => b
  | _ => .nil
theorem isi_t4 {s : Store} {xs : List D} : isiV [4] (.tup xs) s = .ok (.bl true) s := rfl
theorem isi_g4 {s : Store} {n : Nat} : isiV [4] (.tag n) s = .ok (.bl false) s := rfl
theorem isi_i4 {s : Store} {n : Int} : isiV [4] (.int n) s = .ok (.bl false) s := rfl
theorem datL_of {T : Nat} {xs : List D} (h : ∀ x ∈ xs, datD T x = true) : datL T xs = true := by
  induction xs with
  | nil => rfl
  | cons x xs ih => simp only [datL, h x List.mem_cons_self, ih fun y hy => h y (List.mem_cons_of_mem _ hy), Bool.and_self]
theorem eq_emp {T : List Str} {s : Store} {neg : Bool} {x : D} {r : List D} (h : datD T.length (.tup (x :: r)) = true) : eqV' T neg (.tup (x :: r)) (.tup []) s = .ok (.bl (xor neg false)) s := by
  have q : eqvD T (.tup (x :: r)) (.tup []) = false := by simp [eqvD, eqvL]
  simp [eqV', deref, h, q, datD, datL, depD, depL]
theorem strs_map {T : List Str} : ∀ as : List Re, strsOf T (as.map fun a => D.str (Txt.join sp a.w)) = some ((as.map Re.w).map (Txt.join sp))
  | [] => rfl
  | a :: as => strs_str (strs_map as)
theorem wl_map : ∀ {ps : List (List Str)}, (∀ p ∈ ps, p ≠ []) → wl (ps.map (Txt.join sp)) = wl ps.flatten
  | [], _ => rfl
  | p :: ps, hh => by
    rw [List.map_cons, wl_cons, wl_map fun x hx => hh x (List.mem_cons_of_mem _ hx), join_len (hh p List.mem_cons_self), List.flatten_cons, wl_app]
section
variable {tb : Tab} {W : Nat}
theorem LibLt.at (h : LibLt tb) {n : Nat} (hn : n < 67) : tb.tg[n]? = some (PI.tgs n) := by rw [h.tgs]; exact tg_at hn
theorem LibLt.lt (h : LibLt tb) {n : Nat} (hn : n < 67) : n < tb.tg.length := by have := h.tg; omega
theorem LibLt.sp (h : LibLt tb) : tb.tg[23]? = some sp := by rw [h.tgs]; exact tg23
/-- a part of a tree gives a text -/
def PtOk (tb : Tab) (W m : Nat) (x : D) (ws : List Str) : Prop := ∀ (x0 x2 x3 : Option D) (k : Nat) (ys : List D) (s : Store), s.f k = .lst ys → k < s.n → ys.length < 1000 →
  wp (evalSs (GG tb W m) c100b [x0, some (.cell k), some x, x3] s) fun f s' => f = .nx [x0, some (.cell k), some x, x3] ∧ ∃ y, strOf tb.tg y = some (Txt.join sp ws) ∧ s'.f k = .lst (ys ++ [y]) ∧ Chg (· = k) s s'
theorem pt_tag (h : LibLt tb) {m w : Nat} (hw : w < 67) : PtOk tb W m (.tag w) [tgs w] := by
  intro x0 x2 x3 k ys s hk hkn hl
  have hL : ys.length < LIM := by unfold LIM; omega
  simp [c100b, c100, isi_g4, hk, str_tag, appC_lst hL, evA, startE, List.map_cons, List.map_nil, List.length_cons, List.length_nil, List.replicate, List.cons_append, List.nil_append, List.set_cons_zero, List.set_cons_succ, List.getElem?_cons_zero, List.getElem?_cons_succ, Nat.add_sub_cancel, Nat.sub_self, Nat.reduceAdd, Nat.reduceSub, Int.reduceAdd, Int.reduceNeg, decide_true, decide_false, Bool.false_xor, Bool.true_xor, Bool.not_true, Bool.not_false]
  exact ⟨_, by rw [join_one]; exact h.at hw, rfl, Chg.set rfl⟩
theorem pt_int {m : Nat} {i : Int} (h0 : 0 ≤ i) (h1 : i < 1000) : PtOk tb W m (.int i) [numS i] := by
  intro x0 x2 x3 k ys s hk hkn hl
  have hL : ys.length < LIM := by unfold LIM; omega
  simp [c100b, c100, isi_i4, hk, str_int h0 h1, appC_lst hL, evA, startE, List.map_cons, List.map_nil, List.length_cons, List.length_nil, List.replicate, List.cons_append, List.nil_append, List.set_cons_zero, List.set_cons_succ, List.getElem?_cons_zero, List.getElem?_cons_succ, Nat.add_sub_cancel, Nat.sub_self, Nat.reduceAdd, Nat.reduceSub, Int.reduceAdd, Int.reduceNeg, decide_true, decide_false, Bool.false_xor, Bool.true_xor, Bool.not_true, Bool.not_false]
  exact ⟨_, by rw [join_one]; rfl, rfl, Chg.set rfl⟩
theorem pt_call (h : LibLt tb) {m w : Nat} {r : List D} {ws : List Str} (hd : datD tb.tg.length (.tup (.tag w :: r)) = true) (hr : ∀ s : Store, wp (Run tb W (m + 1) 100 [.tup (.tag w :: r)] s) fun d s' => d = .str (Txt.join sp ws) ∧ Kept s s') : PtOk tb W m (.tup (.tag w :: r)) ws := by
  intro x0 x2 x3 k ys s hk hkn hl
  have hL : ys.length < LIM := by unfold LIM; omega
  obtain ⟨d, s1, er, rfl, kp⟩ := wp_iff.mp (hr s)
  have e1 : eqV' tb.tg false (.tup (.tag w :: r)) (.tup []) s = .ok (.bl false) s := by
    exact eq_emp hd
  have hk1 : s1.f k = .lst ys := by rw [kp.f hkn]; exact hk
  simp [c100b, c100, isi_t4, isi_g4, hk, hk1, e1, er, appC_lst hL, evA, startE, List.map_cons, List.map_nil, List.length_cons, List.length_nil, List.replicate, List.cons_append, List.nil_append, List.set_cons_zero, List.set_cons_succ, List.getElem?_cons_zero, List.getElem?_cons_succ, Nat.add_sub_cancel, Nat.sub_self, Nat.reduceAdd, Nat.reduceSub, Int.reduceAdd, Int.reduceNeg, decide_true, decide_false, Bool.false_xor, Bool.true_xor, Bool.not_true, Bool.not_false]
  exact ⟨_, rfl, rfl, (kp.imp fun _ h => h.elim).trans (Chg.set rfl)⟩
theorem pt_args (h : LibLt tb) {m : Nat} {sl : Int} (hsl : sl ≤ 1000) {as : List Re} (ha : ∀ a ∈ as, a.ok sl 3) (hl30 : as.length ≤ 30) (hr : ∀ a ∈ as, ∀ s : Store, wp (Run tb W (m + 1) 100 [a.d] s) fun d s' => d = .str (Txt.join sp a.w) ∧ Kept s s') : PtOk tb W m (.tup (as.map Re.d)) (argsW as) := by
  intro x0 x2 x3 k ys s hk hkn hl
  have hL : ys.length < LIM := by unfold LIM; omega
  suffices H : ∀ Q : F → Store → Prop, (∀ y s', strOf tb.tg y = some (Txt.join sp (argsW as)) → s'.f k = .lst (ys ++ [y]) → Chg (· = k) s s' → Q (.nx [x0, some (.cell k), some (.tup (as.map Re.d)), x3]) s') → wp (evalSs (GG tb W m) c100b [x0, some (.cell k), some (.tup (as.map Re.d)), x3] s) Q from
    H _ fun y s' a b c => ⟨rfl, y, a, b, c⟩
  intro Q hQ
  have c1 : wp (compL (bindW (.name 3) [3] [x0, some (.cell k), some (.tup (as.map Re.d)), x3]) (evalE (GG tb W m) (.cst (.bl true))) (evalE (GG tb W m) (.call 100 (.cons (.var 3) .nil))) (as.map Re.d) s) fun ts s' => ts = as.map (fun a => D.str (Txt.join sp a.w)) ∧ Kept s s' := by
    refine wp_mono (comp_list_wp (f := fun (a : Re) => D.str (Txt.join sp a.w)) (Inv := fun rest (done : List Re) s' => as = done ++ rest ∧ Kept s s') ?_ (xs := as) (done := []) (s := s) ⟨rfl, Chg.refl s⟩) ?_
    · rintro a rest done s1 ⟨e1, kp⟩
      refine ⟨_, rfl, by simp [evA, startE, List.map_cons, List.map_nil, List.length_cons, List.length_nil, List.replicate, List.cons_append, List.nil_append, List.set_cons_zero, List.set_cons_succ, List.getElem?_cons_zero, List.getElem?_cons_succ, Nat.add_sub_cancel, Nat.sub_self, Nat.reduceAdd, Nat.reduceSub, Int.reduceAdd, Int.reduceNeg, decide_true, decide_false, Bool.false_xor, Bool.true_xor, Bool.not_true, Bool.not_false], ?_⟩
      obtain ⟨d, s2, er, rfl, kp2⟩ := wp_iff.mp (hr a (by rw [e1]; simp) s1)
      simp [wipeD, er, evA, startE, List.map_cons, List.map_nil, List.length_cons, List.length_nil, List.replicate, List.cons_append, List.nil_append, List.set_cons_zero, List.set_cons_succ, List.getElem?_cons_zero, List.getElem?_cons_succ, Nat.add_sub_cancel, Nat.sub_self, Nat.reduceAdd, Nat.reduceSub, Int.reduceAdd, Int.reduceNeg, decide_true, decide_false, Bool.false_xor, Bool.true_xor, Bool.not_true, Bool.not_false]
      exact ⟨a, rfl, by rw [e1] <;> simp, kp.trans kp2⟩
    · rintro ts s1 ⟨more, rfl, e1, kp⟩
      rw [List.append_nil, List.nil_append] at e1
      subst e1
      exact ⟨rfl, kp⟩
  obtain ⟨ts, s1, ec, rfl, kp⟩ := wp_iff.mp c1
  have hk1 : s1.f k = .lst ys := by rw [kp.f hkn]; exact hk
  have hLr : (as.map Re.d).length ≤ LIM := by rw [List.length_map]; unfold LIM; omega
  have la : [D.tag 21].length + (as.map fun a => D.str (Txt.join sp a.w)).length ≤ LIM := by unfold LIM; rw [List.length_map]; simp only [List.length_cons, List.length_nil]; omega
  have lb : (D.tag 21 :: as.map fun a => D.str (Txt.join sp a.w)).length + [D.tag 22].length ≤ LIM := by unfold LIM; simp only [List.length_cons, List.length_nil, List.length_map]; omega
  have fw := flat_wk hsl ha
  have sm21 := (wkt (n := 21) (by omega) (by omega) (by omega))
  have sm22 := (wkt (n := 22) (by omega) (by omega) (by omega))
  have wne : ∀ a ∈ as, a.w ≠ [] := fun a hh => (Re.wk3 hsl (ha a hh)).2.2
  have es : strsOf tb.tg (D.tag 21 :: as.map (fun a => D.str (Txt.join sp a.w)) ++ [D.tag 22]) = some (([[tgs 21]] ++ as.map Re.w ++ [[tgs 22]]).map (Txt.join sp)) := by
    have e2 := strs_map (T := tb.tg) as
    rw [h.tgs] at e2 ⊢
    simp only [List.map_append, List.map_cons, List.map_nil, join_one]
    exact strs_tag (tg_at (by omega)) (strs_app e2 (strs_tag (tg_at (by omega)) rfl))
  have fl : ([[tgs 21]] ++ as.map Re.w ++ [[tgs 22]]).flatten = argsW as := by simp [argsW, List.flatMap_def]
  have ne : ∀ p ∈ [[tgs 21]] ++ as.map Re.w ++ [[tgs 22]], p ≠ [] := by
    intro p hp
    simp only [List.mem_append, List.mem_cons, List.not_mem_nil, or_false, List.mem_map] at hp
    rcases hp with (rfl | ⟨a, hh, rfl⟩) | rfl
    · simp
    · exact wne a hh
    · simp
  have jo := join_l (T := tb.tg) (s := s1) h.sp es (fun x hx => by
    obtain ⟨p, hp, rfl⟩ := List.mem_map.mp hx
    refine sm_join fun z hz => ?_
    have : z ∈ argsW as := by rw [← fl]; exact List.mem_flatten.mpr ⟨p, hp, hz⟩
    exact ((args_wk hsl ha hl30).1 z this).sm) (by rw [wl_map ne, fl]; have := (args_wk hsl ha hl30).2; unfold LIM; omega)
  rw [join_flat ne, fl] at jo
  have fin : ∀ Q : F → Store → Prop, Q (.nx [x0, some (.cell k), some (.tup (as.map Re.d)), x3]) (s1.set k (.lst (ys ++ [.str (Txt.join sp (argsW as))]))) → wp (evalSs (GG tb W m) c100b [x0, some (.cell k), some (.tup (as.map Re.d)), x3] s) Q := by
    intro Q hQ
    cases as with
    | nil =>
      have e0 : eqV' tb.tg false (.tup []) (.tup []) s = .ok (.bl true) s := by simp [eqV', deref, datD, datL, depD, depL, eqvD, eqvL]
      simp only [List.map_nil, List.cons_append, List.nil_append] at ec jo la lb hLr hQ ⊢
      have la' : [D.tag 21].length + ([] : List D).length ≤ LIM := la
      have lb' : [D.tag 21].length + [D.tag 22].length ≤ LIM := lb
      simp [c100b, c100, isi_t4, e0, hk, hk1, recv_j, newL_f, ec, kCmpr_some (xs := []) hLr, add_ll la', add_ll lb', jo, appC_lst hL, evA, startE, List.map_cons, List.map_nil, List.length_cons, List.length_nil, List.replicate, List.cons_append, List.nil_append, List.set_cons_zero, List.set_cons_succ, List.getElem?_cons_zero, List.getElem?_cons_succ, Nat.add_sub_cancel, Nat.sub_self, Nat.reduceAdd, Nat.reduceSub, Int.reduceAdd, Int.reduceNeg, decide_true, decide_false, Bool.false_xor, Bool.true_xor, Bool.not_true, Bool.not_false]
      exact hQ
    | cons a as =>
      obtain ⟨aw, ar, ead, ht⟩ : ∃ aw ar, a.d = .tup (.tag aw :: ar) ∧ aw < 67 := by
        cases a with
        | num i => exact ⟨13, _, rfl, by omega⟩
        | slot i => exact ⟨14, _, rfl, by omega⟩
        | pair w a b =>
          obtain ⟨hw, _⟩ := ha _ List.mem_cons_self
          exact ⟨w, _, rfl, by omega⟩
      have e0 : eqV' tb.tg false (.tup (a.d :: as.map Re.d)) (.tup []) s = .ok (.bl false) s := by
        have dd : datD tb.tg.length (.tup (a.d :: as.map Re.d)) = true := by
          simp only [datD, datL, Bool.and_eq_true]
          refine ⟨Re.dat h.tg a (ha a List.mem_cons_self), datL_of fun x hx => ?_⟩
          obtain ⟨y, hy, rfl⟩ := List.mem_map.mp hx
          exact Re.dat h.tg y (ha y (List.mem_cons_of_mem _ hy))
        exact eq_emp dd
      have i4 : isiV [4] a.d s = .ok (.bl true) s := by rw [ead]; rfl
      simp only [List.map_cons, List.cons_append] at ec jo la lb hLr hQ ⊢
      simp [c100b, c100, isi_t4, e0, i4, hk, hk1, recv_j, newL_f, ec, kCmpr_some hLr, add_ll la, add_ll lb, jo, appC_lst hL, evA, startE, List.map_cons, List.map_nil, List.length_cons, List.length_nil, List.replicate, List.cons_append, List.nil_append, List.set_cons_zero, List.set_cons_succ, List.getElem?_cons_zero, List.getElem?_cons_succ, Nat.add_sub_cancel, Nat.sub_self, Nat.reduceAdd, Nat.reduceSub, Int.reduceAdd, Int.reduceNeg, decide_true, decide_false, Bool.false_xor, Bool.true_xor, Bool.not_true, Bool.not_false]
      exact hQ
  exact fin Q (hQ (.str (Txt.join sp (argsW as))) _ rfl set_same ((kp.imp fun _ h => h.elim).trans (Chg.set rfl)))
theorem nodeText (h : LibLt tb) {m : Nat} (L : List (D × List Str)) {x0 : D} {r : List D} (hne : L.map (·.1) = x0 :: r) (h13 : ∀ s : Store, eqV' tb.tg false x0 (.tag 13) s = .ok (.bl false) s) (h14 : ∀ s : Store, eqV' tb.tg false x0 (.tag 14) s = .ok (.bl false) s)
    (hP : ∀ p ∈ L, PtOk tb W m p.1 p.2) (hw : ∀ p ∈ L, p.2 ≠ [] ∧ ∀ x ∈ p.2, Sm x) (hl : wl (L.map (·.2)).flatten ≤ LIM) (hL : L.length ≤ 10) (s : Store) :
    wp (Run tb W (m + 2) 100 [.tup (L.map (·.1))] s) fun d s' => d = .str (Txt.join sp (L.map (·.2)).flatten) ∧ Kept s s' := by
  suffices H : ∀ Q : D → Store → Prop, (∀ s', Kept s s' → Q (.str (Txt.join sp (L.map (·.2)).flatten)) s') → wp (Run tb W (m + 2) 100 [.tup (L.map (·.1))] s) Q from H _ fun s' k => ⟨rfl, k⟩
  intro Q hQ
  rw [run_at h.f100 rfl]
  have i0 : ∀ s : Store, idxV tb.tg (.tup (L.map (·.1))) (.int 0) s = .ok x0 s := fun s => by rw [hne]; exact ixt0
  simp [c100, i0, h13, h14, newLt, evA, startE, List.map_cons, List.map_nil, List.length_cons, List.length_nil, List.replicate, List.cons_append, List.nil_append, List.set_cons_zero, List.set_cons_succ, List.getElem?_cons_zero, List.getElem?_cons_succ, Nat.add_sub_cancel, Nat.sub_self, Nat.reduceAdd, Nat.reduceSub, Int.reduceAdd, Int.reduceNeg, decide_true, decide_false, Bool.false_xor, Bool.true_xor, Bool.not_true, Bool.not_false]
  refine wp_mono (for_list_wp (d := fun (p : D × List Str) => p.1) (Inv := fun rest env s' => ∃ x2 done ys, env = [some (.tup (L.map (·.1))), some (.cell s.n), x2, none] ∧ L = done ++ rest ∧ strsOf tb.tg ys = some (done.map fun p => Txt.join sp p.2) ∧ s'.f s.n = .lst ys ∧ s.n < s'.n ∧ Kept s s')
    (Post := fun f s' => ∃ x2 ys, f = .nx [some (.tup (L.map (·.1))), some (.cell s.n), x2, none] ∧ strsOf tb.tg ys = some (L.map fun p => Txt.join sp p.2) ∧ s'.f s.n = .lst ys ∧ Kept s s') ?_ ?_ (xs := L) ⟨none, [], [], rfl, rfl, rfl, new_same, Nat.lt_succ_self _, Chg.new⟩) ?_
  · rintro p rest env s1 ⟨x2, done, ys, rfl, e1, e2, e3, e4, e5⟩
    refine ⟨_, rfl, ?_⟩
    have hpm : p ∈ L := by rw [e1]; simp
    have hys := strs_len e2
    rw [List.length_map] at hys
    have hdl : done.length ≤ 10 := by rw [e1, List.length_append] at hL; omega
    obtain ⟨f, s2, ef, rfl, y, hy, hk2, ch⟩ := wp_iff.mp (hP p hpm (some (.tup (L.map (·.1)))) none none s.n ys s1 e3 e4 (by omega))
    simp only [c100b, c100] at ef
    have ef' := ef
    simp only [List.set_cons_zero, List.set_cons_succ]
    rw [ef', wp_ok]
    refine .inl ⟨_, rfl, some p.1, done ++ [p], ys ++ [y], rfl, by rw [e1] <;> simp, ?_, hk2, Nat.lt_of_lt_of_le e4 ch.1, ?_⟩
    · rw [List.map_append]
      exact strs_app e2 (by simp only [List.map_cons, List.map_nil, strsOf, hy, Option.map_some])
    · refine ⟨Nat.le_trans e5.1 ch.1, fun j hj hn => ?_⟩
      rw [ch.2 j (e5.lt hj) (by omega)]
      exact e5.2 j hj hn
  · rintro env s1 ⟨x2, done, ys, rfl, e1, e2, e3, e4, e5⟩
    rw [List.append_nil] at e1
    subst e1
    exact ⟨x2, ys, rfl, e2, e3, e5⟩
  · rintro _ s1 ⟨x2, ys, rfl, e2, e3, e5⟩
    have ne : ∀ p ∈ L.map (·.2), p ≠ [] := fun p hp => by
      obtain ⟨q, hq, rfl⟩ := List.mem_map.mp hp
      exact (hw q hq).1
    have e2' : strsOf tb.tg ys = some ((L.map (·.2)).map (Txt.join sp)) := by rw [e2, List.map_map]; rfl
    have jo := join_c (T := tb.tg) (s := s1) h.sp e3 e2' (fun x hx => by
      obtain ⟨p, hp, rfl⟩ := List.mem_map.mp hx
      obtain ⟨q, hq, rfl⟩ := List.mem_map.mp hp
      exact sm_join (hw q hq).2) (by rw [wl_map ne]; exact hl)
    rw [join_flat ne] at jo
    simp [recv_j, jo, evA, startE, List.map_cons, List.map_nil, List.length_cons, List.length_nil, List.replicate, List.cons_append, List.nil_append, List.set_cons_zero, List.set_cons_succ, List.getElem?_cons_zero, List.getElem?_cons_succ, Nat.add_sub_cancel, Nat.sub_self, Nat.reduceAdd, Nat.reduceSub, Int.reduceAdd, Int.reduceNeg, decide_true, decide_false, Bool.false_xor, Bool.true_xor, Bool.not_true, Bool.not_false]
    exact hQ s1 e5
theorem lawText_e (h : LibLt tb) {sl : Int} (hs : sl ≤ 1000) : ∀ (e : Re) (d n : Nat) (s : Store), e.ok sl d → d ≤ 3 → d + 2 ≤ n → wp (Run tb W n 100 [e.d] s) fun d s' => d = .str (Txt.join sp e.w) ∧ Kept s s' := by
  have tg : ∀ i, i < 67 → i < tb.tg.length := fun i hi => h.lt hi
  intro e
  induction e with
  | num i =>
    intro d n s hk hd hn
    obtain ⟨m, rfl⟩ : ∃ m, n = m + 2 := ⟨n - 2, by omega⟩
    rw [run_at h.f100 rfl]
    obtain ⟨k1, k2⟩ := hk
    simp [c100, Re.d, Re.w, eq_tt (tg 13 (by omega)) (tg 13 (by omega)), str_int k1 k2, join_one, evA, startE, List.map_cons, List.map_nil, List.length_cons, List.length_nil, List.replicate, List.cons_append, List.nil_append, List.set_cons_zero, List.set_cons_succ, List.getElem?_cons_zero, List.getElem?_cons_succ, Nat.add_sub_cancel, Nat.sub_self, Nat.reduceAdd, Nat.reduceSub, Int.reduceAdd, Int.reduceNeg, decide_true, decide_false, Bool.false_xor, Bool.true_xor, Bool.not_true, Bool.not_false]
    exact Chg.refl s
  | slot i =>
    intro d n s hk hd hn
    obtain ⟨m, rfl⟩ : ∃ m, n = m + 2 := ⟨n - 2, by omega⟩
    rw [run_at h.f100 rfl]
    obtain ⟨k1, k2⟩ := hk
    have k3 : i < 1000 := by omega
    have l := len_num k1 k3
    have ls := (wkt (n := 20) (by omega) (by omega) (by omega)).len
    simp [c100, Re.d, Re.w, eq_tt (tg 14 (by omega)) (tg 13 (by omega)), eq_tt (tg 14 (by omega)) (tg 14 (by omega)), str_int k1 k3, add_ts (h.at (show 20 < 67 by omega)) (show (tgs 20).length + (numS i).length ≤ LIM by unfold LIM; omega), join_one, evA, startE, List.map_cons, List.map_nil, List.length_cons, List.length_nil, List.replicate, List.cons_append, List.nil_append, List.set_cons_zero, List.set_cons_succ, List.getElem?_cons_zero, List.getElem?_cons_succ, Nat.add_sub_cancel, Nat.sub_self, Nat.reduceAdd, Nat.reduceSub, Int.reduceAdd, Int.reduceNeg, decide_true, decide_false, Bool.false_xor, Bool.true_xor, Bool.not_true, Bool.not_false]
    exact Chg.refl s
  | pair w a b iha ihb =>
    intro d n s hk hd hn
    have hk0 := hk
    obtain ⟨hw, k, rfl, ka, kb⟩ := hk
    obtain ⟨m, rfl⟩ : ∃ m, n = m + 2 := ⟨n - 2, by omega⟩
    have da := Re.dat h.tg a ka
    have db := Re.dat h.tg b kb
    have fst : ∀ (e : Re) {d : Nat}, e.ok sl d → ∃ w r, e.d = .tup (.tag w :: r) := fun e _ _ => by cases e <;> exact ⟨_, _, rfl⟩
    have pt : ∀ (e : Re) {d : Nat}, e.ok sl d → (∀ s : Store, wp (Run tb W (m + 1) 100 [e.d] s) fun d s' => d = .str (Txt.join sp e.w) ∧ Kept s s') → PtOk tb W m e.d e.w := fun e d he hr => by
      have dd := Re.dat h.tg e he
      obtain ⟨w, r, q⟩ := fst e he
      rw [q] at hr dd ⊢
      exact pt_call h dd hr
    have wk := Re.wk hs _ hk0
    have lp : 2 ^ (k + 1 + 1) ≤ 2 ^ 4 := Nat.pow_le_pow_right (by omega) (by omega)
    have q := nodeText (W := W) h (m := m) [(.tag w, [tgs w]), (a.d, a.w), (b.d, b.w)] (x0 := .tag w) (r := [a.d, b.d]) rfl
      (fun s => by rw [eq_tt (tg w (by omega)) (tg 13 (by omega)), decide_eq_false (by omega)] <;> rfl) (fun s => by rw [eq_tt (tg w (by omega)) (tg 14 (by omega)), decide_eq_false (by omega)] <;> rfl)
      (fun p hp => by
        simp only [List.mem_cons, List.not_mem_nil, or_false] at hp
        rcases hp with rfl | rfl | rfl
        · exact pt_tag h (by omega)
        · exact pt a ka fun s => iha k (m + 1) s ka (by omega) (by omega)
        · exact pt b kb fun s => ihb k (m + 1) s kb (by omega) (by omega))
      (fun p hp => by
        simp only [List.mem_cons, List.not_mem_nil, or_false] at hp
        rcases hp with rfl | rfl | rfl
        · exact ⟨by simp, fun x hx => by rw [List.mem_singleton.mp hx]; exact (wkt (n := w) (by omega) (by omega) (by omega)).sm⟩
        · exact ⟨(a.wk hs ka).2.2, fun x hx => ((a.wk hs ka).1 x hx).sm⟩
        · exact ⟨(b.wk hs kb).2.2, fun x hx => ((b.wk hs kb).1 x hx).sm⟩)
      (by
        have e : ([(D.tag w, [tgs w]), (a.d, a.w), (b.d, b.w)].map (·.2)).flatten = (Re.pair w a b).w := by simp [Re.w]
        rw [e]
        have := wk.2.1
        unfold LIM
        simp only [Nat.reducePow] at lp
        omega) (by simp) s
    have e : ([(D.tag w, [tgs w]), (a.d, a.w), (b.d, b.w)].map (·.2)).flatten = (Re.pair w a b).w := by simp [Re.w]
    rw [e] at q
    exact q
theorem Re.fst {sl : Int} {d : Nat} (e : Re) (he : e.ok sl d) : ∃ w r, e.d = .tup (.tag w :: r) := by cases e <;> exact ⟨_, _, rfl⟩
theorem pt_re (h : LibLt tb) {m : Nat} {sl : Int} (hs : sl ≤ 1000) {e : Re} (he : e.ok sl 3) (hm : 4 ≤ m) : PtOk tb W m e.d e.w := by
  have hr := fun s => lawText_e (W := W) h hs e 3 (m + 1) s he (by omega) (by omega)
  have dd := Re.dat h.tg e he
  obtain ⟨w, r, q⟩ := Re.fst e he
  rw [q] at hr dd ⊢
  exact pt_call h dd hr
theorem Bd.fst (b : Bd) : ∃ w r, b.d = .tup (.tag w :: r) := by cases b <;> exact ⟨_, _, rfl⟩
theorem pt_as (h : LibLt tb) {m : Nat} {sl : Int} (hs : sl ≤ 1000) {as : List Re} (ha : ∀ a ∈ as, a.ok sl 3) (hl : as.length ≤ 30) (hm : 4 ≤ m) : PtOk tb W m (.tup (as.map Re.d)) (argsW as) :=
  pt_args h hs ha hl fun a hh s => lawText_e (W := W) h hs a 3 (m + 1) s (ha a hh) (by omega) (by omega)
theorem lawText_b (h : LibLt tb) {cs : List Int} (hc : cs.length ≤ 5) : ∀ (k : Nat) (b : Bd) (sl : Int) (wi n : Nat) (s : Store), b.dep ≤ k → b.ok cs sl wi → b.parts ≤ 60 → k + 8 ≤ n → wp (Run tb W n 100 [b.d] s) fun d s' => d = .str (Txt.join sp b.w) ∧ Kept s s' := by
  intro k
  have tg : ∀ i, i < 67 → i < tb.tg.length := fun i hi => h.lt hi
  have step : ∀ (b : Bd) (sl : Int) (wi m : Nat) (s : Store), b.ok cs sl wi → b.parts ≤ 60 → 6 ≤ m → (∀ x ∈ b.inner, PtOk tb W m x.d x.w) → wp (Run tb W (m + 2) 100 [b.d] s) fun d s' => d = .str (Txt.join sp b.w) ∧ Kept s s' := by
    intro b sl wi m s hb hp hm ih
    have key : ∀ (w : Nat) (L : List (D × List Str)), (w = 6 ∨ w = 7 ∨ w = 8 ∨ w = 9 ∨ w = 10 ∨ w = 11) → b.d = .tup (.tag w :: L.map (·.1)) → b.w = tgs w :: (L.map (·.2)).flatten → L.length ≤ 5 → (∀ p ∈ L, p.2 ≠ [] ∧ PtOk tb W m p.1 p.2) → wp (Run tb W (m + 2) 100 [b.d] s) fun d s' => d = .str (Txt.join sp b.w) ∧ Kept s s' := by
      intro w L hw hd hbw hl hL
      obtain ⟨w1, w2, w3⟩ := b.wk hc hb
      have e : (((D.tag w, [tgs w]) :: L).map (·.2)).flatten = b.w := by rw [hbw] <;> simp
      have q := nodeText (W := W) h (m := m) ((.tag w, [tgs w]) :: L) (x0 := .tag w) (r := L.map (·.1)) rfl
        (fun s => by rw [eq_tt (tg w (by omega)) (tg 13 (by omega)), decide_eq_false (by omega)] <;> rfl) (fun s => by rw [eq_tt (tg w (by omega)) (tg 14 (by omega)), decide_eq_false (by omega)] <;> rfl)
        (fun p hp => by
          rcases List.mem_cons.mp hp with rfl | hp
          · exact pt_tag h (by omega)
          · exact (hL p hp).2)
        (fun p hp => by
          refine ⟨?_, fun x hx => (w1 x (by rw [← e]; exact List.mem_flatten.mpr ⟨p.2, List.mem_map.mpr ⟨p, hp, rfl⟩, hx⟩)).sm⟩
          rcases List.mem_cons.mp hp with rfl | hp
          · simp
          · exact (hL p hp).1)
        (by rw [e]; unfold LIM; omega) (by simp only [List.length_cons]; omega) s
      rw [e, List.map_cons] at q
      rw [hd]
      exact q
    have rn : ∀ {e : Re}, e.ok sl 3 → sl ≤ 8 → e.w ≠ [] := fun he hs => (Re.wk3 (show sl ≤ 1000 by omega) he).2.2
    cases b with
    | end_ e =>
      obtain ⟨h1, h2, h3⟩ := hb
      exact key 6 [(e.d, e.w)] (by omega) rfl (by simp [Bd.w]) (by simp) fun p hp => by
        rw [List.mem_singleton.mp hp]
        exact ⟨rn h3 h2, pt_re h (by omega) h3 (by omega)⟩
    | say e b =>
      obtain ⟨h1, h2, h3, h4⟩ := hb
      exact key 7 [(e.d, e.w), (b.d, b.w)] (by omega) rfl (by simp [Bd.w]) (by simp) fun p hp => by
        simp only [List.mem_cons, List.not_mem_nil, or_false] at hp
        rcases hp with rfl | rfl
        · exact ⟨rn h3 h2, pt_re h (by omega) h3 (by omega)⟩
        · exact ⟨(b.wk hc h4).2.2, ih b (by simp [Bd.inner])⟩
    | if_ e a b =>
      obtain ⟨h1, h2, h3, h4, h5⟩ := hb
      exact key 8 [(e.d, e.w), (a.d, a.w), (b.d, b.w)] (by omega) rfl (by simp [Bd.w]) (by simp) fun p hp => by
        simp only [List.mem_cons, List.not_mem_nil, or_false] at hp
        rcases hp with rfl | rfl | rfl
        · exact ⟨rn h3 h2, pt_re h (by omega) h3 (by omega)⟩
        · exact ⟨(a.wk hc h4).2.2, ih a (by simp [Bd.inner])⟩
        · exact ⟨(b.wk hc h5).2.2, ih b (by simp [Bd.inner])⟩
    | turn q as =>
      obtain ⟨h1, h2, h3, h4⟩ := hb
      obtain ⟨q0, q1, _⟩ := argsOk_lt hc h4
      exact key 9 [(.int q, [numS q]), (.tup (as.map Re.d), argsW as)] (by omega) rfl (by simp [Bd.w]) (by simp) fun p hp => by
        simp only [List.mem_cons, List.not_mem_nil, or_false] at hp
        rcases hp with rfl | rfl
        · exact ⟨by simp, pt_int q0 q1⟩
        · exact ⟨by simp [argsW], pt_as h (by omega) h4.2.2 h3 (by omega)⟩
    | through e as =>
      obtain ⟨h1, h2, h3, h4, h5⟩ := hb
      exact key 10 [(e.d, e.w), (.tup (as.map Re.d), argsW as)] (by omega) rfl (by simp [Bd.w]) (by simp) fun p hp => by
        simp only [List.mem_cons, List.not_mem_nil, or_false] at hp
        rcases hp with rfl | rfl
        · exact ⟨rn h4 h2, pt_re h (by omega) h4 (by omega)⟩
        · exact ⟨by simp [argsW], pt_as h (by omega) h5 (by omega) (by omega)⟩
    | with_ q as b =>
      obtain ⟨h1, h2, h3, h4, h5⟩ := hb
      obtain ⟨q0, q1, _⟩ := argsOk_lt hc h4
      exact key 11 [(.int q, [numS q]), (.tup (as.map Re.d), argsW as), (b.d, b.w)] (by omega) rfl (by simp [Bd.w]) (by simp) fun p hp => by
        simp only [List.mem_cons, List.not_mem_nil, or_false] at hp
        rcases hp with rfl | rfl | rfl
        · exact ⟨by simp, pt_int q0 q1⟩
        · exact ⟨by simp [argsW], pt_as h (by omega) h4.2.2 h3 (by omega)⟩
        · exact ⟨(b.wk hc h5).2.2, ih b (by simp [Bd.inner])⟩
  have ptb : ∀ {x : Bd} {m : Nat} {sl : Int} {wi : Nat}, x.ok cs sl wi → (∀ s : Store, wp (Run tb W (m + 1) 100 [x.d] s) fun d s' => d = .str (Txt.join sp x.w) ∧ Kept s s') → PtOk tb W m x.d x.w := fun {x m sl wi} hx hr => by
    have dd := bd_dat h.tg x hx
    obtain ⟨w, r, q⟩ := x.fst
    rw [q] at hr dd ⊢
    exact pt_call h dd hr
  induction k with
  | zero =>
    intro b sl wi n s hd hb hp hn
    obtain ⟨m, rfl⟩ : ∃ m, n = m + 2 := ⟨n - 2, by omega⟩
    exact step b sl wi m s hb hp (by omega) fun x hx => by have := inner_dep hx; omega
  | succ k ih =>
    intro b sl wi n s hd hb hp hn
    obtain ⟨m, rfl⟩ : ∃ m, n = m + 2 := ⟨n - 2, by omega⟩
    refine step b sl wi m s hb hp (by omega) fun x hx => ?_
    have := inner_dep hx
    have hpx : x.parts ≤ 60 := by
      cases b with
      | say e b => simp only [Bd.inner, List.mem_singleton] at hx; subst hx; simp only [Bd.parts] at hp; omega
      | if_ e a b =>
        simp only [Bd.inner, List.mem_cons, List.not_mem_nil, or_false] at hx
        simp only [Bd.parts] at hp
        rcases hx with rfl | rfl <;> omega
      | with_ n as b => simp only [Bd.inner, List.mem_singleton] at hx; subst hx; simp only [Bd.parts] at hp; omega
      | _ => cases hx
    exact ptb (inner_ok hb x hx) fun s => ih x _ (wi + 1) (m + 1) s (by omega) (inner_ok hb x hx) hpx (by omega)
/-- the whole text, as the law writes it -/
theorem wholeText (h : LibLt tb) {ps : List (Int × Bd)} (hp : PrOk ps) {n : Nat} {s : Store} (hn : 25 ≤ n) : wp (Run tb W n 101 [PrD ps] s) fun d s' => d = .str (prT ps) ∧ Kept s s' := by
  obtain ⟨m, rfl⟩ : ∃ m, n = m + 2 := ⟨n - 2, by omega⟩
  suffices H : ∀ Q : D → Store → Prop, (∀ s', Kept s s' → Q (.str (prT ps)) s') → wp (Run tb W (m + 2) 101 [PrD ps] s) Q from H _ fun s' k => ⟨rfl, k⟩
  intro Q hQ
  rw [run_at h.f101 rfl]
  have hcs : (ps.map (·.1)).length ≤ 5 := by rw [List.length_map]; exact hp.len.2
  obtain ⟨w1, w2, w3⟩ := pr_wk' hp
  have tg : ∀ i, i < 67 → i < tb.tg.length := fun i hi => h.lt hi
  have t35 : tgs 35 = tgs 24 ++ sp := ext_tl (by rw [tl_append]; decide +kernel)
  have rows : ∀ p ∈ ps, ∀ s : Store, wp (Run tb W (m + 1) 100 [.tup [.int p.1, p.2.d]] s) fun d s' => d = .str (Txt.join sp (numS p.1 :: p.2.w)) ∧ Kept s s' := by
    intro p hpm s
    obtain ⟨p0, p1, p2, p3⟩ := hp.ok p hpm
    have hd := ok_dep _ _ _ p2
    obtain ⟨b1, b2, b3⟩ := p.2.wk hcs p2
    have ln := len_num p0 (show p.1 < 1000 by omega)
    have hr := fun s => lawText_b (W := W) h hcs 6 p.2 p.1 0 (m - 1 + 1) s (by omega) p2 (by omega) (by omega)
    have pb : PtOk tb W (m - 1) p.2.d p.2.w := by
      have dd := bd_dat h.tg p.2 p2
      obtain ⟨w, r, q⟩ := p.2.fst
      rw [q] at hr dd ⊢
      exact pt_call h dd hr
    have ei : ∀ (i : Int) (t : Nat) (ht : t < 67) (s : Store), eqV' tb.tg false (.int i) (.tag t) s = .ok (.bl false) s := fun i t ht s => by
      simp [eqV', deref, datD, depD, eqvD, tg t ht]
    have q := nodeText (W := W) h (m := m - 1) [(.int p.1, [numS p.1]), (p.2.d, p.2.w)] (x0 := .int p.1) (r := [p.2.d]) rfl (ei _ 13 (by omega)) (ei _ 14 (by omega))
      (fun z hz => by
        simp only [List.mem_cons, List.not_mem_nil, or_false] at hz
        rcases hz with rfl | rfl
        · exact pt_int p0 (by omega)
        · exact pb)
      (fun z hz => by
        simp only [List.mem_cons, List.not_mem_nil, or_false] at hz
        rcases hz with rfl | rfl
        · exact ⟨by simp, fun x hx => by rw [List.mem_singleton.mp hx]; exact sm_num p0 (by omega)⟩
        · exact ⟨b3, fun x hx => (b1 x hx).sm⟩)
      (by simp only [List.map_cons, List.map_nil, List.flatten_cons, List.flatten_nil, List.append_nil, List.singleton_append, wl_cons]; unfold LIM; omega) (by simp) s
    have e : ([(D.int p.1, [numS p.1]), (p.2.d, p.2.w)].map (·.2)).flatten = numS p.1 :: p.2.w := by simp
    rw [e] at q
    have e2 : m - 1 + 2 = m + 1 := by omega
    rw [e2] at q
    exact q
  have lenr : ∀ p ∈ ps, wl (tgs 24 :: numS p.1 :: p.2.w) ≤ 140000 := fun p hpm => by
    obtain ⟨p0, p1, p2, p3⟩ := hp.ok p hpm
    obtain ⟨b1, b2, b3⟩ := p.2.wk hcs p2
    have ln := len_num p0 (show p.1 < 1000 by omega)
    have l := (wkt (n := 24) (by omega) (by omega) (by omega)).len
    simp only [wl_cons]; omega
  have ad : ∀ p ∈ ps, ∀ s : Store, bopV tb.tg .add false (.tag 35) (.str (Txt.join sp (numS p.1 :: p.2.w))) s = .ok (.str (Txt.join sp (tgs 24 :: numS p.1 :: p.2.w))) s := fun p hpm s => by
    have l1 := lenr p hpm
    have l2 := join_len (ws := numS p.1 :: p.2.w) (by simp)
    have l3 : (tgs 35).length ≤ 9 := by decide +kernel
    rw [wl_cons] at l1
    rw [add_ts (h.at (show 35 < 67 by omega)) (by unfold LIM; omega)]
    congr 2
    refine ext_tl ?_
    rw [t35, tl_append, tl_append, tl_j, tl_j, tl_sp]
    simp [joinL]
  have c1 : ∀ (x1 : Option D), wp (compL (bindW (.name 1) [1] [some (PrD ps), x1]) (evalE (GG tb W m) (.cst (.bl true))) (evalE (GG tb W m) (.bin .add false (.cst (.tag 35)) (.call 100 (.cons (.var 1) .nil)))) (ps.map fun p => D.tup [.int p.1, p.2.d]) s) fun ts s' => ts = ps.map (fun p => D.str (Txt.join sp (tgs 24 :: numS p.1 :: p.2.w))) ∧ Kept s s' := fun x1 => by
    refine wp_mono (comp_list_wp (f := fun (p : Int × Bd) => D.str (Txt.join sp (tgs 24 :: numS p.1 :: p.2.w))) (Inv := fun rest (done : List (Int × Bd)) s' => ps = done ++ rest ∧ Kept s s') ?_ (xs := ps) (done := []) (s := s) ⟨rfl, Chg.refl s⟩) ?_
    · rintro p rest done s1 ⟨e1, kp⟩
      refine ⟨_, rfl, by simp [evA, startE, List.map_cons, List.map_nil, List.length_cons, List.length_nil, List.replicate, List.cons_append, List.nil_append, List.set_cons_zero, List.set_cons_succ, List.getElem?_cons_zero, List.getElem?_cons_succ, Nat.add_sub_cancel, Nat.sub_self, Nat.reduceAdd, Nat.reduceSub, Int.reduceAdd, Int.reduceNeg, decide_true, decide_false, Bool.false_xor, Bool.true_xor, Bool.not_true, Bool.not_false], ?_⟩
      have hpm : p ∈ ps := by rw [e1]; simp
      obtain ⟨d, s2, er, rfl, kp2⟩ := wp_iff.mp (rows p hpm s1)
      have ad' := ad p hpm s2
      simp [wipeD, er, ad', evA, startE, List.map_cons, List.map_nil, List.length_cons, List.length_nil, List.replicate, List.cons_append, List.nil_append, List.set_cons_zero, List.set_cons_succ, List.getElem?_cons_zero, List.getElem?_cons_succ, Nat.add_sub_cancel, Nat.sub_self, Nat.reduceAdd, Nat.reduceSub, Int.reduceAdd, Int.reduceNeg, decide_true, decide_false, Bool.false_xor, Bool.true_xor, Bool.not_true, Bool.not_false]
      exact ⟨p.1, p.2, rfl, by rw [e1] <;> simp, kp.trans kp2⟩
    · rintro ts s1 ⟨more, rfl, e1, kp⟩
      rw [List.append_nil, List.nil_append] at e1
      subst e1
      exact ⟨rfl, kp⟩
  obtain ⟨ts, s1, ec, rfl, kp⟩ := wp_iff.mp (c1 none)
  have hL : (ps.map fun p => D.tup [.int p.1, p.2.d]).length ≤ LIM := by have := hp.len.2; rw [List.length_map]; unfold LIM; omega
  have es : ∀ l : List (Int × Bd), strsOf tb.tg (l.map fun p => D.str (Txt.join sp (tgs 24 :: numS p.1 :: p.2.w))) = some ((l.map fun p => tgs 24 :: numS p.1 :: p.2.w).map (Txt.join sp)) := fun l => by
    induction l with
    | nil => rfl
    | cons p l ih => exact strs_str ih
  have ne : ∀ p ∈ ps.map (fun p => tgs 24 :: numS p.1 :: p.2.w), p ≠ [] := fun p hh => by
    obtain ⟨q, _, rfl⟩ := List.mem_map.mp hh
    simp
  have fl : (ps.map fun p => tgs 24 :: numS p.1 :: p.2.w).flatten = prW ps := by simp [prW, List.flatMap_def]
  have jo := join_l (T := tb.tg) (s := s1) h.sp (es ps) (fun x hx => by
    obtain ⟨p, hq, rfl⟩ := List.mem_map.mp hx
    refine sm_join fun z hz => (w1 z ?_).sm
    rw [← fl]
    exact List.mem_flatten.mpr ⟨p, hq, hz⟩) (by rw [wl_map ne, fl]; unfold LIM; omega)
  rw [join_flat ne, fl] at jo
  have it : itemsOf (PrD ps) = some (ps.map fun p => D.tup [.int p.1, p.2.d]) := rfl
  simp [c101, it, recv_j, kCmpr_some hL, ec, newL_f, jo, evA, startE, List.map_cons, List.map_nil, List.length_cons, List.length_nil, List.replicate, List.cons_append, List.nil_append, List.set_cons_zero, List.set_cons_succ, List.getElem?_cons_zero, List.getElem?_cons_succ, Nat.add_sub_cancel, Nat.sub_self, Nat.reduceAdd, Nat.reduceSub, Int.reduceAdd, Int.reduceNeg, decide_true, decide_false, Bool.false_xor, Bool.true_xor, Bool.not_true, Bool.not_false]
  exact hQ s1 kp
end
end PI

namespace PI
open PySem L2 TL
structure LibRe (tb : Tab) : Prop where
  n : LibN tb
  tgs : tb.tg = TG
  g11 : tb.gl 11 = some (.str "0123456789")
  g12 : tb.gl 12 = some (.int 3)
  i5 : tb.ini 5 = some 91
  m512 : tb.mt 5 12 = some 92
  m513 : tb.mt 5 13 = some 93
  m514 : tb.mt 5 14 = some 94
  m515 : tb.mt 5 15 = some 95
  m516 : tb.mt 5 16 = some 96
  m517 : tb.mt 5 17 = some 97
  m518 : tb.mt 5 18 = some 98
  f91 : tb.fns 91 = some c91
  f92 : tb.fns 92 = some c92
  f93 : tb.fns 93 = some c93
  f94 : tb.fns 94 = some c94
  f95 : tb.fns 95 = some c95
  f96 : tb.fns 96 = some c96v1
  f97 : tb.fns 97 = some c97
  f98 : tb.fns 98 = some c98v1
  f99 : tb.fns 99 = some c99
def rdC (ws : List Str) (a : Nat) : Cell := .ins 5 [(21, .lst (ws.map D.str)), (15, .int a)]
theorem hd_of {ws : List Str} {a : Nat} {x : Str} {r : List Str} (h : ws.drop a = x :: r) : ws[a]? = some x ∧ ws.drop (a + 1) = r := by
  constructor
  · have := congrArg (fun l => l[0]?) h
    simpa using this
  · have := congrArg (List.drop 1) h
    rwa [List.drop_drop] at this
theorem drop_app {ws : List Str} {a : Nat} {p r : List Str} (h : ws.drop a = p ++ r) : ws.drop (a + p.length) = r := by
  have := congrArg (List.drop p.length) h
  rwa [List.drop_drop, List.drop_left] at this
def hd0 (x : Str) : Nat := (tl x).headD 0
theorem ne_hd {x y : Str} (h : hd0 x ≠ hd0 y) : x ≠ y := fun q => h (by rw [q])
theorem hd_num {i : Int} (h0 : 0 ≤ i) (h1 : i < 1000) : 48 ≤ hd0 (numS i) ∧ hd0 (numS i) ≤ 57 := by
  obtain ⟨c, r, e, h, _⟩ := num_cases h0 h1
  unfold hd0
  rw [e]
  exact h
theorem hd_slot {i : Int} : hd0 (tgs 20 ++ numS i) = 115 := by
  unfold hd0
  rw [tl_append, tl_s] <;> rfl
theorem hd_tg : ∀ n, n < 12 → 97 ≤ hd0 (tgs n) ∧ (n < 6 → hd0 (tgs n) ≠ 115) := by decide +kernel
theorem hd_22 : hd0 (tgs 22) = 41 := by decide +kernel
theorem tg_inj : ∀ n, n < 12 → ∀ j, j < 12 → (tgs n = tgs j ↔ n = j) := by decide +kernel
theorem tg_fi : ∀ n, n < 12 → (TG.findIdx? fun y => y == tgs n) = some n := by decide +kernel
theorem Re.w_head {sl : Int} (hs : sl ≤ 1000) {d : Nat} (e : Re) (h : e.ok sl d) : ∃ x r, e.w = x :: r ∧ x ≠ tgs 22 := by
  cases e with
  | num i => exact ⟨_, _, rfl, ne_hd (by have := hd_num h.1 h.2; rw [hd_22]; omega)⟩
  | slot i => exact ⟨_, _, rfl, ne_hd (by rw [hd_slot, hd_22]; omega)⟩
  | pair w a b => exact ⟨_, _, rfl, ne_hd (by have := (hd_tg w (by have := h.1; omega)).1; rw [hd_22]; omega)⟩
section
variable {T : List Str} {s : Store}
theorem eq_stag {neg : Bool} {x y : Str} {t : Nat} (ht : T[t]? = some y) : eqV' T neg (.str x) (.tag t) s = .ok (.bl (xor neg (decide (x = y)))) s := by
  have hl : t < T.length := (List.getElem?_eq_some_iff.mp ht).1
  have e : (T[t]? == some x) = decide (x = y) := by
    rw [ht]
    by_cases q : x = y
    · subst q; simp
    · rw [decide_eq_false q]; simp only [beq_eq_false_iff_ne, ne_eq, Option.some.injEq]; exact fun z => q z.symm
  have e3 : eqvD T (.str x) (.tag t) = decide (x = y) := by simp only [eqvD, e]
  unfold eqV'
  simp only [qdr_str, qdr_tag, datD, depD, e3, hl, decide_true]
  simp
theorem in_tags {neg : Bool} {x : Str} {l : List Nat} : inV' T neg (.str x) (.tup (l.map D.tag)) s = .ok (.bl (xor neg (l.any fun j => T[j]? == some x))) s := by
  rw [in_tup ⟨rfl, by simp [flatD]⟩, List.any_map]
  rfl
end
section
variable {tb : Tab} {W : Nat}
theorem LibRe.at (h : LibRe tb) {n : Nat} (hn : n < 67) : tb.tg[n]? = some (PI.tgs n) := by rw [h.tgs]; exact tg_at hn
theorem LibRe.lt (h : LibRe tb) {n : Nat} (hn : n < 67) : n < tb.tg.length := by have := h.n.tg; omega
def isW (l : List Nat) (x : Str) : Bool := l.any fun j => PI.tgs j == x
theorem any_tg (h : LibRe tb) {x : Str} {l : List Nat} (hl : ∀ j ∈ l, j < 67) : (l.any fun j => tb.tg[j]? == some x) = isW l x := by
  unfold isW
  induction l with
  | nil => rfl
  | cons j l ih =>
    rw [List.any_cons, List.any_cons, ih fun y hy => hl y (List.mem_cons_of_mem _ hy), h.at (hl j List.mem_cons_self)]
    rfl
theorem isW_t {l : List Nat} {w : Nat} (h : w ∈ l) : isW l (PI.tgs w) = true := List.any_eq_true.mpr ⟨w, h, beq_self_eq_true _⟩
theorem isW_f {l : List Nat} {x : Str} (h : ∀ j ∈ l, PI.tgs j ≠ x) : isW l x = false := List.any_eq_false.mpr fun j hj q => h j hj (beq_iff_eq.mp q)
theorem peek_ (h : LibRe tb) {k a n : Nat} {ws : List Str} {x : Str} {s : Store} (hk : s.f k = rdC ws a) (hx : ws[a]? = some x) (hn : 2 ≤ n) : Run tb W n 93 [.cell k] s = .ok (.str x) s := by
  obtain ⟨m, rfl⟩ : ∃ m, n = m + 2 := ⟨n - 2, by omega⟩
  rw [run_at h.f93 rfl]
  have hl : a < ws.length := (List.getElem?_eq_some_iff.mp hx).1
  have ix : atI (ws.map D.str) (a : Int) = some (.str x) := by rw [at_nat, List.getElem?_map, hx] <;> rfl
  unfold rdC at hk
  simp [c93, hk, lookN, hl, idx_lst ix, evA, startE, List.map_cons, List.map_nil, List.length_cons, List.length_nil, List.replicate, List.cons_append, List.nil_append, List.set_cons_zero, List.set_cons_succ, List.getElem?_cons_zero, List.getElem?_cons_succ, Nat.add_sub_cancel, Nat.sub_self, Nat.reduceAdd, Nat.reduceSub, Int.reduceAdd, Int.reduceNeg, decide_true, decide_false, Bool.false_xor, Bool.true_xor, Bool.not_true, Bool.not_false]
theorem must_ (h : LibRe tb) {k n : Nat} {s : Store} (hn : 2 ≤ n) : Run tb W n 92 [.cell k, .bl true] s = .ok .non s := by
  obtain ⟨m, rfl⟩ : ∃ m, n = m + 2 := ⟨n - 2, by omega⟩
  rw [run_at h.f92 rfl]
  simp [c92, evA, startE, List.map_cons, List.map_nil, List.length_cons, List.length_nil, List.replicate, List.cons_append, List.nil_append, List.set_cons_zero, List.set_cons_succ, List.getElem?_cons_zero, List.getElem?_cons_succ, Nat.add_sub_cancel, Nat.sub_self, Nat.reduceAdd, Nat.reduceSub, Int.reduceAdd, Int.reduceNeg, decide_true, decide_false, Bool.false_xor, Bool.true_xor, Bool.not_true, Bool.not_false]
theorem skip_ (h : LibRe tb) {k a n t : Nat} {ws : List Str} {s : Store} (hk : s.f k = rdC ws a) (ht : t < 67) (hx : ws[a]? = some (PI.tgs t)) (hn : 3 ≤ n) : Run tb W n 94 [.cell k, .tag t] s = .ok .non (s.set k (rdC ws (a + 1))) := by
  obtain ⟨m, rfl⟩ : ∃ m, n = m + 2 := ⟨n - 2, by omega⟩
  rw [run_at h.f94 rfl]
  have pk := peek_ (W := W) h hk hx (n := m + 1) (by omega)
  have mu := must_ (W := W) h (k := k) (s := s) (n := m + 1) (by omega)
  unfold rdC at *
  simp [c94, hk, lookN, putN, fldS_ins, mthC_ins, h.m512, h.m513, pk, mu, eq_stag (h.at ht), evA, startE, List.map_cons, List.map_nil, List.length_cons, List.length_nil, List.replicate, List.cons_append, List.nil_append, List.set_cons_zero, List.set_cons_succ, List.getElem?_cons_zero, List.getElem?_cons_succ, Nat.add_sub_cancel, Nat.sub_self, Nat.reduceAdd, Nat.reduceSub, Int.reduceAdd, Int.reduceNeg, decide_true, decide_false, Bool.false_xor, Bool.true_xor, Bool.not_true, Bool.not_false]
theorem tl_dig : tl ("0123456789" : Str) = [48, 49, 50, 51, 52, 53, 54, 55, 56, 57] := by decide +kernel
theorem tl_0 : tl (tgs 34) = [48] := by decide +kernel
theorem figures_ (h : LibRe tb) {k a n : Nat} {ws : List Str} {s : Store} {i : Int} (hk : s.f k = rdC ws a) (h0 : 0 ≤ i) (h1 : i < 1000) (hn : 3 ≤ n) : Run tb W n 95 [.cell k, .str (numS i)] s = .ok (.int i) (s.set k (rdC ws (a + 1))) := by
  obtain ⟨m, rfl⟩ : ∃ m, n = m + 2 := ⟨n - 2, by omega⟩
  rw [run_at h.f95 rfl]
  have mu := must_ (W := W) h (k := k) (s := s) (n := m + 1) (by omega)
  obtain ⟨c, r, e, hc, hr, hl, hz⟩ := num_cases h0 h1
  have len : (numS i).length = r.length + 1 := by rw [len_tl, e] <;> rfl
  obtain ⟨L, l1, l2, hlen⟩ : ∃ L : Int, 1 ≤ L ∧ L ≤ 3 ∧ bltV tb.tg .len false [.str (numS i)] s = .ok (.int L) s := by
    refine ⟨((r.length + 1 : Nat) : Int), by omega, by omega, ?_⟩
    simp only [bltV, deref]
    rw [if_pos (by unfold LIM; omega), len]
  have it : itemsOf (.str (numS i)) = some ((c :: r).map fun c => .str ⟨#[c]⟩) := by
    have : (numS i).cps.toList = c :: r := e
    simp only [itemsOf, this]
  have hL : ((c :: r).map fun c => D.str ⟨#[c]⟩).length ≤ LIM := by unfold LIM; rw [List.length_map, List.length_cons]; omega
  have cw : ∀ (x0 x1 x2 : Option D), compL (bindW (.name 2) [2] [x0, x1, x2]) (evalE (GG tb W m) (.cmp .notin (.var 2) (.glob 11))) (evalE (GG tb W m) (.var 2)) ((c :: r).map fun c => D.str ⟨#[c]⟩) s = .ok [] s := fun x0 x1 x2 => by
    refine comp_none fun y hy => ?_
    obtain ⟨z, hzm, rfl⟩ := List.mem_map.mp hy
    refine ⟨_, rfl, ?_⟩
    have hz' : 48 ≤ z ∧ z ≤ 57 := by
      rcases List.mem_cons.mp hzm with rfl | hm
      · exact hc
      · exact hr z hm
    have iv : inV' tb.tg true (.str ⟨#[z]⟩) (.str "0123456789") s = .ok (.bl false) s := by
      have q : z ∈ (("0123456789" : Str)).cps.toList := by
        show z ∈ tl ("0123456789" : Str)
        rw [tl_dig]
        have : z = 48 ∨ z = 49 ∨ z = 50 ∨ z = 51 ∨ z = 52 ∨ z = 53 ∨ z = 54 ∨ z = 55 ∨ z = 56 ∨ z = 57 := by omega
        simpa using this
      simp only [inV', qdr_str, signV, strOf]
      rw [decide_eq_true q] <;> rfl
    simp [wipeD, h.g11, iv, evA, startE, List.map_cons, List.map_nil, List.length_cons, List.length_nil, List.replicate, List.cons_append, List.nil_append, List.set_cons_zero, List.set_cons_succ, List.getElem?_cons_zero, List.getElem?_cons_succ, Nat.add_sub_cancel, Nat.sub_self, Nat.reduceAdd, Nat.reduceSub, Int.reduceAdd, Int.reduceNeg, decide_true, decide_false, Bool.false_xor, Bool.true_xor, Bool.not_true, Bool.not_false]
  have ix : idxV tb.tg (.str (numS i)) (.int 0) s = .ok (.str ⟨#[c]⟩) s := by
    have q : (numS i).cps.toList = c :: r := e
    simp only [idxV, qdr_str, q]
    rw [if_pos (by unfold LIM; omega)]
    simp [atI, ixN]
  have dg : (decide (numS i = PI.tgs 34) || !decide ((⟨#[c]⟩ : Str) = PI.tgs 34)) = true := by
    by_cases q : c = 48
    · have q2 : numS i = PI.tgs 34 := ext_tl (by rw [e, tl_0, q, hz q])
      rw [decide_eq_true q2] <;> rfl
    · have q2 : (⟨#[c]⟩ : Str) ≠ PI.tgs 34 := fun z => q (by
        have := congrArg tl z
        rw [tl_0] at this
        exact (List.cons.inj this).1)
      rw [decide_eq_false q2]
      simp
  have i1 : bltV tb.tg .int_ false [.str (numS i)] (s.set k (rdC ws (a + 1))) = .ok (.int i) (s.set k (rdC ws (a + 1))) := by
    have q : PySem.intText? (numS i) = some i := by
      have e2 := int_num (n := i.toNat) (by rw [← tl_numI h0, e]; simp only [List.length_cons]; omega)
      rw [Int.toNat_of_nonneg h0] at e2
      exact e2
    simp only [bltV, q]
    rw [if_pos (by omega)]
  generalize c :: r = cs at it hL cw
  unfold rdC at hk i1 ⊢
  have i2 : bltV tb.tg .int_ false [.str (numS i)] (s.set k (.ins 5 [(21, .lst (ws.map D.str)), (15, .int ((a : Int) + 1))])) = .ok (.int i) (s.set k (.ins 5 [(21, .lst (ws.map D.str)), (15, .int ((a : Int) + 1))])) := i1
  by_cases q : numS i = PI.tgs 34
  · have qd : decide (numS i = PI.tgs 34) = true := decide_eq_true q
    simp [c95, hk, lookN, putN, fldS_ins, mthC_ins, h.m512, hlen, h.g12, l1, l2, it, kCmpr_some hL, cw, eq_nil, mu, eq_stag (h.at (show 34 < 67 by omega)), qd, newL_f, -decide_eq_true_eq, i2, evA, startE, List.map_cons, List.map_nil, List.length_cons, List.length_nil, List.replicate, List.cons_append, List.nil_append, List.set_cons_zero, List.set_cons_succ, List.getElem?_cons_zero, List.getElem?_cons_succ, Nat.add_sub_cancel, Nat.sub_self, Nat.reduceAdd, Nat.reduceSub, Int.reduceAdd, Int.reduceNeg, decide_true, decide_false, Bool.false_xor, Bool.true_xor, Bool.not_true, Bool.not_false]
  · have qd : decide (numS i = PI.tgs 34) = false := decide_eq_false q
    rw [qd, Bool.false_or] at dg
    simp [c95, hk, lookN, putN, fldS_ins, mthC_ins, h.m512, hlen, h.g12, l1, l2, it, kCmpr_some hL, cw, eq_nil, mu, eq_stag (h.at (show 34 < 67 by omega)), qd, ix, dg, newL_f, i2, evA, startE, List.map_cons, List.map_nil, List.length_cons, List.length_nil, List.replicate, List.cons_append, List.nil_append, List.set_cons_zero, List.set_cons_succ, List.getElem?_cons_zero, List.getElem?_cons_succ, Nat.add_sub_cancel, Nat.sub_self, Nat.reduceAdd, Nat.reduceSub, Int.reduceAdd, Int.reduceNeg, decide_true, decide_false, Bool.false_xor, Bool.true_xor, Bool.not_true, Bool.not_false]
theorem tag_hd (h : LibRe tb) {w : Nat} {r : List D} (hw : w < 12) : tagHd tb.tg (.str (PI.tgs w) :: r) = .tag w :: r := by
  have e := tg_fi w hw
  simp only [tagHd, tagV, h.tgs, e]
theorem cut_s1 {i : Int} : cutS (PI.tgs 20 ++ numS i) (some 1) none = numS i := by
  refine ext_tl ?_
  have e : tl (PI.tgs 20 ++ numS i) = 115 :: tl (numS i) := by rw [tl_append, tl_s] <;> rfl
  have l : (PI.tgs 20 ++ numS i).length = (tl (numS i)).length + 1 := by rw [len_tl, e] <;> rfl
  rw [C8.cutS_slice]
  have q := SX.slice_from (a := 115 :: tl (numS i)) (i := 1) (by omega)
  have e3 : PI.tgs 20 ++ numS i = SX.S (115 :: tl (numS i)) := by
    refine ext_tl ?_
    rw [e] <;> rfl
  rw [e3, q] <;> rfl
theorem cut_1 {x : Str} {c : Nat} {r : List Nat} (e : tl x = c :: r) : tl (cutS x none (some 1)) = [c] := by
  rw [C8.cutS_slice]
  have q := SX.slice_to (a := c :: r) (i := 1) (by omega)
  have e3 : x = SX.S (c :: r) := by
    refine ext_tl ?_
    rw [e] <;> rfl
  rw [e3, q] <;> rfl
theorem reckoning_ (h : LibRe tb) {sl : Int} (hs : sl ≤ 1000) {k : Nat} {ws : List Str} : ∀ (e : Re) (d n a : Nat) (s : Store) (rest : List Str), e.ok sl d → d ≤ 3 → s.f k = rdC ws a → ws.drop a = e.w ++ rest → d + 5 ≤ n →
    Run tb W n 96 [.cell k] s = .ok e.d (s.set k (rdC ws (a + e.w.length))) := by
  intro e
  have inop : ∀ (x : Str) (s : Store), inV' tb.tg false (.str x) (.tup [.tag 0, .tag 1, .tag 2, .tag 3, .tag 4, .tag 5]) s = .ok (.bl (isW [0, 1, 2, 3, 4, 5] x)) s := fun x s => by
    have q := in_tags (T := tb.tg) (s := s) (neg := false) (x := x) (l := [0, 1, 2, 3, 4, 5])
    rw [any_tg h (fun j hj => by simp only [List.mem_cons, List.not_mem_nil, or_false] at hj; omega), Bool.false_xor] at q
    exact q
  have nop : ∀ x : Str, (hd0 x < 97 ∨ hd0 x = 115) → isW [0, 1, 2, 3, 4, 5] x = false := fun x hx => by
    refine isW_f ?_
    rintro j hj rfl
    have hj6 : j < 6 := by simp only [List.mem_cons, List.not_mem_nil, or_false] at hj; omega
    have := hd_tg j (by omega)
    rcases hx with hx | hx
    · omega
    · exact this.2 hj6 hx
  induction e with
  | num i =>
    intro d n a s rest hk hd hc hw hn
    obtain ⟨m, rfl⟩ : ∃ m, n = m + 2 := ⟨n - 2, by omega⟩
    rw [run_at h.f96 rfl]
    obtain ⟨k1, k2⟩ := hk
    obtain ⟨hx, _⟩ := hd_of (x := numS i) (r := rest) hw
    have pk := peek_ (W := W) h hc hx (n := m + 1) (by omega)
    have fg := figures_ (W := W) h hc k1 k2 (n := m + 1) (by omega)
    have hd1 := hd_num k1 k2
    have io := inop (numS i) s
    rw [nop _ (.inl (by omega))] at io
    obtain ⟨c, r, e, hcc, _⟩ := num_cases k1 k2
    have l0 := len_num k1 k2
    have sc : slcV tb.tg false (.str (numS i)) none (some 1) s = .ok (.str (cutS (numS i) none (some 1))) s := by
      simp only [slcV, qdr_str]; rw [if_pos (by unfold LIM; omega)]
    have ns : decide (cutS (numS i) none (some 1) = PI.tgs 20) = false := decide_eq_false fun q => by
      have := congrArg tl q
      rw [cut_1 e, tl_s] at this
      have := (List.cons.inj this).1
      omega
    have hc2 := hc
    unfold rdC at hc2
    simp [c96v1, hc2, mthC_ins, h.m513, h.m515, pk, h.n.g7, io, sc, eq_stag (h.at (show 20 < 67 by omega)), ns, fg, Re.d, Re.w, -decide_eq_false_iff_not, evA, startE, List.map_cons, List.map_nil, List.length_cons, List.length_nil, List.replicate, List.cons_append, List.nil_append, List.set_cons_zero, List.set_cons_succ, List.getElem?_cons_zero, List.getElem?_cons_succ, Nat.add_sub_cancel, Nat.sub_self, Nat.reduceAdd, Nat.reduceSub, Int.reduceAdd, Int.reduceNeg, decide_true, decide_false, Bool.false_xor, Bool.true_xor, Bool.not_true, Bool.not_false]
  | slot i =>
    intro d n a s rest hk hd hc hw hn
    obtain ⟨m, rfl⟩ : ∃ m, n = m + 2 := ⟨n - 2, by omega⟩
    rw [run_at h.f96 rfl]
    obtain ⟨k1, k2⟩ := hk
    have k3 : i < 1000 := by omega
    obtain ⟨hx, _⟩ := hd_of (x := PI.tgs 20 ++ numS i) (r := rest) hw
    have pk := peek_ (W := W) h hc hx (n := m + 1) (by omega)
    have fg := figures_ (W := W) h hc k1 k3 (n := m + 1) (by omega)
    have io := inop (PI.tgs 20 ++ numS i) s
    rw [nop _ (.inr hd_slot)] at io
    have l0 := (wk_slot k1 k3).len
    have e : tl (PI.tgs 20 ++ numS i) = 115 :: tl (numS i) := by rw [tl_append, tl_s] <;> rfl
    have sc : ∀ lo hi : Option Int, slcV tb.tg false (.str (PI.tgs 20 ++ numS i)) lo hi s = .ok (.str (cutS (PI.tgs 20 ++ numS i) lo hi)) s := fun lo hi => by
      simp only [slcV, qdr_str]; rw [if_pos (by unfold LIM; omega)]
    have ns : decide (cutS (PI.tgs 20 ++ numS i) none (some 1) = PI.tgs 20) = true := decide_eq_true (ext_tl (by rw [cut_1 e, tl_s]))
    have hc2 := hc
    unfold rdC at hc2
    simp [c96v1, hc2, mthC_ins, h.m513, h.m515, pk, h.n.g7, io, sc, eq_stag (h.at (show 20 < 67 by omega)), ns, cut_s1, fg, Re.d, Re.w, -decide_eq_true_eq, evA, startE, List.map_cons, List.map_nil, List.length_cons, List.length_nil, List.replicate, List.cons_append, List.nil_append, List.set_cons_zero, List.set_cons_succ, List.getElem?_cons_zero, List.getElem?_cons_succ, Nat.add_sub_cancel, Nat.sub_self, Nat.reduceAdd, Nat.reduceSub, Int.reduceAdd, Int.reduceNeg, decide_true, decide_false, Bool.false_xor, Bool.true_xor, Bool.not_true, Bool.not_false]
  | pair w x y ihx ihy =>
    intro d n a s rest hk hd hc hw hn
    obtain ⟨hw6, k', rfl, kx, ky⟩ := hk
    obtain ⟨m, rfl⟩ : ∃ m, n = m + 2 := ⟨n - 2, by omega⟩
    rw [run_at h.f96 rfl]
    simp only [Re.w, List.cons_append, List.append_assoc] at hw
    obtain ⟨hx, hr⟩ := hd_of hw
    have pk := peek_ (W := W) h hc hx (n := m + 1) (by omega)
    have io := inop (PI.tgs w) s
    rw [isW_t (by simp only [List.mem_cons, List.not_mem_nil, or_false]; omega)] at io
    have r1 := ihx k' (m + 1) (a + 1) (s.set k (rdC ws (a + 1))) _ kx (by omega) set_same hr (by omega)
    have r2 := ihy k' (m + 1) (a + 1 + x.w.length) (s.set k (rdC ws (a + 1 + x.w.length))) _ ky (by omega) set_same (drop_app hr) (by omega)
    rw [set_set] at r1 r2
    have ea : a + 1 + x.w.length + y.w.length = a + (Re.pair w x y).w.length := by simp only [Re.w, List.length_cons, List.length_append]; omega
    rw [ea] at r2
    have hc2 := hc
    unfold rdC at hc2
    have e1 : s.set k (.ins 5 [(21, .lst (ws.map D.str)), (15, .int ((a : Int) + 1))]) = s.set k (rdC ws (a + 1)) := rfl
    have e2 : ∀ s' : Store, (s'.set k (rdC ws (a + 1))).f k = .ins 5 [(21, .lst (ws.map D.str)), (15, .int ((a + 1 : Nat) : Int))] := fun s' => set_same
    have e3 : ∀ (s' : Store), (s'.set k (rdC ws (a + 1 + x.w.length))).f k = .ins 5 [(21, .lst (ws.map D.str)), (15, .int ((a + 1 + x.w.length : Nat) : Int))] := fun s' => set_same
    simp [c96v1, hc2, lookN, putN, fldS_ins, mthC_ins, h.m513, h.m516, pk, h.n.g7, io, e1, e2, e3, r1, r2, kTupW_app, tag_hd h (show w < 12 by omega), Re.d, -decide_eq_true_eq, evA, startE, List.map_cons, List.map_nil, List.length_cons, List.length_nil, List.replicate, List.cons_append, List.nil_append, List.set_cons_zero, List.set_cons_succ, List.getElem?_cons_zero, List.getElem?_cons_succ, Nat.add_sub_cancel, Nat.sub_self, Nat.reduceAdd, Nat.reduceSub, Int.reduceAdd, Int.reduceNeg, decide_true, decide_false, Bool.false_xor, Bool.true_xor, Bool.not_true, Bool.not_false]
end
end PI

namespace PI
open PySem L2 TL
def c97w : S := match c97.code with
  | .cons _ (.cons _ (.cons w _)) => w
  | _ => .never
def c97c : E := match c97w with
  | .whl c _ => c
  | _ => .nop
def c97b : Ss := match c97w with
  | .whl _ b => b
  | _ => .nil
section
variable {tb : Tab} {W : Nat}
theorem several_ (h : LibRe tb) {sl : Int} (hs : sl ≤ 1000) {k : Nat} {ws : List Str} {as : List Re} {n a : Nat} {s : Store} {rest : List Str} (ha : ∀ x ∈ as, x.ok sl 3) (hl : as.length ≤ 30) (hk : s.f k = rdC ws a) (hkn : k < s.n) (hw : ws.drop a = argsW as ++ rest) (hW : 100 ≤ W) (hn : 10 ≤ n) :
    wp (Run tb W n 97 [.cell k] s) fun d s' => d = .tup (as.map Re.d) ∧ s'.f k = rdC ws (a + (argsW as).length) ∧ Chg (· = k) s s' := by
  obtain ⟨m, rfl⟩ : ∃ m, n = m + 2 := ⟨n - 2, by omega⟩
  suffices H : ∀ Q : D → Store → Prop, (∀ s', s'.f k = rdC ws (a + (argsW as).length) → Chg (· = k) s s' → Q (.tup (as.map Re.d)) s') → wp (Run tb W (m + 2) 97 [.cell k] s) Q from H _ fun s' x y => ⟨rfl, x, y⟩
  intro Q hQ
  rw [run_at h.f97 rfl]
  simp only [argsW, List.cons_append, List.append_assoc] at hw
  obtain ⟨hx, hr⟩ := hd_of hw
  have sk := skip_ (W := W) h hk (t := 21) (by omega) hx (n := m + 1) (by omega)
  have hk2 := hk
  unfold rdC at hk2
  have ne : k ≠ s.n := by omega
  have loop : wp (whlL (evalE (GG tb W m) c97c) (evalSs (GG tb W m) c97b) W [some (.cell k), some (.cell s.n)] ((s.set k (rdC ws (a + 1))).new (.lst []))) fun f s' => f = .nx [some (.cell k), some (.cell s.n)] ∧ s'.f k = rdC ws (a + 1 + (as.flatMap Re.w).length) ∧ s'.f s.n = .lst (as.map Re.d) ∧ Chg (· = k) s s' ∧ s.n < s'.n := by
    refine whl_wp (Inv := fun q env s' => ∃ done rest', as = done ++ rest' ∧ q = rest'.length ∧ env = [some (.cell k), some (.cell s.n)] ∧ s'.f k = rdC ws (a + 1 + (done.flatMap Re.w).length) ∧ s'.f s.n = .lst (done.map Re.d) ∧ Chg (· = k) s s' ∧ s.n < s'.n) ?_ (m := as.length) (by omega) ⟨[], as, rfl, rfl, rfl, by rw [new_f, if_neg (by rw [set_n]; exact ne), set_same] <;> rfl, new_same, Chg.setr.trans Chg.new, Nat.lt_succ_self _⟩
    rintro q env s1 ⟨done, rest', e1, rfl, rfl, e2, e3, e4, e5⟩
    have hr1 : ws.drop (a + 1 + (done.flatMap Re.w).length) = rest'.flatMap Re.w ++ (PI.tgs 22 :: rest) := by
      refine drop_app (p := done.flatMap Re.w) ?_
      rw [hr, e1]
      simp
    have e2' := e2
    unfold rdC at e2'
    cases rest' with
    | nil =>
      rw [List.append_nil] at e1
      subst e1
      obtain ⟨hx2, _⟩ := hd_of (x := PI.tgs 22) (r := rest) hr1
      have pk := peek_ (W := W) h e2 hx2 (n := m + 1) (by omega)
      simp [c97c, c97w, c97, e2', mthC_ins, h.m513, pk, eq_stag (h.at (show 22 < 67 by omega)), -List.length_flatMap, evA, startE, List.map_cons, List.map_nil, List.length_cons, List.length_nil, List.replicate, List.cons_append, List.nil_append, List.set_cons_zero, List.set_cons_succ, List.getElem?_cons_zero, List.getElem?_cons_succ, Nat.add_sub_cancel, Nat.sub_self, Nat.reduceAdd, Nat.reduceSub, Int.reduceAdd, Int.reduceNeg, decide_true, decide_false, Bool.false_xor, Bool.true_xor, Bool.not_true, Bool.not_false]
      exact ⟨by first | rfl | exact e2, e3, e4, e5⟩
    | cons x rest' =>
      have hxo : x.ok sl 3 := ha x (by rw [e1]; simp)
      obtain ⟨y, r, ey, yne⟩ := x.w_head hs hxo
      rw [List.flatMap_cons, List.append_assoc] at hr1
      have hr2 := hr1
      rw [ey, List.cons_append] at hr2
      obtain ⟨hx2, _⟩ := hd_of hr2
      have pk := peek_ (W := W) h e2 hx2 (n := m + 1) (by omega)
      have rk := reckoning_ (W := W) h hs x 3 (m + 1) (a + 1 + (done.flatMap Re.w).length) s1 _ hxo (by omega) e2 hr1 (by omega)
      have hL : (done.map Re.d).length < LIM := by rw [e1, List.length_append] at hl; rw [List.length_map]; unfold LIM; omega
      have e3' : (s1.set k (rdC ws (a + 1 + (done.flatMap Re.w).length + x.w.length))).f s.n = .lst (done.map Re.d) := by rw [set_f, if_neg (by omega)]; exact e3
      have rl : isL (s1.f s.n) = true := by rw [e3] <;> rfl
      simp [c97c, c97b, c97w, c97, e2', mthC_ins, h.m513, h.m516, pk, eq_stag (h.at (show 22 < 67 by omega)), yne, e3, e3', rk, appC_lst hL, -List.length_flatMap, evA, startE, List.map_cons, List.map_nil, List.length_cons, List.length_nil, List.replicate, List.cons_append, List.nil_append, List.set_cons_zero, List.set_cons_succ, List.getElem?_cons_zero, List.getElem?_cons_succ, Nat.add_sub_cancel, Nat.sub_self, Nat.reduceAdd, Nat.reduceSub, Int.reduceAdd, Int.reduceNeg, decide_true, decide_false, Bool.false_xor, Bool.true_xor, Bool.not_true, Bool.not_false]
      refine ⟨rest'.length, by omega, done ++ [x], rest', by rw [e1] <;> simp, rfl, ?_, ?_, ?_, e5⟩
      · rw [set_f, if_neg ne, set_same, List.flatMap_append]
        simp only [List.flatMap_cons, List.flatMap_nil, List.append_nil, List.length_append, Nat.add_assoc]
      · simp
      · refine ⟨e4.1, fun j hj hn => ?_⟩
        have hn' : j ≠ k := hn
        rw [set_f, if_neg (by omega), set_f, if_neg hn']
        exact e4.2 j hj hn
  simp only [c97c, c97b, c97w, c97] at loop
  simp [c97, hk2, mthC_ins, h.m514, sk, newLt, s_whl, set_n, -List.map_append, evA, startE, List.map_cons, List.map_nil, List.length_cons, List.length_nil, List.replicate, List.cons_append, List.nil_append, List.set_cons_zero, List.set_cons_succ, List.getElem?_cons_zero, List.getElem?_cons_succ, Nat.add_sub_cancel, Nat.sub_self, Nat.reduceAdd, Nat.reduceSub, Int.reduceAdd, Int.reduceNeg, decide_true, decide_false, Bool.false_xor, Bool.true_xor, Bool.not_true, Bool.not_false]
  refine wp_mono loop ?_
  rintro _ s1 ⟨rfl, e2, e3, e4, e5⟩
  have hr1 : ws.drop (a + 1 + (as.flatMap Re.w).length) = PI.tgs 22 :: rest := drop_app hr
  obtain ⟨hx2, _⟩ := hd_of hr1
  have sk2 := skip_ (W := W) h e2 (t := 22) (by omega) hx2 (n := m + 1) (by omega)
  have e2' := e2
  unfold rdC at e2'
  have e3' : (s1.set k (rdC ws (a + 1 + (as.flatMap Re.w).length + 1))).f s.n = .lst (as.map Re.d) := by rw [set_f, if_neg (by omega)]; exact e3
  simp [e2', mthC_ins, h.m514, sk2, e3', -List.length_flatMap, evA, startE, List.map_cons, List.map_nil, List.length_cons, List.length_nil, List.replicate, List.cons_append, List.nil_append, List.set_cons_zero, List.set_cons_succ, List.getElem?_cons_zero, List.getElem?_cons_succ, Nat.add_sub_cancel, Nat.sub_self, Nat.reduceAdd, Nat.reduceSub, Int.reduceAdd, Int.reduceNeg, decide_true, decide_false, Bool.false_xor, Bool.true_xor, Bool.not_true, Bool.not_false]
  refine hQ _ ?_ (e4.trans Chg.setr)
  rw [set_same]
  congr 1
  simp only [argsW, List.length_cons, List.length_append, List.length_nil]
  omega
theorem eq_wt (h : LibRe tb) {neg : Bool} {w j : Nat} {s : Store} (hw : w < 12) (hj : j < 12) : eqV' tb.tg neg (.str (PI.tgs w)) (.tag j) s = .ok (.bl (xor neg (decide (w = j)))) s := by
  rw [eq_stag (h.at (show j < 67 by omega))]
  congr 3
  exact decide_eq_decide.mpr (tg_inj w hw j hj)
theorem in_wt (h : LibRe tb) {neg : Bool} {w : Nat} {l : List Nat} {s : Store} (hw : w < 12) (hl : ∀ j ∈ l, j < 12) : inV' tb.tg neg (.str (PI.tgs w)) (.tup (l.map D.tag)) s = .ok (.bl (xor neg (l.any fun j => j == w))) s := by
  rw [in_tags, any_tg h (fun j hj => by have := hl j hj; omega)]
  congr 3
  unfold isW
  induction l with
  | nil => rfl
  | cons j l ih =>
    have e : (PI.tgs j == PI.tgs w) = (j == w) := by
      rw [Bool.eq_iff_iff, beq_iff_eq, beq_iff_eq]
      exact tg_inj j (hl j List.mem_cons_self) w hw
    rw [List.any_cons, List.any_cons, e, ih fun y hy => hl y (List.mem_cons_of_mem _ hy)]
theorem in_6 (h : LibRe tb) {w : Nat} {s : Store} (hw : w < 12) (h6 : 6 ≤ w) : inV' tb.tg false (.str (PI.tgs w)) (.tup [.tag 6, .tag 7, .tag 8, .tag 9, .tag 10, .tag 11]) s = .ok (.bl true) s := by
  have q := in_wt (neg := false) (s := s) h hw (l := [6, 7, 8, 9, 10, 11]) (fun j hj => by simp only [List.mem_cons, List.not_mem_nil, or_false] at hj; omega)
  have e : ([6, 7, 8, 9, 10, 11].any fun j => j == w) = true := List.any_eq_true.mpr ⟨w, by simp only [List.mem_cons, List.not_mem_nil, or_false]; omega, beq_self_eq_true w⟩
  rw [e] at q
  exact q
theorem in_2 (h : LibRe tb) {w : Nat} {s : Store} (hw : w < 12) : inV' tb.tg false (.str (PI.tgs w)) (.tup [.tag 9, .tag 11]) s = .ok (.bl (decide (w = 9 ∨ w = 11))) s := by
  have q := in_wt (neg := false) (s := s) h hw (l := [9, 11]) (fun j hj => by simp only [List.mem_cons, List.not_mem_nil, or_false] at hj; omega)
  have e : ([9, 11].any fun j => j == w) = decide (w = 9 ∨ w = 11) := by
    rw [Bool.eq_iff_iff]
    simp only [List.any_cons, List.any_nil, Bool.or_false, Bool.or_eq_true, beq_iff_eq, decide_eq_true_eq]
    omega
  rw [e, Bool.false_xor] at q
  exact q
theorem inner_ (h : LibRe tb) {cs : List Int} (hc : cs.length ≤ 5) {k : Nat} {ws : List Str} (hW : 100 ≤ W) : ∀ (dp : Nat) (b : Bd) (sl : Int) (wi n a : Nat) (s : Store) (rest : List Str), b.dep ≤ dp → b.ok cs sl wi → s.f k = rdC ws a → k < s.n → ws.drop a = b.w ++ rest → dp + 12 ≤ n →
    wp (Run tb W n 98 [.cell k] s) fun d s' => d = b.d ∧ s'.f k = rdC ws (a + b.w.length) ∧ Chg (· = k) s s' := by
  intro dp
  have step : ∀ (b : Bd) (sl : Int) (wi m a : Nat) (s : Store) (rest : List Str), b.ok cs sl wi → s.f k = rdC ws a → k < s.n → ws.drop a = b.w ++ rest → 10 ≤ m →
      (∀ x ∈ b.inner, ∀ (a : Nat) (s : Store) (rest : List Str), s.f k = rdC ws a → k < s.n → ws.drop a = x.w ++ rest → wp (Run tb W (m + 1) 98 [.cell k] s) fun d s' => d = x.d ∧ s'.f k = rdC ws (a + x.w.length) ∧ Chg (· = k) s s') →
      wp (Run tb W (m + 2) 98 [.cell k] s) fun d s' => d = b.d ∧ s'.f k = rdC ws (a + b.w.length) ∧ Chg (· = k) s s' := by
    intro b sl wi m a s rest hb hk hkn hw hm ih
    suffices H : ∀ Q : D → Store → Prop, (∀ s', s'.f k = rdC ws (a + b.w.length) → Chg (· = k) s s' → Q b.d s') → wp (Run tb W (m + 2) 98 [.cell k] s) Q from H _ fun s' x y => ⟨rfl, x, y⟩
    intro Q hQ
    rw [run_at h.f98 rfl]
    have hk2 := hk
    unfold rdC at hk2
    have f1 : ∀ (s' : Store) (i : Nat), (s'.set k (rdC ws i)).f k = .ins 5 [(21, .lst (ws.map D.str)), (15, .int (i : Int))] := fun s' i => set_same
    have e1 : s.set k (.ins 5 [(21, .lst (ws.map D.str)), (15, .int ((a : Int) + 1))]) = s.set k (rdC ws (a + 1)) := rfl
    have n1 : ∀ (s' : Store) (i : Nat), (s'.set k (rdC ws i)).n = s'.n := fun _ _ => rfl
    have rk := fun (e : Re) (he : e.ok sl 3) (h8 : sl ≤ 8) (r : List Str) (hr : ws.drop (a + 1) = e.w ++ r) => reckoning_ (W := W) h (show sl ≤ 1000 by omega) e 3 (m + 1) (a + 1) (s.set k (rdC ws (a + 1))) r he (by omega) set_same hr (by omega)
    have mu := fun (s : Store) => must_ (W := W) h (k := k) (s := s) (n := m + 1) (by omega)
    cases b with
    | end_ e =>
      obtain ⟨h1, h2, h3⟩ := hb
      simp only [Bd.w, List.cons_append, List.append_assoc] at hw hQ
      obtain ⟨hx, hr⟩ := hd_of hw
      have pk := peek_ (W := W) h hk hx (n := m + 1) (by omega)
      have r1 := rk e h3 h2 _ hr
      rw [set_set] at r1
      simp [c98v1, hk2, lookN, putN, fldS_ins, mthC_ins, h.m512, h.m513, h.m516, pk, in_6 h, mu, e1, in_2 h, f1, r1, eq_wt h, kTupW_app, tag_hd h, -List.length_append, evA, startE, List.map_cons, List.map_nil, List.length_cons, List.length_nil, List.replicate, List.cons_append, List.nil_append, List.set_cons_zero, List.set_cons_succ, List.getElem?_cons_zero, List.getElem?_cons_succ, Nat.add_sub_cancel, Nat.sub_self, Nat.reduceAdd, Nat.reduceSub, Int.reduceAdd, Int.reduceNeg, decide_true, decide_false, Bool.false_xor, Bool.true_xor, Bool.not_true, Bool.not_false]
      refine hQ _ ?_ Chg.setr
      rw [set_same]
      congr 1
      simp only [List.length_cons]
      omega
    | say e b =>
      obtain ⟨h1, h2, h3, h4⟩ := hb
      simp only [Bd.w, List.cons_append, List.append_assoc] at hw hQ
      obtain ⟨hx, hr⟩ := hd_of hw
      have pk := peek_ (W := W) h hk hx (n := m + 1) (by omega)
      have r1 := rk e h3 h2 _ hr
      rw [set_set] at r1
      obtain ⟨d, s2, er, rfl, k2, c2⟩ := wp_iff.mp (ih b (by simp [Bd.inner]) (a + 1 + e.w.length) (s.set k (rdC ws (a + 1 + e.w.length))) _ set_same hkn (drop_app hr))
      have l1 : [D.tag 7, e.d, b.d].length + ([] : List D).length ≤ LIM := by unfold LIM; simp
      simp [c98v1, hk2, lookN, putN, fldS_ins, mthC_ins, h.m512, h.m513, h.m516, h.m518, pk, in_6 h, mu, e1, in_2 h, f1, r1, eq_wt h, kTupW_app, tag_hd h, er, add_tt l1, -List.length_append, evA, startE, List.map_cons, List.map_nil, List.length_cons, List.length_nil, List.replicate, List.cons_append, List.nil_append, List.set_cons_zero, List.set_cons_succ, List.getElem?_cons_zero, List.getElem?_cons_succ, Nat.add_sub_cancel, Nat.sub_self, Nat.reduceAdd, Nat.reduceSub, Int.reduceAdd, Int.reduceNeg, decide_true, decide_false, Bool.false_xor, Bool.true_xor, Bool.not_true, Bool.not_false]
      refine hQ _ ?_ (Chg.setr.trans c2)
      rw [k2]
      congr 1
      simp only [List.length_cons, List.length_append]
      omega
    | if_ e x y =>
      obtain ⟨h1, h2, h3, h4, h5⟩ := hb
      simp only [Bd.w, List.cons_append, List.append_assoc] at hw hQ
      obtain ⟨hx, hr⟩ := hd_of hw
      have pk := peek_ (W := W) h hk hx (n := m + 1) (by omega)
      have r1 := rk e h3 h2 _ hr
      rw [set_set] at r1
      have hr2 := drop_app hr
      obtain ⟨d, s2, er, rfl, k2, c2⟩ := wp_iff.mp (ih x (by simp [Bd.inner]) (a + 1 + e.w.length) (s.set k (rdC ws (a + 1 + e.w.length))) _ set_same hkn hr2)
      have hkn2 : k < s2.n := Nat.lt_of_lt_of_le hkn c2.1
      obtain ⟨d, s3, er3, rfl, k3, c3⟩ := wp_iff.mp (ih y (by simp [Bd.inner]) _ s2 _ k2 hkn2 (drop_app hr2))
      have l1 : [D.tag 8, e.d, x.d].length + [y.d].length ≤ LIM := by unfold LIM; simp
      have k2' := k2
      unfold rdC at k2'
      simp [c98v1, hk2, lookN, putN, fldS_ins, mthC_ins, h.m512, h.m513, h.m516, h.m518, pk, in_6 h, mu, e1, in_2 h, f1, r1, eq_wt h, kTupW_app, tag_hd h, er, k2', er3, add_tt l1, -List.length_append, evA, startE, List.map_cons, List.map_nil, List.length_cons, List.length_nil, List.replicate, List.cons_append, List.nil_append, List.set_cons_zero, List.set_cons_succ, List.getElem?_cons_zero, List.getElem?_cons_succ, Nat.add_sub_cancel, Nat.sub_self, Nat.reduceAdd, Nat.reduceSub, Int.reduceAdd, Int.reduceNeg, decide_true, decide_false, Bool.false_xor, Bool.true_xor, Bool.not_true, Bool.not_false]
      refine hQ _ ?_ ((Chg.setr.trans c2).trans c3)
      rw [k3]
      congr 1
      simp only [List.length_cons, List.length_append]
      omega
    | turn q as =>
      obtain ⟨h1, h2, h3, h4⟩ := hb
      obtain ⟨q0, q1, _⟩ := argsOk_lt hc h4
      simp only [Bd.w, List.cons_append, List.append_assoc] at hw hQ
      obtain ⟨hx, hr⟩ := hd_of hw
      have pk := peek_ (W := W) h hk hx (n := m + 1) (by omega)
      obtain ⟨hx2, hr2⟩ := hd_of hr
      have pk2 := peek_ (W := W) h (s := s.set k (rdC ws (a + 1))) set_same hx2 (n := m + 1) (by omega)
      have fg := figures_ (W := W) h (s := s.set k (rdC ws (a + 1))) set_same q0 q1 (n := m + 1) (by omega)
      rw [set_set] at fg
      obtain ⟨d, s2, er, rfl, k2, c2⟩ := wp_iff.mp (several_ (W := W) h (show sl ≤ 1000 by omega) h4.2.2 h3 (s := s.set k (rdC ws (a + 1 + 1))) set_same hkn hr2 hW (n := m + 1) (by omega))
      have l1 : [D.tag 9, .int q, .tup (as.map Re.d)].length + ([] : List D).length ≤ LIM := by unfold LIM; simp
      simp [c98v1, hk2, lookN, putN, fldS_ins, mthC_ins, h.m512, h.m513, h.m515, h.m517, pk, in_6 h, mu, e1, in_2 h, f1, pk2, fg, eq_wt h, kTupW_app, tag_hd h, er, add_tt l1, -List.length_append, evA, startE, List.map_cons, List.map_nil, List.length_cons, List.length_nil, List.replicate, List.cons_append, List.nil_append, List.set_cons_zero, List.set_cons_succ, List.getElem?_cons_zero, List.getElem?_cons_succ, Nat.add_sub_cancel, Nat.sub_self, Nat.reduceAdd, Nat.reduceSub, Int.reduceAdd, Int.reduceNeg, decide_true, decide_false, Bool.false_xor, Bool.true_xor, Bool.not_true, Bool.not_false]
      refine hQ _ ?_ (Chg.setr.trans c2)
      rw [k2]
      congr 1
      simp only [List.length_cons]
      omega
    | through e as =>
      obtain ⟨h1, h2, h3, h4, h5⟩ := hb
      simp only [Bd.w, List.cons_append, List.append_assoc] at hw hQ
      obtain ⟨hx, hr⟩ := hd_of hw
      have pk := peek_ (W := W) h hk hx (n := m + 1) (by omega)
      have r1 := rk e h4 h2 _ hr
      rw [set_set] at r1
      obtain ⟨d, s2, er, rfl, k2, c2⟩ := wp_iff.mp (several_ (W := W) h (show sl ≤ 1000 by omega) h5 (by omega) (s := s.set k (rdC ws (a + 1 + e.w.length))) set_same hkn (drop_app hr) hW (n := m + 1) (by omega))
      simp [c98v1, hk2, lookN, putN, fldS_ins, mthC_ins, h.m512, h.m513, h.m516, h.m517, pk, in_6 h, mu, e1, in_2 h, f1, r1, eq_wt h, kTupW_app, tag_hd h, er, -List.length_append, evA, startE, List.map_cons, List.map_nil, List.length_cons, List.length_nil, List.replicate, List.cons_append, List.nil_append, List.set_cons_zero, List.set_cons_succ, List.getElem?_cons_zero, List.getElem?_cons_succ, Nat.add_sub_cancel, Nat.sub_self, Nat.reduceAdd, Nat.reduceSub, Int.reduceAdd, Int.reduceNeg, decide_true, decide_false, Bool.false_xor, Bool.true_xor, Bool.not_true, Bool.not_false]
      refine hQ _ ?_ (Chg.setr.trans c2)
      rw [k2]
      congr 1
      simp only [List.length_cons, List.length_append]
      omega
    | with_ q as b =>
      obtain ⟨h1, h2, h3, h4, h5⟩ := hb
      obtain ⟨q0, q1, _⟩ := argsOk_lt hc h4
      simp only [Bd.w, List.cons_append, List.append_assoc] at hw hQ
      obtain ⟨hx, hr⟩ := hd_of hw
      have pk := peek_ (W := W) h hk hx (n := m + 1) (by omega)
      obtain ⟨hx2, hr2⟩ := hd_of hr
      have pk2 := peek_ (W := W) h (s := s.set k (rdC ws (a + 1))) set_same hx2 (n := m + 1) (by omega)
      have fg := figures_ (W := W) h (s := s.set k (rdC ws (a + 1))) set_same q0 q1 (n := m + 1) (by omega)
      rw [set_set] at fg
      obtain ⟨d, s2, er, rfl, k2, c2⟩ := wp_iff.mp (several_ (W := W) h (show sl ≤ 1000 by omega) h4.2.2 h3 (s := s.set k (rdC ws (a + 1 + 1))) set_same hkn hr2 hW (n := m + 1) (by omega))
      have hkn2 : k < s2.n := Nat.lt_of_lt_of_le hkn c2.1
      obtain ⟨d, s3, er3, rfl, k3, c3⟩ := wp_iff.mp (ih b (by simp [Bd.inner]) _ s2 _ k2 hkn2 (drop_app hr2))
      have l1 : [D.tag 11, .int q, .tup (as.map Re.d)].length + [b.d].length ≤ LIM := by unfold LIM; simp
      have k2' := k2
      unfold rdC at k2'
      simp [c98v1, hk2, lookN, putN, fldS_ins, mthC_ins, h.m512, h.m513, h.m515, h.m517, h.m518, pk, in_6 h, mu, e1, in_2 h, f1, pk2, fg, eq_wt h, kTupW_app, tag_hd h, er, k2', er3, add_tt l1, -List.length_append, evA, startE, List.map_cons, List.map_nil, List.length_cons, List.length_nil, List.replicate, List.cons_append, List.nil_append, List.set_cons_zero, List.set_cons_succ, List.getElem?_cons_zero, List.getElem?_cons_succ, Nat.add_sub_cancel, Nat.sub_self, Nat.reduceAdd, Nat.reduceSub, Int.reduceAdd, Int.reduceNeg, decide_true, decide_false, Bool.false_xor, Bool.true_xor, Bool.not_true, Bool.not_false]
      refine hQ _ ?_ ((Chg.setr.trans c2).trans c3)
      rw [k3]
      congr 1
      simp only [List.length_cons, List.length_append]
      omega
  induction dp with
  | zero =>
    intro b sl wi n a s rest hd hb hk hkn hw hn
    obtain ⟨m, rfl⟩ : ∃ m, n = m + 2 := ⟨n - 2, by omega⟩
    exact step b sl wi m a s rest hb hk hkn hw (by omega) fun x hx => by have := inner_dep hx; omega
  | succ dp ih =>
    intro b sl wi n a s rest hd hb hk hkn hw hn
    obtain ⟨m, rfl⟩ : ∃ m, n = m + 2 := ⟨n - 2, by omega⟩
    refine step b sl wi m a s rest hb hk hkn hw (by omega) fun x hx a s rest hk hkn hw => ?_
    have := inner_dep hx
    exact ih x _ (wi + 1) (m + 1) a s rest (by omega) (inner_ok hb x hx) hk hkn hw (by omega)
theorem Kept.chg {s s1 s2 : Store} {k : Nat} (a : Kept s s1) (c : Chg (· = k) s1 s2) (h : s.n ≤ k) : Kept s s2 :=
  ⟨Nat.le_trans a.1 c.1, fun j hj hn => (c.2 j (Nat.lt_of_lt_of_le hj a.1) (show ¬ j = k by omega)).trans (a.2 j hj hn)⟩
def rowD (p : Int × Bd) : D := .tup [.int p.1, p.2.d]
def c99w : S := match c99.code with
  | .cons _ (.cons _ (.cons w _)) => w
  | _ => .never
def c99c : E := match c99w with
  | .whl c _ => c
  | _ => .nop
def c99b : Ss := match c99w with
  | .whl _ b => b
  | _ => .nil
theorem prW_len_app (a b : List (Int × Bd)) : (prW (a ++ b)).length = (prW a).length + (prW b).length := by simp only [prW, List.flatMap_append, List.length_append]
theorem readLoop (h : LibRe tb) {ps : List (Int × Bd)} (hp : PrOk ps) {m k j : Nat} (hW : 100 ≤ W) (hm : 22 ≤ m) {x0 : Option D} (hkj : k < j) {s0 : Store} (hk0 : s0.n ≤ k) {s : Store} (e0 : s.f k = rdC (prW ps) 0) (ej : s.f j = .lst []) (kp : Kept s0 s) (jn : j < s.n) :
    wp (whlL (evalE (GG tb W m) c99c) (evalSs (GG tb W m) c99b) W [x0, some (.cell k), some (.cell j), none] s) fun f s' => ∃ x3, f = .nx [x0, some (.cell k), some (.cell j), x3] ∧ s'.f j = .lst (ps.map rowD) ∧ Kept s0 s' ∧ j < s'.n := by
  have hcs : (ps.map (·.1)).length ≤ 5 := by rw [List.length_map]; exact hp.len.2
  refine whl_wp (Inv := fun q env s' => ∃ x3 done rest', ps = done ++ rest' ∧ q = rest'.length ∧ env = [x0, some (.cell k), some (.cell j), x3] ∧ s'.f k = rdC (prW ps) (prW done).length ∧ s'.f j = .lst (done.map rowD) ∧ Kept s0 s' ∧ j < s'.n) ?_ (m := ps.length) (by have := hp.len.2; omega) ⟨none, [], ps, rfl, rfl, rfl, e0, ej, kp, jn⟩
  rintro q env s1 ⟨x3, done, rest', e1, rfl, rfl, e2, e3, e4, e5⟩
  have hd : (prW ps).drop (prW done).length = prW rest' := by
    rw [e1]
    simp [prW]
  have e2' := e2
  unfold rdC at e2'
  cases rest' with
  | nil =>
    rw [List.append_nil] at e1
    subst e1
    have lt : ¬ ((prW ps).length : Int) < ((prW ps).length : Int) := by omega
    simp [c99c, c99w, c99, e2', lookN, lt, evA, startE, List.map_cons, List.map_nil, List.length_cons, List.length_nil, List.replicate, List.cons_append, List.nil_append, List.set_cons_zero, List.set_cons_succ, List.getElem?_cons_zero, List.getElem?_cons_succ, Nat.add_sub_cancel, Nat.sub_self, Nat.reduceAdd, Nat.reduceSub, Int.reduceAdd, Int.reduceNeg, decide_true, decide_false, Bool.false_xor, Bool.true_xor, Bool.not_true, Bool.not_false]
    exact ⟨e3, e4, e5⟩
  | cons p rest' =>
    have hpm : p ∈ ps := by rw [e1]; simp
    obtain ⟨p0, p1, p2, p3⟩ := hp.ok p hpm
    have hdp := ok_dep _ _ _ p2
    have er : prW (p :: rest') = PI.tgs 24 :: numS p.1 :: (p.2.w ++ prW rest') := by simp [prW]
    rw [er] at hd
    obtain ⟨hx, hr⟩ := hd_of hd
    obtain ⟨hx2, hr2⟩ := hd_of hr
    have lt : (((prW done).length : Nat) : Int) < ((prW ps).length : Int) := by
      have := (List.getElem?_eq_some_iff.mp hx).1
      omega
    have hkn : k < s1.n := by omega
    have sk := skip_ (W := W) h e2 (t := 24) (by omega) hx (n := m + 1) (by omega)
    have pk := peek_ (W := W) h (s := s1.set k (rdC (prW ps) ((prW done).length + 1))) set_same hx2 (n := m + 1) (by omega)
    have fg := figures_ (W := W) h (s := s1.set k (rdC (prW ps) ((prW done).length + 1))) set_same p0 (show p.1 < 1000 by omega) (n := m + 1) (by omega)
    rw [set_set] at fg
    obtain ⟨d, s2, ei, rfl, k2, c2⟩ := wp_iff.mp (inner_ (W := W) h hcs hW 6 p.2 p.1 0 (m + 1) _ (s1.set k (rdC (prW ps) ((prW done).length + 1 + 1))) _ (by omega) p2 set_same hkn hr2 (by omega))
    have f1 : ∀ (s' : Store) (i : Nat), (s'.set k (rdC (prW ps) i)).f k = .ins 5 [(21, .lst ((prW ps).map D.str)), (15, .int (i : Int))] := fun s' i => set_same
    have fj : (s1.set k (rdC (prW ps) ((prW done).length + 1 + 1))).f j = .lst (done.map rowD) := by rw [set_f, if_neg (by omega)]; exact e3
    have fj2 : s2.f j = .lst (done.map rowD) := by rw [c2.2 j (by rw [set_n]; exact e5) (show ¬ j = k by omega)]; exact fj
    have hL : (done.map rowD).length < LIM := by
      have := hp.len.2
      rw [e1, List.length_append] at this
      rw [List.length_map]; unfold LIM; omega
    have hs0 : s0.n ≤ k := hk0
    simp [c99c, c99b, c99w, c99, e2', lookN, lt, mthC_ins, h.m513, h.m514, h.m515, h.m518, sk, f1, pk, fg, fj, fj2, ei, appC_lst hL, -List.map_append, evA, startE, List.map_cons, List.map_nil, List.length_cons, List.length_nil, List.replicate, List.cons_append, List.nil_append, List.set_cons_zero, List.set_cons_succ, List.getElem?_cons_zero, List.getElem?_cons_succ, Nat.add_sub_cancel, Nat.sub_self, Nat.reduceAdd, Nat.reduceSub, Int.reduceAdd, Int.reduceNeg, decide_true, decide_false, Bool.false_xor, Bool.true_xor, Bool.not_true, Bool.not_false]
    refine ⟨rest'.length, by omega, some (.int p.1), done ++ [p], rest', by rw [e1] <;> simp, rfl, rfl, ?_, ?_, ?_, Nat.lt_of_lt_of_le e5 c2.1⟩
    · rw [set_f, if_neg (by omega), k2]
      congr 1
      rw [prW_len_app]
      simp only [prW, List.flatMap_cons, List.flatMap_nil, List.append_nil, List.length_cons]
      omega
    · simp [rowD]
    · exact (((e4.chg Chg.setr hk0).chg c2 hk0)).setNew (by omega)
theorem readerI (h : LibRe tb) {n k : Nat} {ws : List Str} {s : Store} (hk : s.f k = .ins 5 []) (hn : 2 ≤ n) : Run tb W n 91 [.cell k, .lst (ws.map D.str)] s = .ok .non (s.set k (rdC ws 0)) := by
  obtain ⟨m, rfl⟩ : ∃ m, n = m + 2 := ⟨n - 2, by omega⟩
  rw [run_at h.f91 rfl]
  unfold rdC
  simp [c91, hk, putN, fldS_ins, evA, startE, List.map_cons, List.map_nil, List.length_cons, List.length_nil, List.replicate, List.cons_append, List.nil_append, List.set_cons_zero, List.set_cons_succ, List.getElem?_cons_zero, List.getElem?_cons_succ, Nat.add_sub_cancel, Nat.sub_self, Nat.reduceAdd, Nat.reduceSub, Int.reduceAdd, Int.reduceNeg, decide_true, decide_false, Bool.false_xor, Bool.true_xor, Bool.not_true, Bool.not_false]
theorem read_ (h : LibRe tb) {ps : List (Int × Bd)} (hp : PrOk ps) {n : Nat} {s : Store} (hW : 100 ≤ W) (hn : 26 ≤ n) :
    wp (Run tb W n 99 [.str (prT ps)] s) fun d s' => ∃ j, d = .cell j ∧ s.n ≤ j ∧ j < s'.n ∧ s'.f j = .lst (ps.map rowD) ∧ Kept s s' := by
  obtain ⟨m, rfl⟩ : ∃ m, n = m + 2 := ⟨n - 2, by omega⟩
  suffices H : ∀ Q : D → Store → Prop, (∀ j s', s.n ≤ j → j < s'.n → s'.f j = .lst (ps.map rowD) → Kept s s' → Q (.cell j) s') → wp (Run tb W (m + 2) 99 [.str (prT ps)] s) Q from H _ fun j s' a b c d => ⟨j, rfl, a, b, c, d⟩
  intro Q hQ
  rw [run_at h.f99 rfl]
  obtain ⟨w1, w2, w3⟩ := pr_wk' hp
  have jl := join_len w3
  have lt2 : 2 ≤ wl (prW ps) := by
    cases ps with
    | nil => exact absurd rfl w3
    | cons p ps =>
      have e : prW (p :: ps) = PI.tgs 24 :: numS p.1 :: (p.2.w ++ prW ps) := by simp [prW]
      rw [e, wl_cons, wl_cons]
      omega
  have lX : (prT ps).length + 1 = wl (prW ps) := jl
  have ne : decide (prT ps = PI.tgs 27) = false := decide_eq_false fun q => by
    have := congrArg PySem.Str.length q
    have l0 : (PI.tgs 27).length = 0 := by decide +kernel
    omega
  have spl : ∀ s : Store, bmtV tb.tg .split (.str (prT ps)) [.tag 23] s = .ok (.lst ((prW ps).map .str)) s := fun s => by
    have t23 : tb.tg[23]? = some sp := by rw [h.tgs]; exact tg23
    have l1 : (sp.length == 0) = false := by decide +kernel
    simp only [bmtV, strOf, t23, split_prT hp]
    rw [if_pos ⟨l1, by unfold LIM; omega, List.all_eq_true.mpr fun x hx => (w1 x hx).sm.ok⟩]
  have rs : ∀ s : Store, recvOk .split (.str (prT ps)) s = true := fun _ => rfl
  have ri := readerI (W := W) h (n := m) (k := s.n) (ws := prW ps) (s := s.new (.ins 5 [])) new_same (by omega)
  have e0 : (((s.new (.ins 5 [])).set s.n (rdC (prW ps) 0)).new (.lst [])).f s.n = rdC (prW ps) 0 := by
    rw [new_f, if_neg (by rw [set_n, new_n]; omega), set_same]
  have ej : (((s.new (.ins 5 [])).set s.n (rdC (prW ps) 0)).new (.lst [])).f (s.n + 1) = .lst [] := by
    rw [new_f, if_pos (by rw [set_n, new_n])]
  have lp := readLoop (W := W) h hp (m := m) (k := s.n) (j := s.n + 1) hW (by omega) (x0 := some (.str (prT ps))) (by omega) (s0 := s) (Nat.le_refl _) e0 ej ((Chg.new.setNew (Nat.le_refl _)).trans Chg.new) (by rw [new_n, set_n, new_n]; omega)
  simp only [c99c, c99b, c99w, c99] at lp
  simp [c99, eq_stag (h.at (show 27 < 67 by omega)), ne, rs, spl, h.i5, ri, newLt, s_whl, new_n, set_n, -decide_eq_false_iff_not, evA, startE, List.map_cons, List.map_nil, List.length_cons, List.length_nil, List.replicate, List.cons_append, List.nil_append, List.set_cons_zero, List.set_cons_succ, List.getElem?_cons_zero, List.getElem?_cons_succ, Nat.add_sub_cancel, Nat.sub_self, Nat.reduceAdd, Nat.reduceSub, Int.reduceAdd, Int.reduceNeg, decide_true, decide_false, Bool.false_xor, Bool.true_xor, Bool.not_true, Bool.not_false]
  refine wp_mono lp ?_
  rintro _ s1 ⟨x3, rfl, e1, kp, jn⟩
  have hX : IsX s1 (.cell (s.n + 1)) ps := .inr ⟨_, rfl, jn, e1⟩
  have np := needProgramX (W := W) h.n hp (n := m + 1) hX (by omega)
  simp [np, evA, startE, List.map_cons, List.map_nil, List.length_cons, List.length_nil, List.replicate, List.cons_append, List.nil_append, List.set_cons_zero, List.set_cons_succ, List.getElem?_cons_zero, List.getElem?_cons_succ, Nat.add_sub_cancel, Nat.sub_self, Nat.reduceAdd, Nat.reduceSub, Int.reduceAdd, Int.reduceNeg, decide_true, decide_false, Bool.false_xor, Bool.true_xor, Bool.not_true, Bool.not_false]
  exact hQ _ _ (by omega) jn e1 kp
end
end PI

namespace PI
open PySem L2 TL
section
variable {T : Nat}
theorem sim_mono11 {k : Nat} {a : D} (h : Sim T k a) : ∀ k', k ≤ k' → Sim T k' a := by
  induction h with
  | int i => exact fun _ _ => .int i
  | non => exact fun _ _ => .non
  | tag h => exact fun _ _ => .tag h
  | tup h1 _ ih =>
    intro k' hk
    obtain ⟨j, rfl⟩ : ∃ j, k' = j + 1 := ⟨k' - 1, by omega⟩
    exact .tup h1 fun x hx => ih x hx j (by omega)
  | lst h1 _ ih =>
    intro k' hk
    obtain ⟨j, rfl⟩ : ∃ j, k' = j + 1 := ⟨k' - 1, by omega⟩
    exact .lst h1 fun x hx => ih x hx j (by omega)
theorem sim_sam11 {T : List Str} {s : Store} {k : Nat} {d : D} (h : Sim T.length k d) : Sam T s k d d := by
  induction h with
  | int i => exact .int i
  | non => exact .non
  | tag h => exact .tag h
  | tup h1 _ ih =>
    rename_i k xs _
    refine .tup h1 rfl fun i hi => ?_
    have e : xs.getD i .non = xs[i] := by rw [List.getD_eq_getElem?_getD, List.getElem?_eq_getElem hi]; rfl
    rw [e]
    exact ih _ (List.getElem_mem hi)
  | lst h1 _ ih =>
    rename_i k xs _
    refine .lst (.inl rfl) (.inl rfl) h1 rfl fun i hi => ?_
    have e : xs.getD i .non = xs[i] := by rw [List.getD_eq_getElem?_getD, List.getElem?_eq_getElem hi]; rfl
    rw [e]
    exact ih _ (List.getElem_mem hi)
theorem sim_t11 {k : Nat} {xs : List D} (hl : xs.length ≤ 1000) (h : ∀ x ∈ xs, Sim T k x) : Sim T (k + 1) (.tup xs) := .tup (by omega) h
theorem sim_re11 (hT : 67 ≤ T) : ∀ (r : Re) (sl : Int) (k : Nat), r.ok sl k → Sim T (k + 1) r.d
  | .num i, sl, k, h => sim_t11 (by simp) fun x hx => by
    rcases List.mem_cons.mp hx with rfl | hx
    · exact .tag (by omega)
    · rw [List.mem_singleton.mp hx]; exact .int _
  | .slot i, sl, k, h => sim_t11 (by simp) fun x hx => by
    rcases List.mem_cons.mp hx with rfl | hx
    · exact .tag (by omega)
    · rw [List.mem_singleton.mp hx]; exact .int _
  | .pair w a b, sl, k, h => by
    obtain ⟨h1, k', rfl, h2, h3⟩ := h
    refine sim_t11 (by simp) fun x hx => ?_
    rcases List.mem_cons.mp hx with rfl | hx
    · exact .tag (by omega)
    · rcases List.mem_cons.mp hx with rfl | hx
      · exact sim_re11 hT a sl k' h2
      · rw [List.mem_singleton.mp hx]; exact sim_re11 hT b sl k' h3
theorem sim_args11 (hT : 67 ≤ T) {as : List Re} {sl : Int} (hl : as.length ≤ 30) (h : ∀ a ∈ as, a.ok sl 3) : Sim T 5 (.tup (as.map Re.d)) :=
  sim_t11 (by rw [List.length_map]; omega) fun x hx => by
    obtain ⟨a, ha, rfl⟩ := List.mem_map.mp hx
    exact sim_re11 hT a sl 3 (h a ha)
theorem sim_bd11 (hT : 67 ≤ T) {cs : List Int} : ∀ (k : Nat) (b : Bd) (sl : Int) (wi : Nat), b.dep ≤ k → b.ok cs sl wi → Sim T (k + 6) b.d := by
  intro k
  have re : ∀ {e : Re} {sl : Int} (k : Nat), e.ok sl 3 → Sim T (k + 5) e.d := fun {e sl} k h => sim_mono11 (sim_re11 hT e sl 3 h) _ (by omega)
  have ar : ∀ {as : List Re} {sl : Int} (k : Nat), as.length ≤ 30 → (∀ a ∈ as, a.ok sl 3) → Sim T (k + 5) (.tup (as.map Re.d)) := fun {as sl} k h1 h2 => sim_mono11 (sim_args11 hT h1 h2) _ (by omega)
  have step : ∀ (k : Nat) (b : Bd) (sl : Int) (wi : Nat), b.ok cs sl wi → (∀ x ∈ b.inner, Sim T (k + 5) x.d) → Sim T (k + 6) b.d := by
    intro k b sl wi hb ih
    refine sim_t11 (k := k + 5) ?_ ?_ |> fun (q : Sim T (k + 5 + 1) (.tup (match b.d with | .tup l => l | _ => []))) => by cases b <;> exact q
    · cases b <;> simp [Bd.d]
    · intro x hx
      cases b with
      | end_ e =>
        simp only [Bd.d, List.mem_cons, List.not_mem_nil, or_false] at hx
        rcases hx with rfl | rfl
        · exact .tag (by omega)
        · exact re k hb.2.2
      | say e b =>
        simp only [Bd.d, List.mem_cons, List.not_mem_nil, or_false] at hx
        rcases hx with rfl | rfl | rfl
        · exact .tag (by omega)
        · exact re k hb.2.2.1
        · exact ih b (by simp [Bd.inner])
      | if_ e a b =>
        simp only [Bd.d, List.mem_cons, List.not_mem_nil, or_false] at hx
        rcases hx with rfl | rfl | rfl | rfl
        · exact .tag (by omega)
        · exact re k hb.2.2.1
        · exact ih a (by simp [Bd.inner])
        · exact ih b (by simp [Bd.inner])
      | turn q as =>
        simp only [Bd.d, List.mem_cons, List.not_mem_nil, or_false] at hx
        rcases hx with rfl | rfl | rfl
        · exact .tag (by omega)
        · exact .int _
        · exact ar k hb.2.2.1 hb.2.2.2.2.2
      | through e as =>
        simp only [Bd.d, List.mem_cons, List.not_mem_nil, or_false] at hx
        rcases hx with rfl | rfl | rfl
        · exact .tag (by omega)
        · exact re k hb.2.2.2.1
        · exact ar k (by have := hb.2.2.1; omega) hb.2.2.2.2
      | with_ q as b =>
        simp only [Bd.d, List.mem_cons, List.not_mem_nil, or_false] at hx
        rcases hx with rfl | rfl | rfl | rfl
        · exact .tag (by omega)
        · exact .int _
        · exact ar k hb.2.2.1 hb.2.2.2.1.2.2
        · exact ih b (by simp [Bd.inner])
  induction k with
  | zero =>
    intro b sl wi hd hb
    exact step 0 b sl wi hb fun x hx => by have := inner_dep hx; omega
  | succ k ih =>
    intro b sl wi hd hb
    refine step (k + 1) b sl wi hb fun x hx => ?_
    have := inner_dep hx
    exact sim_mono11 (ih x _ _ (by omega) (inner_ok hb x hx)) _ (by omega)
theorem sim_row11 (hT : 67 ≤ T) {ps : List (Int × Bd)} (hp : PrOk ps) {p : Int × Bd} (h : p ∈ ps) : Sim T 13 (rowD p) := by
  obtain ⟨p0, p1, p2, p3⟩ := hp.ok p h
  have hd := ok_dep _ _ _ p2
  refine sim_t11 (by simp) fun x hx => ?_
  rcases List.mem_cons.mp hx with rfl | hx
  · exact .int _
  · rw [List.mem_singleton.mp hx]; exact sim_bd11 hT 6 p.2 p.1 0 (by omega) p2
end
theorem sam_prog {T : List Str} (hT : 67 ≤ T.length) {ps : List (Int × Bd)} (hp : PrOk ps) {s : Store} {X : D} (h : IsX s X ps) : Sam T s 14 X (PrD ps) := by
  refine .lst h (.inl rfl) (by have := hp.len.2; rw [List.length_map]; omega) rfl fun i hi => ?_
  rw [List.length_map] at hi
  have e : (ps.map fun p => D.tup [.int p.1, p.2.d]).getD i .non = rowD ps[i] := by rw [List.getD_eq_getElem?_getD, List.getElem?_map, List.getElem?_eq_getElem hi]; rfl
  rw [e]
  exact sim_sam11 (sim_row11 hT hp (List.getElem_mem hi))
structure Lib11 (tb : Tab) : Prop where
  q : LibQ tb
  l : LibL tb
  w : LibW tb
  a : LibA tb
  wr : LibWr tb
  re : LibRe tb
  lt : LibLt tb
  f44 : tb.fns 44 = some c44
def k11a : Ss := match c60v10.code with
  | .cons _ (.cons _ (.cons (.for_ _ _ b) _)) => b
  | _ => .nil
def k11b : Ss := match k11a with
  | .cons _ (.cons (.for_ _ _ b) _) => b
  | _ => .nil
section
variable {tb : Tab} {W : Nat}
theorem inner11 (h : Lib11 tb) {ps : List (Int × Bd)} (hp : PrOk ps) {m r : Nat} (hm : 40 ≤ m) (hW : 200000 ≤ W) {x0 x2 : Option D} {s : Store} (hr : RowC (s.f r)) (hrn : r < s.n) (x5 x6 x7 x8 x9 : Option D) :
    wp (forL (bindC (.name 5)) (evalSs (GG tb W m) k11b) ((List.range 2).map fun (i : Nat) => D.int (i : Int)) [x0, some (.cell r), x2, some (PrD ps), some (.str (prT ps)), x5, x6, x7, x8, x9] s) fun f s' => ∃ env2, f = .nx env2 ∧ ∃ x5 x6 x7 x8 x9, env2 = [x0, some (.cell r), x2, some (PrD ps), some (.str (prT ps)), x5, x6, x7, x8, x9] ∧ RowC (s'.f r) ∧ r < s'.n := by
  refine for_range_wp (Inv := fun _ env2 s' => ∃ x5 x6 x7 x8 x9, env2 = [x0, some (.cell r), x2, some (PrD ps), some (.str (prT ps)), x5, x6, x7, x8, x9] ∧ RowC (s'.f r) ∧ r < s'.n) (fun k env s1 hk hi => ?_) ⟨x5, x6, x7, x8, x9, rfl, hr, hrn⟩
  obtain ⟨y5, y6, y7, y8, y9, rfl, hr1, hrn1⟩ := hi
  refine ⟨_, rfl, ?_⟩
  have hT := h.w.tg
  obtain ⟨d, s2, e2, j, rfl, hj, hjn, hjf, k2⟩ := wp_iff.mp (read_ (W := W) h.re hp (n := m + 1) (s := s1) (by omega) (by omega))
  obtain ⟨d, s3, e3, rfl, k3⟩ := wp_iff.mp (written_ (W := W) h.wr hp (n := m + 1) (s := s2) (IsX.prd (ps := ps)) (by omega) (by omega))
  have a1 := alike2 (W := W) h.f44 hT 1 (.str (prT ps)) (.str (prT ps)) (m + 1) s3 (.str _) (by omega)
  have hX3 : IsX s3 (.cell j) ps := .inr ⟨j, rfl, k3.lt hjn, by rw [k3.f hjn]; exact hjf⟩
  have a2 := alike2 (W := W) h.f44 hT 14 (.cell j) (PrD ps) (m + 1) s3 (sam_prog hT hp hX3) (by omega)
  obtain ⟨d, s4, e4, rfl, k4⟩ := wp_iff.mp (written_ (W := W) h.wr hp (n := m + 1) (s := s3) hX3 (by omega) (by omega))
  have k14 : Kept s1 s4 := (k2.trans k3).trans k4
  have hr4 : RowC (s4.f r) := by rw [k14.f hrn1]; exact hr1
  have hrn4 : r < s4.n := k14.lt hrn1
  obtain ⟨d, s5, e5, num, args, most, rfl, a, c5, hc5, rfl⟩ := wp_iff.mp (lawAsk (W := W) h.a hp (n := m + 1) hr4 (by omega))
  have jr : j ≠ r := by omega
  have hX5 : IsX (s4.set r c5) (.cell j) ps := by
    rcases hX3.kept k4 with q | ⟨j', q, l, f⟩
    · cases q
    · cases q
      exact .inr ⟨j, rfl, l, by rw [set_f, if_neg jr]; exact f⟩
  obtain ⟨d, s6, e6, rfl, k6⟩ := wp_iff.mp (ranX (W := W) h.w hp a (n := m + 1) hX5 (by omega) hW)
  obtain ⟨d, s7, e7, rfl, k7⟩ := wp_iff.mp (lawRun (W := W) h.l hp a (n := m + 1) (s := s6) (by omega) hW)
  have al := alike (W := W) h.f44 hT 2 _ (m + 1) s7 (run_sim hT hp hW a) (by omega)
  have hX7 := (hX5.kept k6).kept k7
  have f7 : s7.f j = .lst (ps.map rowD) ∧ j < s7.n := by
    rcases hX7 with q | ⟨j', q, l, f⟩
    · cases q
    · cases q
      exact ⟨f, l⟩
  have hL : (ps.map rowD).length < LIM := by have := hp.len.2; rw [List.length_map]; unfold LIM; omega
  have r5 : (s4.set r c5).f r = c5 := set_same
  have r7 : s7.f r = c5 := by
    have l5 : r < (s4.set r c5).n := hrn4
    rw [Kept.f k7 (Kept.lt k6 l5), Kept.f k6 l5, r5]
  simp [k11b, k11a, c60v10, e2, e3, a1, a2, e4, eq_ss, e5, kAsgT_tup, e6, e7, al, f7.1, appC_lst hL, -List.map_append, evA, startE, List.map_cons, List.map_nil, List.length_cons, List.length_nil, List.replicate, List.cons_append, List.nil_append, List.set_cons_zero, List.set_cons_succ, List.getElem?_cons_zero, List.getElem?_cons_succ, Nat.add_sub_cancel, Nat.sub_self, Nat.reduceAdd, Nat.reduceSub, Int.reduceAdd, Int.reduceNeg, decide_true, decide_false, Bool.false_xor, Bool.true_xor, Bool.not_true, Bool.not_false]
  refine ⟨?_, ?_⟩
  · rw [set_f, if_neg (Ne.symm jr), r7]; exact hc5
  · exact Kept.lt k7 (Kept.lt k6 hrn4)
theorem law11 (h : Lib11 tb) (h60 : tb.fns 60 = some c60v10) (hW : 200000 ≤ W) (ns : List Int) {n : Nat} (hn : 42 ≤ n) : ∃ s', Run tb W n 60 [.frz (ns.map .int)] ⟨0, fun _ => .dead⟩ = .ok (.bl true) s' := by
  obtain ⟨m, rfl⟩ : ∃ m, n = m + 2 := ⟨n - 2, by omega⟩
  have q : wp (Run tb W (m + 2) 60 [.frz (ns.map .int)] ⟨0, fun _ => .dead⟩) fun d _ => d = .bl true := by
    rw [run_at h60 rfl]
    have r0 : RowC ((Store.new ⟨0, fun _ => Cell.dead⟩ (.lst [.frz (ns.map .int), .int 0, .int 0, .int 0])).f 0) := ⟨ns, 0, 0, 0, rfl, by omega⟩
    obtain ⟨d, s1, e1, ps, rfl, hp, hr1, c1⟩ := wp_iff.mp (lawProgram (W := W) h.q (n := m + 1) (most := 4) (waits := 2) r0 (by rw [new_n]; omega) (by omega) (by omega) (by omega))
    have hn1 : 0 < s1.n := Nat.lt_of_lt_of_le (by rw [new_n]; omega) c1.1
    obtain ⟨d, s2, e2, ps2, rfl, hp2, hr2, c2⟩ := wp_iff.mp (lawProgram (W := W) h.q (n := m + 1) (most := 4) (waits := 3) hr1 hn1 (by omega) (by omega) (by omega))
    have hn2 : 0 < s2.n := Nat.lt_of_lt_of_le hn1 c2.1
    have sl : ∀ s : Store, slcV tb.tg false (.lst [PrD ps, PrD ps2]) none (some 1) s = .ok (.lst [PrD ps]) s := fun s => rfl
    have ad : ∀ s : Store, bopV tb.tg .add false (.lst [PrD ps, PrD ps2]) (.lst [PrD ps]) s = .ok (.lst ([ps, ps2, ps].map PrD)) s := fun s => by rw [add_ll (by unfold LIM; simp)] <;> rfl
    have loop : wp (forL (bindC (.name 3)) (evalSs (GG tb W m) k11a) ([ps, ps2, ps].map PrD) [some (.frz (ns.map .int)), some (.cell 0), some (.lst [PrD ps, PrD ps2]), none, none, none, none, none, none, none] s2) fun f s' => ∃ env, f = .nx env ∧ True := by
      refine for_list_wp (d := PrD) (Inv := fun rest env s' => (∀ z ∈ rest, PrOk z) ∧ ∃ x0 x2 x3 x4 x5 x6 x7 x8 x9, env = [x0, some (.cell 0), x2, x3, x4, x5, x6, x7, x8, x9] ∧ RowC (s'.f 0) ∧ 0 < s'.n) ?_ ?_ ⟨?_, _, _, _, _, _, _, _, _, _, rfl, hr2, hn2⟩
      · rintro z rest env s3 ⟨hz, x0, x2, x3, x4, x5, x6, x7, x8, x9, rfl, hr3, hn3⟩
        refine ⟨_, rfl, ?_⟩
        have hpz := hz z List.mem_cons_self
        obtain ⟨d, s4, e4, rfl, k4⟩ := wp_iff.mp (wholeText (W := W) h.lt hpz (n := m + 1) (s := s3) (by omega))
        have inn := inner11 (W := W) h hpz (m := m) (r := 0) (by omega) hW (x0 := x0) (x2 := x2) (s := s4) (by rw [k4.f hn3]; exact hr3) (k4.lt hn3) x5 x6 x7 x8 x9
        have hlim : -(LIM : Int) ≤ (2 : Int) ∧ (2 : Int) ≤ (LIM : Int) := by unfold LIM; omega
        have e2 : (2 : Int).toNat = 2 := rfl
        simp only [k11b, k11a, c60v10] at inn
        simp only [k11a, c60v10, e4, rng_ok hlim, e2, evA, startE, List.map_cons, List.map_nil, List.length_cons, List.length_nil, List.replicate, List.cons_append, List.nil_append, List.set_cons_zero, List.set_cons_succ, List.getElem?_cons_zero, List.getElem?_cons_succ, Nat.add_sub_cancel, Nat.sub_self, Nat.reduceAdd, Nat.reduceSub, Int.reduceAdd, Int.reduceNeg, decide_true, decide_false, Bool.false_xor, Bool.true_xor, Bool.not_true, Bool.not_false]
        refine wp_mono inn ?_
        rintro _ s5 ⟨_, rfl, z5, z6, z7, z8, z9, rfl, hr5, hn5⟩
        simp only [evA, startE, List.map_cons, List.map_nil, List.length_cons, List.length_nil, List.replicate, List.cons_append, List.nil_append, List.set_cons_zero, List.set_cons_succ, List.getElem?_cons_zero, List.getElem?_cons_succ, Nat.add_sub_cancel, Nat.sub_self, Nat.reduceAdd, Nat.reduceSub, Int.reduceAdd, Int.reduceNeg, decide_true, decide_false, Bool.false_xor, Bool.true_xor, Bool.not_true, Bool.not_false]
        exact .inl ⟨_, rfl, fun y hy => hz y (List.mem_cons_of_mem _ hy), _, _, _, _, _, _, _, _, _, rfl, hr5, hn5⟩
      · rintro env s3 _
        exact ⟨_, rfl, trivial⟩
      · intro z hz
        simp only [List.mem_cons, List.not_mem_nil, or_false] at hz
        rcases hz with rfl | rfl | rfl
        · exact hp
        · exact hp2
        · exact hp
    simp only [k11a, c60v10] at loop
    simp only [c60v10, newLt, new_n, newL_f, e1, e2, sl, ad, evA, startE, List.map_cons, List.map_nil, List.length_cons, List.length_nil, List.replicate, List.cons_append, List.nil_append, List.set_cons_zero, List.set_cons_succ, List.getElem?_cons_zero, List.getElem?_cons_succ, Nat.add_sub_cancel, Nat.sub_self, Nat.reduceAdd, Nat.reduceSub, Int.reduceAdd, Int.reduceNeg, decide_true, decide_false, Bool.false_xor, Bool.true_xor, Bool.not_true, Bool.not_false]
    refine wp_mono loop ?_
    rintro _ s3 ⟨env, rfl, _⟩
    simp only [evA, startE, List.map_cons, List.map_nil, List.length_cons, List.length_nil, List.replicate, List.cons_append, List.nil_append, List.set_cons_zero, List.set_cons_succ, List.getElem?_cons_zero, List.getElem?_cons_succ, Nat.add_sub_cancel, Nat.sub_self, Nat.reduceAdd, Nat.reduceSub, Int.reduceAdd, Int.reduceNeg, decide_true, decide_false, Bool.false_xor, Bool.true_xor, Bool.not_true, Bool.not_false]
  obtain ⟨d, s', e, rfl⟩ := wp_iff.mp q
  exact ⟨s', e⟩
end
end PI

namespace TR
open PySem PySem.Spec PyProof.Rows L2
def top (i : Nat) : Stmt := PySem.Challenge.pw_tailroom_k11_whole_written_and_read.main.body.getD i (.Pass ⟨0, 0, 0, 0⟩)
abbrev s0 : Stmt := top 15
def r0 : PI.DR := ⟨"is_reckoning", "is_reckoning", defArgs s0, defBody s0, defScope s0, ["e", "slots", "deep"], ["e", "slots", "deep"]⟩
abbrev s1 : Stmt := top 16
def r1 : PI.DR := ⟨"are_args", "are_args", defArgs s1, defBody s1, defScope s1, ["program", "number", "args", "slots", "e"], ["program", "number", "args", "slots"]⟩
abbrev s2 : Stmt := top 17
def r2 : PI.DR := ⟨"is_call", "is_call", defArgs s2, defBody s2, defScope s2, ["program", "body", "slots", "good", "e"], ["program", "body", "slots"]⟩
abbrev s3 : Stmt := top 18
def r3 : PI.DR := ⟨"inner_of", "inner_of", defArgs s3, defBody s3, defScope s3, ["body"], ["body"]⟩
abbrev s4 : Stmt := top 19
def r4 : PI.DR := ⟨"is_body", "is_body", defArgs s4, defBody s4, defScope s4, ["program", "body", "slots", "within", "more", "inner"], ["program", "body", "slots", "within"]⟩
abbrev s5 : Stmt := top 20
def r5 : PI.DR := ⟨"parts_in", "parts_in", defArgs s5, defBody s5, defScope s5, ["body", "inner"], ["body"]⟩
abbrev s6 : Stmt := top 21
def r6 : PI.DR := ⟨"need_program", "need_program", defArgs s6, defBody s6, defScope s6, ["program", "number", "params", "body"], ["program"]⟩
abbrev s30 : Stmt := top 25
def r30 : PI.DR := ⟨"words_of", "words_of", defArgs s30, defBody s30, defScope s30, ["e"], ["e"]⟩
abbrev s31 : Stmt := top 26
def r31 : PI.DR := ⟨"args_words", "args_words", defArgs s31, defBody s31, defScope s31, ["args", "found", "e"], ["args"]⟩
abbrev s32 : Stmt := top 27
def r32 : PI.DR := ⟨"body_words", "body_words", defArgs s32, defBody s32, defScope s32, ["body", "found", "inner"], ["body"]⟩
abbrev s33 : Stmt := top 28
def r33 : PI.DR := ⟨"written", "written", defArgs s33, defBody s33, defScope s33, ["program", "found", "params", "body"], ["program"]⟩
abbrev s91 : Stmt := inClass (top 29) 0
def r91 : PI.DR := ⟨"__init__", "Reader.__init__", defArgs s91, defBody s91, defScope s91, ["self", "words"], ["self", "words"]⟩
abbrev s92 : Stmt := inClass (top 29) 1
def r92 : PI.DR := ⟨"must", "Reader.must", defArgs s92, defBody s92, defScope s92, ["self", "good"], ["self", "good"]⟩
abbrev s93 : Stmt := inClass (top 29) 2
def r93 : PI.DR := ⟨"peek", "Reader.peek", defArgs s93, defBody s93, defScope s93, ["self"], ["self"]⟩
abbrev s94 : Stmt := inClass (top 29) 3
def r94 : PI.DR := ⟨"skip", "Reader.skip", defArgs s94, defBody s94, defScope s94, ["self", "word"], ["self", "word"]⟩
abbrev s95 : Stmt := inClass (top 29) 4
def r95 : PI.DR := ⟨"figures", "Reader.figures", defArgs s95, defBody s95, defScope s95, ["self", "word", "sign"], ["self", "word"]⟩
abbrev s96 : Stmt := inClass (top 29) 5
def r96 : PI.DR := ⟨"reckoning", "Reader.reckoning", defArgs s96, defBody s96, defScope s96, ["self", "word", "one"], ["self"]⟩
abbrev s97 : Stmt := inClass (top 29) 6
def r97 : PI.DR := ⟨"several", "Reader.several", defArgs s97, defBody s97, defScope s97, ["self", "found"], ["self"]⟩
abbrev s98 : Stmt := inClass (top 29) 7
def r98 : PI.DR := ⟨"inner", "Reader.inner", defArgs s98, defBody s98, defScope s98, ["self", "word", "number", "args", "e", "one"], ["self"]⟩
abbrev s99 : Stmt := top 30
def r99 : PI.DR := ⟨"read", "read", defArgs s99, defBody s99, defScope s99, ["text", "reader", "found", "params"], ["text"]⟩
abbrev s17 : Stmt := top 33
def r17 : PI.DR := ⟨"paired", "paired", defArgs s17, defBody s17, defScope s17, ["word", "one", "other"], ["word", "one", "other"]⟩
abbrev s18 : Stmt := top 34
def r18 : PI.DR := ⟨"reckoned", "reckoned", defArgs s18, defBody s18, defScope s18, ["e", "slots", "one", "other"], ["e", "slots"]⟩
abbrev s19 : Stmt := top 35
def r19 : PI.DR := ⟨"all_reckoned", "all_reckoned", defArgs s19, defBody s19, defScope s19, ["args", "slots", "found", "e"], ["args", "slots"]⟩
abbrev s20 : Stmt := top 36
def r20 : PI.DR := ⟨"need_ask", "need_ask", defArgs s20, defBody s20, defScope s20, ["counts", "number", "args", "most", "one"], ["counts", "number", "args", "most"]⟩
abbrev s21 : Stmt := top 37
def r21 : PI.DR := ⟨"fault_of_through", "fault_of_through", defArgs s21, defBody s21, defScope s21, ["counts", "number", "args"], ["counts", "number", "args"]⟩
abbrev s22 : Stmt := inClass (top 38) 0
def r22 : PI.DR := ⟨"__init__", "Talk.__init__", defArgs s22, defBody s22, defScope s22, ["self", "most"], ["self", "most"]⟩
abbrev s23 : Stmt := inClass (top 38) 1
def r23 : PI.DR := ⟨"begin", "Talk.begin", defArgs s23, defBody s23, defScope s23, ["self"], ["self"]⟩
abbrev s24 : Stmt := inClass (top 38) 2
def r24 : PI.DR := ⟨"wait", "Talk.wait", defArgs s24, defBody s24, defScope s24, ["self"], ["self"]⟩
abbrev s25 : Stmt := inClass (top 38) 3
def r25 : PI.DR := ⟨"told", "Talk.told", defArgs s25, defBody s25, defScope s25, ["self", "outcome"], ["self", "outcome"]⟩
abbrev s34 : Stmt := inClass (top 41) 0
def r34 : PI.DR := ⟨"__init__", "Walk.__init__", defArgs s34, defBody s34, defScope s34, ["self", "program", "talk", "function"], ["self", "program", "talk"]⟩
abbrev s35 : Stmt := inClass (top 41) 1
def r35 : PI.DR := ⟨"call", "Walk.call", defArgs s35, defBody s35, defScope s35, ["self", "number", "args"], ["self", "number", "args"]⟩
abbrev s36 : Stmt := inClass (top 41) 2
def r36 : PI.DR := ⟨"step", "Walk.step", defArgs s36, defBody s36, defScope s36, ["self", "word", "args", "number"], ["self"]⟩
abbrev s37 : Stmt := inClass (top 41) 3
def r37 : PI.DR := ⟨"plain", "Walk.plain", defArgs s37, defBody s37, defScope s37, ["self", "word", "number", "slots"], ["self", "word", "number"]⟩
abbrev s38 : Stmt := inClass (top 41) 4
def r38 : PI.DR := ⟨"through", "Walk.through", defArgs s38, defBody s38, defScope s38, ["self", "number", "args", "fault"], ["self", "number"]⟩
abbrev s39 : Stmt := top 42
def r39 : PI.DR := ⟨"ran", "ran", defArgs s39, defBody s39, defScope s39, ["program", "number", "args", "most", "talk", "walk", "function"], ["program", "number", "args", "most"]⟩
abbrev s43 : Stmt := top 44
def r43 : PI.DR := ⟨"_law_taken", "_law_taken", defArgs s43, defBody s43, defScope s43, ["_law_row", "_law_many", "_law_found", "_law_cell"], ["_law_row", "_law_many"]⟩
abbrev s44 : Stmt := top 45
def r44 : PI.DR := ⟨"_law_alike", "_law_alike", defArgs s44, defBody s44, defScope s44, ["_law_found", "_law_due", "_law_k"], ["_law_found", "_law_due"]⟩
abbrev s45 : Stmt := top 46
def r45 : PI.DR := ⟨"_law_e", "_law_e", defArgs s45, defBody s45, defScope s45, ["_law_row", "_law_slots", "_law_deep", "_law_way", "_law_word"], ["_law_row", "_law_slots", "_law_deep"]⟩
abbrev s46 : Stmt := top 47
def r46 : PI.DR := ⟨"_law_args", "_law_args", defArgs s46, defBody s46, defScope s46, ["_law_row", "_law_slots", "_law_many", "_law_found", "_law_k"], ["_law_row", "_law_slots", "_law_many"]⟩
abbrev s47 : Stmt := top 48
def r47 : PI.DR := ⟨"_law_call", "_law_call", defArgs s47, defBody s47, defScope s47, ["_law_row", "_law_box", "_law_slots", "_law_deep", "_law_number_here", "_law_args_here", "_law_way", "_law_e_here"], ["_law_row", "_law_box", "_law_slots", "_law_deep"]⟩
abbrev s48 : Stmt := top 49
def r48 : PI.DR := ⟨"_law_body", "_law_body", defArgs s48, defBody s48, defScope s48, ["_law_row", "_law_box", "_law_slots", "_law_deep", "_law_way", "_law_e_here", "_law_first"], ["_law_row", "_law_box", "_law_slots", "_law_deep"]⟩
abbrev s49 : Stmt := top 50
def r49 : PI.DR := ⟨"_law_program", "_law_program", defArgs s49, defBody s49, defScope s49, ["_law_row", "_law_most", "_law_waits", "_law_counts", "_law_found", "_law_number_here", "_law_box", "_law_body_here", "_law_k"], ["_law_row", "_law_most", "_law_waits"]⟩
abbrev s61 : Stmt := top 51
def r61 : PI.DR := ⟨"_law_paired", "_law_paired", defArgs s61, defBody s61, defScope s61, ["_law_word", "_law_one", "_law_other"], ["_law_word", "_law_one", "_law_other"]⟩
abbrev s62 : Stmt := top 52
def r62 : PI.DR := ⟨"_law_number", "_law_number", defArgs s62, defBody s62, defScope s62, ["_law_e_here", "_law_slots"], ["_law_e_here", "_law_slots"]⟩
abbrev s63 : Stmt := top 53
def r63 : PI.DR := ⟨"_law_called", "_law_called", defArgs s63, defBody s63, defScope s63, ["_law_program_here", "_law_body_here", "_law_slots", "_law_number_here", "_law_args_here", "_law_e_here"], ["_law_program_here", "_law_body_here", "_law_slots"]⟩
abbrev s64 : Stmt := top 54
def r64 : PI.DR := ⟨"_law_run", "_law_run", defArgs s64, defBody s64, defScope s64, ["_law_program_here", "_law_number_here", "_law_args_here", "_law_most", "_law_words", "_law_pile", "_law_deepest", "_law_left", "_law_slots", "_law_body_here", "_law_called_here", "_law_told", "_law_ahead"], ["_law_program_here", "_law_number_here", "_law_args_here", "_law_most"]⟩
abbrev s65 : Stmt := top 55
def r65 : PI.DR := ⟨"_law_ask", "_law_ask", defArgs s65, defBody s65, defScope s65, ["_law_row", "_law_program_here", "_law_number_here", "_law_args_here", "_law_k"], ["_law_row", "_law_program_here"]⟩
abbrev s100 : Stmt := top 56
def r100 : PI.DR := ⟨"_law_text", "_law_text", defArgs s100, defBody s100, defScope s100, ["_law_part", "_law_found", "_law_one", "_law_e_here"], ["_law_part"]⟩
abbrev s101 : Stmt := top 57
def r101 : PI.DR := ⟨"_law_whole_text", "_law_whole_text", defArgs s101, defBody s101, defScope s101, ["_law_program_here", "_law_function"], ["_law_program_here"]⟩
abbrev s60 : Stmt := top 58
def r60 : PI.DR := ⟨"law", "law", defArgs s60, defBody s60, defScope s60, ["_law_script", "_law_row", "_law_some", "_law_program_here", "_law_text_here", "_law_again", "_law_found", "_law_number_here", "_law_args_here", "_law_most"], ["_law_script"]⟩
def rs_0 : List (Option (PI.DR × (PySem.Str × Option PySem.Str))) := [some (r0, ("is_reckoning", none)), some (r1, ("are_args", none)), some (r2, ("is_call", none)), some (r3, ("inner_of", none)), some (r4, ("is_body", none)), some (r5, ("parts_in", none)), some (r6, ("need_program", none)), none, none, none, none, none, none, none, none, none, none, some (r17, ("paired", none)), some (r18, ("reckoned", none)), some (r19, ("all_reckoned", none))]
def rs_1 : List (Option (PI.DR × (PySem.Str × Option PySem.Str))) := [some (r20, ("need_ask", none)), some (r21, ("fault_of_through", none)), some (r22, ("Talk", some "__init__")), some (r23, ("Talk", some "begin")), some (r24, ("Talk", some "wait")), some (r25, ("Talk", some "told")), none, none, none, none, some (r30, ("words_of", none)), some (r31, ("args_words", none)), some (r32, ("body_words", none)), some (r33, ("written", none)), some (r34, ("Walk", some "__init__")), some (r35, ("Walk", some "call")), some (r36, ("Walk", some "step")), some (r37, ("Walk", some "plain")), some (r38, ("Walk", some "through")), some (r39, ("ran", none))]
def rs_2 : List (Option (PI.DR × (PySem.Str × Option PySem.Str))) := [none, none, none, some (r43, ("_law_taken", none)), some (r44, ("_law_alike", none)), some (r45, ("_law_e", none)), some (r46, ("_law_args", none)), some (r47, ("_law_call", none)), some (r48, ("_law_body", none)), some (r49, ("_law_program", none)), none, none, none, none, none, none, none, none, none, none]
def rs_3 : List (Option (PI.DR × (PySem.Str × Option PySem.Str))) := [some (r60, ("law", none)), some (r61, ("_law_paired", none)), some (r62, ("_law_number", none)), some (r63, ("_law_called", none)), some (r64, ("_law_run", none)), some (r65, ("_law_ask", none)), none, none, none, none, none, none, none, none, none, none, none, none, none, none]
def rs_4 : List (Option (PI.DR × (PySem.Str × Option PySem.Str))) := [none, none, none, none, none, none, none, none, none, none, none, some (r91, ("Reader", some "__init__")), some (r92, ("Reader", some "must")), some (r93, ("Reader", some "peek")), some (r94, ("Reader", some "skip")), some (r95, ("Reader", some "figures")), some (r96, ("Reader", some "reckoning")), some (r97, ("Reader", some "several")), some (r98, ("Reader", some "inner")), some (r99, ("read", none))]
def rs_5 : List (Option (PI.DR × (PySem.Str × Option PySem.Str))) := [some (r100, ("_law_text", none)), some (r101, ("_law_whole_text", none)), none, none, none, none, none, none, none, none, none, none, none, none, none, none, none, none]
def tg_0 : List PySem.Str := ["plus", "minus", "times", "over", "less", "like", "end", "say", "if", "turn", "through", "with", "fault", "num", "slot", "no such call", "no such numbers", "none", "count", "wait"]
def tg_1 : List PySem.Str := ["s", "(", ")", " ", "function", "still", "fork", "", "ask", "program", "text", "pile", "sum", "give", "0", "function ", "0123456789", "number", "body", "e"]
def tg_2 : List PySem.Str := ["read", "other", " !#$&'()*+,-./0123456789:;<=>?@ABCDEFGHIJKLMNOPQRSTUVWXYZ[]^_abcdefghijklmnopqrstuvwxyz{|}~", "00", "999", "1000", "s0", "s9", "s00", "0123456789s() plusendtwh-.", "ss0", "sss1", "1s", "s0s", "function 0", "function 0 end", "function 4 end 0", "function 0 end s0", "function 0 with 0 ( ) end s0", "function 0 end 01"]
def tg_3 : List PySem.Str := ["function 0 turn 0 (", "function 0 turn 0 ( )", "function 1 turn 0 ( s0 ) end", "function 0 through 0 ( 1 2", "function 0 end 0 function 0 end s1", "function 0  end 0", "end 0"]
def fl_0 : List PySem.Str := ["said", "left", "waits", "deepest", "pieces", "program", "counts", "talk", "pile", "slots", "body", "outcome", "frames", "marks", "top", "at", "begins", "many", "rows", "waiting"]
def fl_1 : List PySem.Str := ["functions", "words"]
def gl_0 : List (PySem.Str × (Nat × PI.Gd)) := [("LIMIT", (0, .int 1000)), ("MOST_FUNCTIONS", (1, .int 5)), ("MOST_PARAMS", (2, .int 3)), ("MOST_SLOTS", (3, .int 8)), ("MOST_PARTS", (4, .int 30)), ("MOST_WITHIN", (5, .int 6)), ("MOST_DEEP", (6, .int 3)), ("PAIRS", (7, .tup [0, 1, 2, 3, 4, 5])), ("BODIES", (8, .dic [(6, 2), (7, 3), (8, 4), (9, 3), (10, 3), (11, 4)])), ("FIGURES", (11, .str "0123456789")), ("MOST_FIGURES", (12, .int 3)), ("MOST_CALLS", (9, .int 5000)), ("FAULT", (10, .tup [12, 3]))]
def cl_0 : List PySem.Pos := [⟨78, 12, 78, 17⟩, ⟨86, 12, 86, 41⟩, ⟨84, 16, 84, 61⟩, ⟨94, 12, 94, 14⟩, ⟨133, 16, 133, 18⟩, ⟨156, 12, 156, 14⟩, ⟨198, 20, 198, 22⟩, ⟨221, 20, 221, 22⟩, ⟨323, 17, 323, 103⟩, ⟨354, 18, 354, 130⟩, ⟨357, 17, 357, 19⟩, ⟨359, 19, 359, 48⟩, ⟨388, 17, 388, 19⟩, ⟨389, 16, 389, 18⟩, ⟨429, 17, 429, 19⟩, ⟨439, 15, 439, 37⟩]
def fz_0 : List PySem.Pos := [⟨91, 11, 91, 16⟩, ⟨364, 11, 364, 21⟩]
def mt_0 : List ((Nat × Nat) × Nat) := [((5, 0), 91), ((5, 12), 92), ((5, 13), 93), ((5, 14), 94), ((5, 15), 95), ((5, 16), 96), ((5, 17), 97), ((5, 18), 98), ((0, 0), 22), ((0, 1), 23), ((0, 2), 24), ((0, 3), 25), ((1, 0), 34), ((1, 5), 35), ((1, 6), 36), ((1, 7), 37), ((1, 8), 38)]
def L : PI.LD := {
  tg := tg_0 ++ tg_1 ++ tg_2 ++ tg_3
  fl := fl_0 ++ fl_1
  rs := rs_0 ++ rs_1 ++ rs_2 ++ rs_3 ++ rs_4 ++ rs_5
  cls := [("Reader", 5), ("Talk", 0), ("Walk", 1)]
  ini := [(5, 91), (0, 22), (1, 34)]
  mtn := [("__init__", 0), ("must", 12), ("peek", 13), ("skip", 14), ("figures", 15), ("reckoning", 16), ("several", 17), ("inner", 18), ("begin", 1), ("wait", 2), ("told", 3), ("call", 5), ("step", 6), ("plain", 7), ("through", 8)]
  mt := mt_0
  gls := gl_0
  cl := cl_0
  fz := fz_0 }
theorem b0 : PI.BindR r0 := fun _ _ _ F => FunD.bindsN (ps := r0.ps) F fun _ _ _ _ _ _ us hl => match us, hl with | [_, _, _], _ => rfl
theorem b1 : PI.BindR r1 := fun _ _ _ F => FunD.bindsN (ps := r1.ps) F fun _ _ _ _ _ _ us hl => match us, hl with | [_, _, _, _], _ => rfl
theorem b2 : PI.BindR r2 := fun _ _ _ F => FunD.bindsN (ps := r2.ps) F fun _ _ _ _ _ _ us hl => match us, hl with | [_, _, _], _ => rfl
theorem b3 : PI.BindR r3 := fun _ _ _ F => FunD.bindsN (ps := r3.ps) F fun _ _ _ _ _ _ us hl => match us, hl with | [_], _ => rfl
theorem b4 : PI.BindR r4 := fun _ _ _ F => FunD.bindsN (ps := r4.ps) F fun _ _ _ _ _ _ us hl => match us, hl with | [_, _, _, _], _ => rfl
theorem b5 : PI.BindR r5 := fun _ _ _ F => FunD.bindsN (ps := r5.ps) F fun _ _ _ _ _ _ us hl => match us, hl with | [_], _ => rfl
theorem b6 : PI.BindR r6 := fun _ _ _ F => FunD.bindsN (ps := r6.ps) F fun _ _ _ _ _ _ us hl => match us, hl with | [_], _ => rfl
theorem b30 : PI.BindR r30 := fun _ _ _ F => FunD.bindsN (ps := r30.ps) F fun _ _ _ _ _ _ us hl => match us, hl with | [_], _ => rfl
theorem b31 : PI.BindR r31 := fun _ _ _ F => FunD.bindsN (ps := r31.ps) F fun _ _ _ _ _ _ us hl => match us, hl with | [_], _ => rfl
theorem b32 : PI.BindR r32 := fun _ _ _ F => FunD.bindsN (ps := r32.ps) F fun _ _ _ _ _ _ us hl => match us, hl with | [_], _ => rfl
theorem b33 : PI.BindR r33 := fun _ _ _ F => FunD.bindsN (ps := r33.ps) F fun _ _ _ _ _ _ us hl => match us, hl with | [_], _ => rfl
theorem b91 : PI.BindR r91 := fun _ _ _ F => FunD.bindsN (ps := r91.ps) F fun _ _ _ _ _ _ us hl => match us, hl with | [_, _], _ => rfl
theorem b92 : PI.BindR r92 := fun _ _ _ F => FunD.bindsN (ps := r92.ps) F fun _ _ _ _ _ _ us hl => match us, hl with | [_, _], _ => rfl
theorem b93 : PI.BindR r93 := fun _ _ _ F => FunD.bindsN (ps := r93.ps) F fun _ _ _ _ _ _ us hl => match us, hl with | [_], _ => rfl
theorem b94 : PI.BindR r94 := fun _ _ _ F => FunD.bindsN (ps := r94.ps) F fun _ _ _ _ _ _ us hl => match us, hl with | [_, _], _ => rfl
theorem b95 : PI.BindR r95 := fun _ _ _ F => FunD.bindsN (ps := r95.ps) F fun _ _ _ _ _ _ us hl => match us, hl with | [_, _], _ => rfl
theorem b96 : PI.BindR r96 := fun _ _ _ F => FunD.bindsN (ps := r96.ps) F fun _ _ _ _ _ _ us hl => match us, hl with | [_], _ => rfl
theorem b97 : PI.BindR r97 := fun _ _ _ F => FunD.bindsN (ps := r97.ps) F fun _ _ _ _ _ _ us hl => match us, hl with | [_], _ => rfl
theorem b98 : PI.BindR r98 := fun _ _ _ F => FunD.bindsN (ps := r98.ps) F fun _ _ _ _ _ _ us hl => match us, hl with | [_], _ => rfl
theorem b99 : PI.BindR r99 := fun _ _ _ F => FunD.bindsN (ps := r99.ps) F fun _ _ _ _ _ _ us hl => match us, hl with | [_], _ => rfl
theorem b17 : PI.BindR r17 := fun _ _ _ F => FunD.bindsN (ps := r17.ps) F fun _ _ _ _ _ _ us hl => match us, hl with | [_, _, _], _ => rfl
theorem b18 : PI.BindR r18 := fun _ _ _ F => FunD.bindsN (ps := r18.ps) F fun _ _ _ _ _ _ us hl => match us, hl with | [_, _], _ => rfl
theorem b19 : PI.BindR r19 := fun _ _ _ F => FunD.bindsN (ps := r19.ps) F fun _ _ _ _ _ _ us hl => match us, hl with | [_, _], _ => rfl
theorem b20 : PI.BindR r20 := fun _ _ _ F => FunD.bindsN (ps := r20.ps) F fun _ _ _ _ _ _ us hl => match us, hl with | [_, _, _, _], _ => rfl
theorem b21 : PI.BindR r21 := fun _ _ _ F => FunD.bindsN (ps := r21.ps) F fun _ _ _ _ _ _ us hl => match us, hl with | [_, _, _], _ => rfl
theorem b22 : PI.BindR r22 := fun _ _ _ F => FunD.bindsN (ps := r22.ps) F fun _ _ _ _ _ _ us hl => match us, hl with | [_, _], _ => rfl
theorem b23 : PI.BindR r23 := fun _ _ _ F => FunD.bindsN (ps := r23.ps) F fun _ _ _ _ _ _ us hl => match us, hl with | [_], _ => rfl
theorem b24 : PI.BindR r24 := fun _ _ _ F => FunD.bindsN (ps := r24.ps) F fun _ _ _ _ _ _ us hl => match us, hl with | [_], _ => rfl
theorem b25 : PI.BindR r25 := fun _ _ _ F => FunD.bindsN (ps := r25.ps) F fun _ _ _ _ _ _ us hl => match us, hl with | [_, _], _ => rfl
theorem b34 : PI.BindR r34 := fun _ _ _ F => FunD.bindsN (ps := r34.ps) F fun _ _ _ _ _ _ us hl => match us, hl with | [_, _, _], _ => rfl
theorem b35 : PI.BindR r35 := fun _ _ _ F => FunD.bindsN (ps := r35.ps) F fun _ _ _ _ _ _ us hl => match us, hl with | [_, _, _], _ => rfl
theorem b36 : PI.BindR r36 := fun _ _ _ F => FunD.bindsN (ps := r36.ps) F fun _ _ _ _ _ _ us hl => match us, hl with | [_], _ => rfl
theorem b37 : PI.BindR r37 := fun _ _ _ F => FunD.bindsN (ps := r37.ps) F fun _ _ _ _ _ _ us hl => match us, hl with | [_, _, _], _ => rfl
theorem b38 : PI.BindR r38 := fun _ _ _ F => FunD.bindsN (ps := r38.ps) F fun _ _ _ _ _ _ us hl => match us, hl with | [_, _], _ => rfl
theorem b39 : PI.BindR r39 := fun _ _ _ F => FunD.bindsN (ps := r39.ps) F fun _ _ _ _ _ _ us hl => match us, hl with | [_, _, _, _], _ => rfl
theorem b43 : PI.BindR r43 := fun _ _ _ F => FunD.bindsN (ps := r43.ps) F fun _ _ _ _ _ _ us hl => match us, hl with | [_, _], _ => rfl
theorem b44 : PI.BindR r44 := fun _ _ _ F => FunD.bindsN (ps := r44.ps) F fun _ _ _ _ _ _ us hl => match us, hl with | [_, _], _ => rfl
theorem b45 : PI.BindR r45 := fun _ _ _ F => FunD.bindsN (ps := r45.ps) F fun _ _ _ _ _ _ us hl => match us, hl with | [_, _, _], _ => rfl
theorem b46 : PI.BindR r46 := fun _ _ _ F => FunD.bindsN (ps := r46.ps) F fun _ _ _ _ _ _ us hl => match us, hl with | [_, _, _], _ => rfl
theorem b47 : PI.BindR r47 := fun _ _ _ F => FunD.bindsN (ps := r47.ps) F fun _ _ _ _ _ _ us hl => match us, hl with | [_, _, _, _], _ => rfl
theorem b48 : PI.BindR r48 := fun _ _ _ F => FunD.bindsN (ps := r48.ps) F fun _ _ _ _ _ _ us hl => match us, hl with | [_, _, _, _], _ => rfl
theorem b49 : PI.BindR r49 := fun _ _ _ F => FunD.bindsN (ps := r49.ps) F fun _ _ _ _ _ _ us hl => match us, hl with | [_, _, _], _ => rfl
theorem b61 : PI.BindR r61 := fun _ _ _ F => FunD.bindsN (ps := r61.ps) F fun _ _ _ _ _ _ us hl => match us, hl with | [_, _, _], _ => rfl
theorem b62 : PI.BindR r62 := fun _ _ _ F => FunD.bindsN (ps := r62.ps) F fun _ _ _ _ _ _ us hl => match us, hl with | [_, _], _ => rfl
theorem b63 : PI.BindR r63 := fun _ _ _ F => FunD.bindsN (ps := r63.ps) F fun _ _ _ _ _ _ us hl => match us, hl with | [_, _, _], _ => rfl
theorem b64 : PI.BindR r64 := fun _ _ _ F => FunD.bindsN (ps := r64.ps) F fun _ _ _ _ _ _ us hl => match us, hl with | [_, _, _, _], _ => rfl
theorem b65 : PI.BindR r65 := fun _ _ _ F => FunD.bindsN (ps := r65.ps) F fun _ _ _ _ _ _ us hl => match us, hl with | [_, _], _ => rfl
theorem b100 : PI.BindR r100 := fun _ _ _ F => FunD.bindsN (ps := r100.ps) F fun _ _ _ _ _ _ us hl => match us, hl with | [_], _ => rfl
theorem b101 : PI.BindR r101 := fun _ _ _ F => FunD.bindsN (ps := r101.ps) F fun _ _ _ _ _ _ us hl => match us, hl with | [_], _ => rfl
theorem b60 : PI.BindR r60 := fun _ _ _ F => FunD.bindsN (ps := r60.ps) F fun _ _ _ _ _ _ us hl => match us, hl with | [_], _ => rfl
theorem bc0 : PI.AllR PI.BindR rs_0 := by unfold rs_0; exact ⟨b0, ⟨b1, ⟨b2, ⟨b3, ⟨b4, ⟨b5, ⟨b6, ⟨b17, ⟨b18, ⟨b19, True.intro⟩⟩⟩⟩⟩⟩⟩⟩⟩⟩
theorem bc1 : PI.AllR PI.BindR rs_1 := by unfold rs_1; exact ⟨b20, ⟨b21, ⟨b22, ⟨b23, ⟨b24, ⟨b25, ⟨b30, ⟨b31, ⟨b32, ⟨b33, ⟨b34, ⟨b35, ⟨b36, ⟨b37, ⟨b38, ⟨b39, True.intro⟩⟩⟩⟩⟩⟩⟩⟩⟩⟩⟩⟩⟩⟩⟩⟩
theorem bc2 : PI.AllR PI.BindR rs_2 := by unfold rs_2; exact ⟨b43, ⟨b44, ⟨b45, ⟨b46, ⟨b47, ⟨b48, ⟨b49, True.intro⟩⟩⟩⟩⟩⟩⟩
theorem bc3 : PI.AllR PI.BindR rs_3 := by unfold rs_3; exact ⟨b60, ⟨b61, ⟨b62, ⟨b63, ⟨b64, ⟨b65, True.intro⟩⟩⟩⟩⟩⟩
theorem bc4 : PI.AllR PI.BindR rs_4 := by unfold rs_4; exact ⟨b91, ⟨b92, ⟨b93, ⟨b94, ⟨b95, ⟨b96, ⟨b97, ⟨b98, ⟨b99, True.intro⟩⟩⟩⟩⟩⟩⟩⟩⟩
theorem bc5 : PI.AllR PI.BindR rs_5 := by unfold rs_5; exact ⟨b100, ⟨b101, True.intro⟩⟩
theorem hb : PI.AllR PI.BindR L.rs := (((((bc0).app bc1).app bc2).app bc3).app bc4).app bc5
theorem hok : L.ok = true := by kernel_rfl
def nm0 : List PySem.Str := ["RoomError", "BadProgram", "BadAsk", "BadText", "LIMIT", "MOST_FUNCTIONS", "MOST_PARAMS", "MOST_SLOTS", "MOST_PARTS", "MOST_WITHIN", "MOST_DEEP", "PAIRS", "BODIES", "is_reckoning", "are_args", "is_call", "inner_of", "is_body", "parts_in", "need_program"]
def nm1 : List PySem.Str := ["FIGURES", "MOST_FIGURES", "words_of", "args_words", "body_words", "written", "Reader", "read", "MOST_CALLS", "paired", "reckoned", "all_reckoned", "need_ask", "fault_of_through", "Talk", "FAULT", "Walk", "ran", "_law_taken", "_law_alike"]
def nm2 : List PySem.Str := ["_law_e", "_law_args", "_law_call", "_law_body", "_law_program", "_law_paired", "_law_number", "_law_called", "_law_run", "_law_ask", "_law_text", "_law_whole_text"]
def nms : List PySem.Str := nm0 ++ nm1 ++ nm2
abbrev R : PySem.W.OpenRow := PySem.W.OpenLaw.row PySem.Challenge.rw_tailroom_k11_whole_written_and_read
def fa : List He.Fa := L.facts
def fn : List He.DefD := L.fn
def ts : List He.Tab := L.ts
abbrev hk : PySem.W.Hook := He.hookX 4 fa fn ts [] L.ex
def ob (s : PySem.W.SharedT) : He.AlX := He.obsX 4 fa fn ts [] L.ex (HandSHeadRun.getT s)
theorem ob_eq (s : PySem.W.SharedT) : ob s = hk.obs s.abs := He.obsX_eq (HandSHeadRun.getT_eq s)
theorem run0 (w : World) : HandSHeadRun.RunEq R (PySem.W.view R.prog [58]) hk ob 5000 nms (w.withFollow "special-get-raises" false) := by
  intro os
  kernel_rfl
theorem run1 (w : World) : HandSHeadRun.RunEq R (PySem.W.view R.prog [58]) hk ob 5000 nms (w.withFollow "special-get-raises" true) := by
  intro os
  kernel_rfl
theorem run (w : World) : HandSHeadRun.RunEq R (PySem.W.view R.prog [58]) hk ob 5000 nms w := PySem.W.byRow2 "special-get-raises" (P := fun w => HandSHeadRun.RunEq R (PySem.W.view R.prog [58]) hk ob 5000 nms w) run0 run1 w
end TR
namespace TR
open PySem PySem.Spec
theorem tgl : 67 ≤ L.tab.tg.length := by decide +kernel
theorem x0 : L.tab.fns 0 = some PI.c0 := by kernel_rfl
theorem x1 : L.tab.fns 1 = some PI.c1 := by kernel_rfl
theorem x2 : L.tab.fns 2 = some PI.c2 := by kernel_rfl
theorem x3 : L.tab.fns 3 = some PI.c3 := by kernel_rfl
theorem x4 : L.tab.fns 4 = some PI.c4 := by kernel_rfl
theorem x5 : L.tab.fns 5 = some PI.c5 := by kernel_rfl
theorem x6 : L.tab.fns 6 = some PI.c6 := by kernel_rfl
theorem x30 : L.tab.fns 30 = some PI.c30 := by kernel_rfl
theorem x31 : L.tab.fns 31 = some PI.c31 := by kernel_rfl
theorem x32 : L.tab.fns 32 = some PI.c32 := by kernel_rfl
theorem x33 : L.tab.fns 33 = some PI.c33 := by kernel_rfl
theorem x91 : L.tab.fns 91 = some PI.c91 := by kernel_rfl
theorem x92 : L.tab.fns 92 = some PI.c92 := by kernel_rfl
theorem x93 : L.tab.fns 93 = some PI.c93 := by kernel_rfl
theorem x94 : L.tab.fns 94 = some PI.c94 := by kernel_rfl
theorem x95 : L.tab.fns 95 = some PI.c95 := by kernel_rfl
theorem x96 : L.tab.fns 96 = some PI.c96v1 := by kernel_rfl
theorem x97 : L.tab.fns 97 = some PI.c97 := by kernel_rfl
theorem x98 : L.tab.fns 98 = some PI.c98v1 := by kernel_rfl
theorem x99 : L.tab.fns 99 = some PI.c99 := by kernel_rfl
theorem x17 : L.tab.fns 17 = some PI.c17 := by kernel_rfl
theorem x18 : L.tab.fns 18 = some PI.c18 := by kernel_rfl
theorem x19 : L.tab.fns 19 = some PI.c19 := by kernel_rfl
theorem x20 : L.tab.fns 20 = some PI.c20 := by kernel_rfl
theorem x21 : L.tab.fns 21 = some PI.c21 := by kernel_rfl
theorem x22 : L.tab.fns 22 = some PI.c22 := by kernel_rfl
theorem x23 : L.tab.fns 23 = some PI.c23 := by kernel_rfl
theorem x24 : L.tab.fns 24 = some PI.c24 := by kernel_rfl
theorem x25 : L.tab.fns 25 = some PI.c25 := by kernel_rfl
theorem x34 : L.tab.fns 34 = some PI.c34 := by kernel_rfl
theorem x35 : L.tab.fns 35 = some PI.c35 := by kernel_rfl
theorem x36 : L.tab.fns 36 = some PI.c36 := by kernel_rfl
theorem x37 : L.tab.fns 37 = some PI.c37 := by kernel_rfl
theorem x38 : L.tab.fns 38 = some PI.c38 := by kernel_rfl
theorem x39 : L.tab.fns 39 = some PI.c39 := by kernel_rfl
theorem x43 : L.tab.fns 43 = some PI.c43 := by kernel_rfl
theorem x44 : L.tab.fns 44 = some PI.c44 := by kernel_rfl
theorem x45 : L.tab.fns 45 = some PI.c45 := by kernel_rfl
theorem x46 : L.tab.fns 46 = some PI.c46 := by kernel_rfl
theorem x47 : L.tab.fns 47 = some PI.c47 := by kernel_rfl
theorem x48 : L.tab.fns 48 = some PI.c48 := by kernel_rfl
theorem x49 : L.tab.fns 49 = some PI.c49 := by kernel_rfl
theorem x61 : L.tab.fns 61 = some PI.c61 := by kernel_rfl
theorem x62 : L.tab.fns 62 = some PI.c62 := by kernel_rfl
theorem x63 : L.tab.fns 63 = some PI.c63 := by kernel_rfl
theorem x64 : L.tab.fns 64 = some PI.c64 := by kernel_rfl
theorem x65 : L.tab.fns 65 = some PI.c65 := by kernel_rfl
theorem x100 : L.tab.fns 100 = some PI.c100 := by kernel_rfl
theorem x101 : L.tab.fns 101 = some PI.c101 := by kernel_rfl
theorem x60 : L.tab.fns 60 = some PI.c60v10 := by kernel_rfl
theorem g0 : L.tab.gl 0 = some (.int 1000) := by kernel_rfl
theorem g1 : L.tab.gl 1 = some (.int 5) := by kernel_rfl
theorem g2 : L.tab.gl 2 = some (.int 3) := by kernel_rfl
theorem g3 : L.tab.gl 3 = some (.int 8) := by kernel_rfl
theorem g4 : L.tab.gl 4 = some (.int 30) := by kernel_rfl
theorem g5 : L.tab.gl 5 = some (.int 6) := by kernel_rfl
theorem g6 : L.tab.gl 6 = some (.int 3) := by kernel_rfl
theorem g7 : L.tab.gl 7 = some (.tup [.tag 0, .tag 1, .tag 2, .tag 3, .tag 4, .tag 5]) := by kernel_rfl
theorem g8 : L.tab.gl 8 = some (.kdt [(.tag 6, .int 2), (.tag 7, .int 3), (.tag 8, .int 4), (.tag 9, .int 3), (.tag 10, .int 3), (.tag 11, .int 4)]) := by kernel_rfl
theorem g9 : L.tab.gl 9 = some (.int 5000) := by kernel_rfl
theorem g10 : L.tab.gl 10 = some (.tup [.tag 12, .tag 3]) := by kernel_rfl
theorem g11 : L.tab.gl 11 = some (.str "0123456789") := by kernel_rfl
theorem g12 : L.tab.gl 12 = some (.int 3) := by kernel_rfl
theorem i5 : L.tab.ini 5 = some 91 := by kernel_rfl
theorem m512 : L.tab.mt 5 12 = some 92 := by kernel_rfl
theorem m513 : L.tab.mt 5 13 = some 93 := by kernel_rfl
theorem m514 : L.tab.mt 5 14 = some 94 := by kernel_rfl
theorem m515 : L.tab.mt 5 15 = some 95 := by kernel_rfl
theorem m516 : L.tab.mt 5 16 = some 96 := by kernel_rfl
theorem m517 : L.tab.mt 5 17 = some 97 := by kernel_rfl
theorem m518 : L.tab.mt 5 18 = some 98 := by kernel_rfl
theorem i0 : L.tab.ini 0 = some 22 := by kernel_rfl
theorem m01 : L.tab.mt 0 1 = some 23 := by kernel_rfl
theorem m02 : L.tab.mt 0 2 = some 24 := by kernel_rfl
theorem m03 : L.tab.mt 0 3 = some 25 := by kernel_rfl
theorem i1 : L.tab.ini 1 = some 34 := by kernel_rfl
theorem m15 : L.tab.mt 1 5 = some 35 := by kernel_rfl
theorem m16 : L.tab.mt 1 6 = some 36 := by kernel_rfl
theorem m17 : L.tab.mt 1 7 = some 37 := by kernel_rfl
theorem m18 : L.tab.mt 1 8 = some 38 := by kernel_rfl
theorem tgs : L.tab.tg = PI.TG := by kernel_rfl
theorem lib : PI.Lib11 L.tab := ⟨⟨⟨⟨tgl, x43, x45, x46⟩, x47, x48⟩, x49⟩, ⟨⟨tgl, x61, x62⟩, x63, x64⟩, ⟨⟨tgl, g0, g1, g2, g3, g4, g5, g6, g7, g8, x0, x1, x2, x3, x4, x5, x6⟩, ⟨i0, m01, m02, m03, x22, x23, x24, x25⟩, g9, g10, i1, m15, m16, m17, m18, x17, x18, x19, x20, x21, x34, x35, x36, x37, x38, x39⟩, ⟨⟨tgl, x43, x45, x46⟩, x65⟩, ⟨⟨tgl, g0, g1, g2, g3, g4, g5, g6, g7, g8, x0, x1, x2, x3, x4, x5, x6⟩, tgs, x30, x31, x32, x33⟩, ⟨⟨tgl, g0, g1, g2, g3, g4, g5, g6, g7, g8, x0, x1, x2, x3, x4, x5, x6⟩, tgs, g11, g12, i5, m512, m513, m514, m515, m516, m517, m518, x91, x92, x93, x94, x95, x96, x97, x98, x99⟩, ⟨tgl, tgs, x100, x101⟩, x44⟩
theorem plain (ns : List Int) (_ : ns.length ≤ 63) : ∃ s', PI.Run L.tab 1000000000 50 60 [.frz (ns.map .int)] PI.st0 = .ok (.bl true) s' := PI.law11 lib x60 (by omega) ns (by omega)
end TR
open PySem PySem.W PySem.Calls PyProof.Rows
theorem PySem.Challenge.cw_tailroom_k11_whole_written_and_read_holds : PySem.Challenge.rw_tailroom_k11_whole_written_and_read.Holds := by
  w_on; o_law
  refine HandSHeadRun.head_any (r := OpenLaw.row PySem.Challenge.rw_tailroom_k11_whole_written_and_read) (q := view (OpenLaw.row PySem.Challenge.rw_tailroom_k11_whole_written_and_read).prog [58]) (H := TR.hk) (ob := TR.ob) (M := 5000) (loose := TR.nms) (d := HandSHeadRun.topDef (OpenLaw.row PySem.Challenge.rw_tailroom_k11_whole_written_and_read).prog 58) (kwd := []) TR.ob_eq
    (by kernel_rfl) (fun s => by kernel_rfl) TR.run (by kernel_rfl) (by kernel_rfl) (by kernel_rfl) (by rfl) (by first | assumption | decide +kernel) (by decide +kernel) ⟨rfl, rfl, rfl, rfl, rfl, by decide +kernel⟩ ?hw ?hc
  case hw => w_witness2
  case hc =>
    refine L2.walk_ofE (l := PySem.Challenge.rw_tailroom_k11_whole_written_and_read) (n := 63) (k := 50) (x := "_law_script") (CX := L2.CX0) rfl (by decide) (by kernel_rfl) ⟨rfl, by decide, by decide⟩ ?F (fun _ _ _ _ z => z)
    intro w mg fa h Y G hmg0
    obtain ⟨K, KX, c⟩ := Y
    have hmg : mg ("law" : PySem.Str) = some (.ref fa) := by
      have e : (HandSHeadRun.topDef (OpenLaw.row PySem.Challenge.rw_tailroom_k11_whole_written_and_read).prog 58).name = ("law" : PySem.Str) := by kernel_rfl
      rw [← e]
      exact hmg0
    obtain ⟨fd, sp, h1, h2, h3⟩ := PI.law_facts (P := (PySem.Challenge.rw_tailroom_k11_whole_written_and_read).prog) (w := w) TR.L 60 "_law_script" 50 1000000000 TR.hok TR.hb TR.r60 rfl rfl KX G hmg c
      (fun fd a F s v => L2.FunD.bindsA (ps := ["_law_script"]) F (fun _ _ _ _ _ _ us hl => match us, hl with | [_], _ => rfl) s [v] rfl) TR.plain
    exact ⟨K, fd, sp, KX, h1, h2, h3⟩
